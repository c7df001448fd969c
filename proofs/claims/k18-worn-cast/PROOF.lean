import PyProof.Rows.All
import HandS.ForMost
import HandS.Steps
import HandS.TryOnly
import HandS.ExcOwn
import HandS.WordsExc
import KE.KExcSuper
import PyProof.Walk
import PyProof.WalkLemmas
import PyProof.RaisesAny
import PyProof.FactsSeq
import PyProof.SeqWrite
import HandS.Style
import KE.SortData
import KE.DataMinMax
import PyProof.FitsInt
import PyProof.ReprLoop
import HandS.NoneIn
import HandS.Defaults
import HandS.Flow
import HandS.Deep
import HandS.Comp
import HandS.Ends
import KE.GoesEnum
import HandS.Zip
import HandS.IsInst
import HandS.Wide
import HandS.TupAny
import KE.DataAny
import KE.DataCmp
import KE.DataFind
import PyProof.ReprRoads
import PyProof.CallFns
import HandS.Conv
import HandS.DictComp
import HandS.WordsDict
import PySem.Challenge.RW_hoardsread_k18_worn_on_and_cast_on
set_option Elab.async false
set_option linter.all false
set_option maxRecDepth 100000
set_option maxHeartbeats 2000000
/-! FL1: a functional reading of the hand layer: data by value, live lists owned by slots. -/
namespace L2.FL
open PySem PySem.Spec PyProof.Rows L2

/-- what a slot holds: data; an own list that may still change; a caller's list that may change (the slot is never set) -/
inductive SV where
  | d (x : PyData)
  | l (xs : List PyData)
  | p (xs : List PyData)
abbrev En := List (Option SV)
/-- what an expression gives: data, or the live list of a slot -/
inductive RV where
  | d (x : PyData)
  | b (i : Nat)
def live (en : En) (i : Nat) : Option (List PyData) := match en[i]? with
  | some (some (.l xs)) => some xs
  | some (some (.p xs)) => some xs
  | _ => none
/-- the data that a result stands for now -/
def res (en : En) : RV → Option PyData
  | .d x => some x
  | .b i => (live en i).map .list

theorem same_sqt {K : PySem.W.Frag} {H H' : Hp} {a : Addr} {xs : List V} (e : Same H H') (h : SqT K H a xs) : SqT K H' a xs := by
  rcases h with (h | ⟨o, h⟩) | h
  · exact .inl (.inl (e _ _ h))
  · exact .inl (.inr ⟨o, e _ _ h⟩)
  · exact .inr h
theorem same_rd {K : PySem.W.Frag} {H H' : Hp} {a : Addr} {u : List V} (e : Same H H') (h : SqL K H a u) : SqL K H' a u := by
  rcases h with (h | ⟨o, h⟩) | h
  · exact .inl (.inl (e _ _ h))
  · exact .inl (.inr ⟨o, e _ _ h⟩)
  · exact .inr h
mutual
/-- a value of the heap, as data -/
inductive Dq (K : PySem.W.Frag) (H : Hp) : V → PyData → Prop
  | non : Dq K H .non .none
  | bl (b : Bool) : Dq K H (.bl b) (.bool b)
  | int (i : Int) : Dq K H (.int i) (.int i)
  | str (x : Str) : Dq K H (.str x) (.str x)
  | lst {a : Addr} {vs : List V} {ds : List PyData} : SqL K H a vs → DqAll K H vs ds → Dq K H (.ref a) (.list ds)
  | tup {a : Addr} {vs : List V} {ds : List PyData} : SqT K H a vs → DqAll K H vs ds → Dq K H (.ref a) (.tuple ds)
inductive DqAll (K : PySem.W.Frag) (H : Hp) : List V → List PyData → Prop
  | nil : DqAll K H [] []
  | cons {v : V} {vs : List V} {d : PyData} {ds : List PyData} : Dq K H v d → DqAll K H vs ds → DqAll K H (v :: vs) (d :: ds)
end
mutual
theorem dq_dp {K : PySem.W.Frag} {H : Hp} : ∀ (d : PyData) (v : V), Dq K H v d → Dp K H v d
  | .none, _, h => by cases h; exact .non
  | .bool b, _, h => by cases h; exact .bl b
  | .int i, _, h => by cases h; exact .int i
  | .str x, _, h => by cases h; exact .str x
  | .list ds, _, h => by
    cases h with
    | lst hs ha => exact .lst hs (dqa_dpa ds _ ha)
  | .tuple ds, _, h => by
    cases h with
    | tup hs ha => exact .tup hs (dqa_dpa ds _ ha)
  | .dict _, _, h => by cases h
theorem dqa_dpa {K : PySem.W.Frag} {H : Hp} : ∀ (ds : List PyData) (vs : List V), DqAll K H vs ds → DpAll K H vs ds
  | [], _, h => by cases h; exact .nil
  | d :: ds, _, h => by
    cases h with
    | cons h1 h2 => exact .cons (dq_dp d _ h1) (dqa_dpa ds _ h2)
end
mutual
theorem dp_mono {K : PySem.W.Frag} {H H' : Hp} (e : Same H H') : ∀ (d : PyData) (v : V), Dq K H v d → Dq K H' v d
  | .none, _, h => by cases h; exact .non
  | .bool b, _, h => by cases h; exact .bl b
  | .int i, _, h => by cases h; exact .int i
  | .str x, _, h => by cases h; exact .str x
  | .list ds, _, h => by
    cases h with
    | lst hs ha => exact .lst (same_rd e hs) (dpa_mono e ds _ ha)
  | .tuple ds, _, h => by
    cases h with
    | tup hs ha => exact .tup (same_sqt e hs) (dpa_mono e ds _ ha)
  | .dict _, _, h => by cases h
theorem dpa_mono {K : PySem.W.Frag} {H H' : Hp} (e : Same H H') : ∀ (ds : List PyData) (vs : List V), DqAll K H vs ds → DqAll K H' vs ds
  | [], _, h => by cases h; exact .nil
  | d :: ds, _, h => by
    cases h with
    | cons h1 h2 => exact .cons (dp_mono e d _ h1) (dpa_mono e ds _ h2)
end
theorem dpa_length {K : PySem.W.Frag} {H : Hp} : ∀ {ds : List PyData} {vs : List V}, DqAll K H vs ds → vs.length = ds.length
  | [], _, h => by cases h; rfl
  | d :: ds, _, h => by
    cases h with
    | cons h1 h2 => simp [dpa_length h2]
theorem dpa_get {K : PySem.W.Frag} {H : Hp} : ∀ {ds : List PyData} {vs : List V} {i : Nat} {x : PyData}, DqAll K H vs ds → ds[i]? = some x → ∃ v, vs[i]? = some v ∧ Dq K H v x
  | [], _, i, x, h, e => by simp at e
  | d :: ds, _, 0, x, h, e => by
    cases h with
    | cons h1 h2 =>
      simp at e
      subst e
      exact ⟨_, rfl, h1⟩
  | d :: ds, _, i + 1, x, h, e => by
    cases h with
    | cons h1 h2 =>
      obtain ⟨v, e1, e2⟩ := dpa_get (i := i) (x := x) h2 (by simpa using e)
      exact ⟨v, by simpa using e1, e2⟩
theorem dpa_app {K : PySem.W.Frag} {H : Hp} : ∀ {ds es : List PyData} {vs ws : List V}, DqAll K H vs ds → DqAll K H ws es → DqAll K H (vs ++ ws) (ds ++ es)
  | [], _, _, _, h, k => by cases h; exact k
  | d :: ds, _, _, _, h, k => by
    cases h with
    | cons h1 h2 => exact .cons h1 (dpa_app h2 k)
theorem dpa_take {K : PySem.W.Frag} {H : Hp} : ∀ (n : Nat) {ds : List PyData} {vs : List V}, DqAll K H vs ds → DqAll K H (vs.take n) (ds.take n)
  | 0, _, _, _ => .nil
  | n + 1, [], _, h => by cases h; exact .nil
  | n + 1, d :: ds, _, h => by
    cases h with
    | cons h1 h2 => exact .cons h1 (dpa_take n h2)
theorem dpa_drop {K : PySem.W.Frag} {H : Hp} : ∀ (n : Nat) {ds : List PyData} {vs : List V}, DqAll K H vs ds → DqAll K H (vs.drop n) (ds.drop n)
  | 0, _, _, h => h
  | n + 1, [], _, h => by cases h; exact .nil
  | n + 1, d :: ds, _, h => by
    cases h with
    | cons h1 h2 => exact dpa_drop n h2
theorem dpa_set {K : PySem.W.Frag} {H : Hp} {v : V} {x : PyData} (hx : Dq K H v x) : ∀ (n : Nat) {ds : List PyData} {vs : List V}, DqAll K H vs ds → DqAll K H (vs.set n v) (ds.set n x)
  | _, [], _, h => by cases h; exact .nil
  | 0, d :: ds, _, h => by
    cases h with
    | cons h1 h2 => exact .cons hx h2
  | n + 1, d :: ds, _, h => by
    cases h with
    | cons h1 h2 => exact .cons h1 (dpa_set hx n h2)
theorem dpa_ints {K : PySem.W.Frag} {H : Hp} : ∀ {ns : List Int} {vs : List V}, DqAll K H vs (ns.map .int) → vs = ns.map V.int
  | [], _, h => by cases h; rfl
  | n :: ns, _, h => by
    cases h with
    | cons h1 h2 =>
      cases h1
      rw [dpa_ints h2]
      rfl
theorem dpa_of_ints {K : PySem.W.Frag} {H : Hp} : ∀ (ns : List Int), DqAll K H (ns.map V.int) (ns.map .int)
  | [] => .nil
  | n :: ns => .cons (.int n) (dpa_of_ints ns)
theorem dpa_bls {K : PySem.W.Frag} {H : Hp} : ∀ {ns : List Bool} {vs : List V}, DqAll K H vs (ns.map .bool) → vs = ns.map V.bl
  | [], _, h => by cases h; rfl
  | n :: ns, _, h => by
    cases h with
    | cons h1 h2 =>
      cases h1
      rw [dpa_bls h2]
      rfl

/-- readable now: as data for good, or as a list as it stands -/
inductive DpR (K : PySem.W.Frag) (F H : Hp) : V → PyData → Prop
  | old {v : V} {x : PyData} : Dq K F v x → DpR K F H v x
  | cur {a : Addr} {vs : List V} {xs : List PyData} : H a = some (.lst vs) → DqAll K F vs xs → DpR K F H (.ref a) (.list xs)
theorem DpR.now {K : PySem.W.Frag} {F H : Hp} {v : V} {x : PyData} (s : Same F H) (h : DpR K F H v x) : Dq K H v x := by
  cases h with
  | old h => exact dp_mono s _ _ h
  | cur h k => exact .lst (.of h) (dpa_mono s _ _ k)
theorem DpR.list {K : PySem.W.Frag} {F H : Hp} {v : V} {xs : List PyData} (s : Same F H) (h : DpR K F H v (.list xs)) : ∃ a vs, v = .ref a ∧ SqL K H a vs ∧ DqAll K F vs xs := by
  cases h with
  | old h =>
    cases h with
    | lst hs ha => exact ⟨_, _, rfl, same_rd s hs, ha⟩
  | cur h k => exact ⟨_, _, rfl, .of h, k⟩
theorem DpR.tuple {K : PySem.W.Frag} {F H : Hp} {v : V} {xs : List PyData} (s : Same F H) (h : DpR K F H v (.tuple xs)) : ∃ a vs, v = .ref a ∧ SqT K H a vs ∧ DqAll K F vs xs := by
  cases h with
  | old h =>
    cases h with
    | tup hs ha => exact ⟨_, _, rfl, same_sqt s hs, ha⟩
theorem DpR.int {K : PySem.W.Frag} {F H : Hp} {v : V} {i : Int} (h : DpR K F H v (.int i)) : v = .int i := by
  cases h with
  | old h => cases h; rfl
theorem DpR.bool {K : PySem.W.Frag} {F H : Hp} {v : V} {i : Bool} (h : DpR K F H v (.bool i)) : v = .bl i := by
  cases h with
  | old h => cases h; rfl
theorem DpR.str {K : PySem.W.Frag} {F H : Hp} {v : V} {i : Str} (h : DpR K F H v (.str i)) : v = .str i := by
  cases h with
  | old h => cases h; rfl
theorem DpR.none {K : PySem.W.Frag} {F H : Hp} {v : V} (h : DpR K F H v .none) : v = .non := by
  cases h with
  | old h => cases h; rfl

/-- F: what never changes again; G: what a caller keeps; P: the places of a caller's lists -/
structure Wd where
  F : Hp
  G : Hp
  P : List (Nat × Addr)
structure Ext (W W' : Wd) : Prop where
  F : Same W.F W'.F
  G : W'.G = W.G
  P : W'.P = W.P
theorem Ext.refl (W : Wd) : Ext W W := ⟨Same.refl _, rfl, rfl⟩
theorem Ext.trans {A B C : Wd} (a : Ext A B) (b : Ext B C) : Ext A C := ⟨a.F.trans b.F, b.G.trans a.G, b.P.trans a.P⟩

structure R (K : PySem.W.Frag) (W : Wd) (σ : St) (H : Hp) (en : En) : Prop where
  len : σ.length = en.length
  subF : Same W.F H
  subG : Same W.G H
  dis : ∀ a o, W.F a = some o → W.G a = none
  dat : ∀ (i : Nat) (x : PyData), en[i]? = some (some (.d x)) → ∃ v, σ[i]? = some (some v) ∧ Dq K W.F v x
  liv : ∀ (i : Nat) (xs : List PyData), live en i = some xs → ∃ a vs, σ[i]? = some (some (.ref a)) ∧ H a = some (.lst vs) ∧ DqAll K W.F vs xs ∧ W.F a = none ∧ W.G a = none
  sep : ∀ (i j : Nat) (a : Addr) (xs ys : List PyData), live en i = some xs → live en j = some ys → σ[i]? = some (some (.ref a)) → σ[j]? = some (some (.ref a)) → i = j
  par : ∀ q ∈ W.P, σ[q.1]? = some (some (.ref q.2)) ∧ ∃ xs, en[q.1]? = some (some (.p xs))

section
variable {K : PySem.W.Frag} {W : Wd} {σ : St} {H : Hp} {en : En}
theorem R.freshF (r : R K W σ H en) {p : Addr} (h : H p = none) : W.F p = none := r.subF.free h
theorem R.freshG (r : R K W σ H en) {p : Addr} (h : H p = none) : W.G p = none := r.subG.free h
theorem same_new {F : Hp} {p : Addr} {o : HO} (h : F p = none) : Same F (upd F p o) := fun b x e => by
  rw [upd_ne (ne_of_none e h)]
  exact e
/-- a new thing laid for good -/
theorem R.alloc (r : R K W σ H en) {p : Addr} (o : HO) (h : H p = none) : R K { W with F := upd W.F p o } σ (upd H p o) en := by
  have hF := r.freshF h
  have sF : Same W.F (upd W.F p o) := same_new hF
  refine ⟨r.len, fun a x e => ?_, fun a x e => ?_, fun a x e => ?_, fun i x e => ?_, fun i xs e => ?_, r.sep, r.par⟩
  · by_cases q : a = p
    · subst q
      have e' : upd W.F a o a = some x := e
      rw [upd_same] at e' ⊢
      exact e'
    · have e' : upd W.F p o a = some x := e
      rw [upd_ne q] at e' ⊢
      exact r.subF _ _ e'
  · have q : a ≠ p := ne_of_none e (r.freshG h)
    rw [upd_ne q]
    exact r.subG _ _ e
  · by_cases q : a = p
    · subst q
      exact r.freshG h
    · have e' : upd W.F p o a = some x := e
      rw [upd_ne q] at e'
      exact r.dis _ _ e'
  · obtain ⟨v, h1, h2⟩ := r.dat i x e
    exact ⟨v, h1, dp_mono sF _ _ h2⟩
  · obtain ⟨a, vs, h1, h2, h3, h4, h5⟩ := r.liv i xs e
    have q : a ≠ p := ne_of_none h2 h
    refine ⟨a, vs, h1, ?_, dpa_mono sF _ _ h3, ?_, h5⟩
    · rw [upd_ne q]; exact h2
    · show upd W.F p o a = none
      rw [upd_ne q]; exact h4
/-- a new thing laid that is not yet kept for good -/
theorem R.laid (r : R K W σ H en) {p : Addr} (o : HO) (h : H p = none) : R K W σ (upd H p o) en := by
  have sH : Same H (upd H p o) := same_new h
  refine ⟨r.len, r.subF.trans sH, r.subG.trans sH, r.dis, r.dat, fun i xs e => ?_, r.sep, r.par⟩
  obtain ⟨a, vs, h1, h2, h3, h4, h5⟩ := r.liv i xs e
  exact ⟨a, vs, h1, sH _ _ h2, h3, h4, h5⟩
/-- no live slot has it -/
def Unowned (σ : St) (en : En) (a : Addr) : Prop := ∀ (i : Nat) (xs : List PyData), live en i = some xs → σ[i]? ≠ some (some (.ref a))
theorem R.unowned (r : R K W σ H en) {p : Addr} (h : H p = none) : Unowned σ en p := fun i xs e q => by
  obtain ⟨a, vs, h1, h2, _⟩ := r.liv i xs e
  rw [h1] at q
  cases q
  rw [h] at h2
  cases h2
/-- what nobody owns is kept for good -/
theorem R.keep (r : R K W σ H en) {p : Addr} {o : HO} (h : H p = some o) (hF : W.F p = none) (hG : W.G p = none) (hu : Unowned σ en p) : R K { W with F := upd W.F p o } σ H en := by
  have sF : Same W.F (upd W.F p o) := same_new hF
  refine ⟨r.len, fun a x e => ?_, r.subG, fun a x e => ?_, fun i x e => ?_, fun i xs e => ?_, r.sep, r.par⟩
  · by_cases q : a = p
    · subst q
      have e' : upd W.F a o a = some x := e
      rw [upd_same] at e'
      rw [h]; exact e'
    · have e' : upd W.F p o a = some x := e
      rw [upd_ne q] at e'
      exact r.subF _ _ e'
  · by_cases q : a = p
    · subst q
      exact hG
    · have e' : upd W.F p o a = some x := e
      rw [upd_ne q] at e'
      exact r.dis _ _ e'
  · obtain ⟨v, h1, h2⟩ := r.dat i x e
    exact ⟨v, h1, dp_mono sF _ _ h2⟩
  · obtain ⟨a, vs, h1, h2, h3, h4, h5⟩ := r.liv i xs e
    have q : a ≠ p := fun z => hu i xs e (by rw [← z]; exact h1)
    refine ⟨a, vs, h1, h2, dpa_mono sF _ _ h3, ?_, h5⟩
    show upd W.F p o a = none
    rw [upd_ne q]; exact h4
theorem ext_new (r : R K W σ H en) {p : Addr} (o : HO) (hF : W.F p = none) : Ext W { W with F := upd W.F p o } := ⟨same_new hF, rfl, rfl⟩

/-- the slot may be set -/
def open_ (en : En) (i : Nat) : Bool := match en[i]? with
  | some (some (.p _)) => false
  | none => false
  | _ => true
def setS (en : En) (i : Nat) (s : SV) : Option En := if open_ en i then some (en.set i (some s)) else none
theorem open_lt {en : En} {i : Nat} (h : open_ en i = true) : i < en.length := by
  unfold open_ at h
  split at h
  · cases h
  · cases h
  · rename_i x h1 h2
    exact Decidable.byContradiction fun q => h2 (List.getElem?_eq_none (by omega))
theorem live_set_ne {en : En} {i j : Nat} {s : Option SV} (h : j ≠ i) : live (en.set i s) j = live en j := by
  unfold live
  rw [List.getElem?_set_ne (Ne.symm h)]
theorem live_set_d {en : En} {i : Nat} {x : PyData} : live (en.set i (some (.d x))) i = none := by
  unfold live
  by_cases h : i < en.length
  · rw [List.getElem?_set_self h]
  · rw [List.getElem?_eq_none (by simpa using h)]
theorem live_set_n {en : En} {i : Nat} : live (en.set i none) i = none := by
  unfold live
  by_cases h : i < en.length
  · rw [List.getElem?_set_self h]
  · rw [List.getElem?_eq_none (by simpa using h)]
theorem live_lt {en : En} {i : Nat} {xs : List PyData} (h : live en i = some xs) : i < en.length := by
  unfold live at h
  refine Decidable.byContradiction fun q => ?_
  rw [List.getElem?_eq_none (by omega)] at h
  cases h
theorem live_l {en : En} {i : Nat} {xs : List PyData} (h : en[i]? = some (some (.l xs))) : live en i = some xs := by
  unfold live; rw [h]
theorem live_p {en : En} {i : Nat} {xs : List PyData} (h : en[i]? = some (some (.p xs))) : live en i = some xs := by
  unfold live; rw [h]
theorem open_ne_p {en : En} {i : Nat} {xs : List PyData} (h : open_ en i = true) : en[i]? ≠ some (some (.p xs)) := fun e => by
  unfold open_ at h
  rw [e] at h
  cases h
/-- slot i := data -/
theorem R.setD (r : R K W σ H en) {i : Nat} {v : V} {x : PyData} (ho : open_ en i = true) (h : Dq K W.F v x) : R K W (σ.set i (some v)) H (en.set i (some (.d x))) := by
  have hl := open_lt ho
  have hσ : i < σ.length := by rw [r.len]; exact hl
  refine ⟨by simp [r.len], r.subF, r.subG, r.dis, fun j y e => ?_, fun j xs e => ?_, fun j k a xs ys e1 e2 f1 f2 => ?_, fun q hq => ?_⟩
  · by_cases z : j = i
    · subst z
      rw [List.getElem?_set_self hl] at e
      cases e
      exact ⟨v, List.getElem?_set_self hσ, h⟩
    · rw [List.getElem?_set_ne (Ne.symm z)] at e ⊢
      exact r.dat j y e
  · by_cases z : j = i
    · subst z
      rw [live_set_d] at e
      cases e
    · rw [live_set_ne z] at e
      rw [List.getElem?_set_ne (Ne.symm z)]
      exact r.liv j xs e
  · have z1 : j ≠ i := fun z => by subst z; rw [live_set_d] at e1; cases e1
    have z2 : k ≠ i := fun z => by subst z; rw [live_set_d] at e2; cases e2
    rw [live_set_ne z1] at e1
    rw [live_set_ne z2] at e2
    rw [List.getElem?_set_ne (Ne.symm z1)] at f1
    rw [List.getElem?_set_ne (Ne.symm z2)] at f2
    exact r.sep j k a xs ys e1 e2 f1 f2
  · obtain ⟨h1, xs, h2⟩ := r.par q hq
    have z : q.1 ≠ i := fun z => open_ne_p ho (by rw [← z]; exact h2)
    exact ⟨by rw [List.getElem?_set_ne (Ne.symm z)]; exact h1, xs, by rw [List.getElem?_set_ne (Ne.symm z)]; exact h2⟩
/-- slot i forgotten -/
theorem R.wipe1 (r : R K W σ H en) {i : Nat} (ho : ∀ xs : List PyData, en[i]? ≠ some (some (.p xs))) : R K W (σ.set i none) H (en.set i none) := by
  refine ⟨by simp [r.len], r.subF, r.subG, r.dis, fun j y e => ?_, fun j xs e => ?_, fun j k a xs ys e1 e2 f1 f2 => ?_, fun q hq => ?_⟩
  · by_cases z : j = i
    · subst z
      by_cases hl : j < en.length
      · rw [List.getElem?_set_self hl] at e
        cases e
      · rw [List.getElem?_eq_none (by simpa using hl)] at e
        cases e
    · rw [List.getElem?_set_ne (Ne.symm z)] at e ⊢
      exact r.dat j y e
  · by_cases z : j = i
    · subst z
      rw [live_set_n] at e
      cases e
    · rw [live_set_ne z] at e
      rw [List.getElem?_set_ne (Ne.symm z)]
      exact r.liv j xs e
  · have z1 : j ≠ i := fun z => by subst z; rw [live_set_n] at e1; cases e1
    have z2 : k ≠ i := fun z => by subst z; rw [live_set_n] at e2; cases e2
    rw [live_set_ne z1] at e1
    rw [live_set_ne z2] at e2
    rw [List.getElem?_set_ne (Ne.symm z1)] at f1
    rw [List.getElem?_set_ne (Ne.symm z2)] at f2
    exact r.sep j k a xs ys e1 e2 f1 f2
  · obtain ⟨h1, xs, h2⟩ := r.par q hq
    have z : q.1 ≠ i := fun z => ho xs (by rw [← z]; exact h2)
    exact ⟨by rw [List.getElem?_set_ne (Ne.symm z)]; exact h1, xs, by rw [List.getElem?_set_ne (Ne.symm z)]; exact h2⟩
theorem live_set_l {en : En} {i : Nat} {xs : List PyData} (h : i < en.length) : live (en.set i (some (.l xs))) i = some xs := by
  unfold live
  rw [List.getElem?_set_self h]
theorem live_set_p {en : En} {i : Nat} {xs : List PyData} (h : i < en.length) : live (en.set i (some (.p xs))) i = some xs := by
  unfold live
  rw [List.getElem?_set_self h]
/-- slot i := an own list that nobody has -/
theorem R.setL (r : R K W σ H en) {i : Nat} {a : Addr} {vs : List V} {xs : List PyData} (ho : open_ en i = true) (h : H a = some (.lst vs)) (hv : DqAll K W.F vs xs) (hF : W.F a = none) (hG : W.G a = none) (hu : Unowned σ en a) :
    R K W (σ.set i (some (.ref a))) H (en.set i (some (.l xs))) := by
  have hl := open_lt ho
  have hσ : i < σ.length := by rw [r.len]; exact hl
  refine ⟨by simp [r.len], r.subF, r.subG, r.dis, fun j y e => ?_, fun j ys e => ?_, fun j k b ys zs e1 e2 f1 f2 => ?_, fun q hq => ?_⟩
  · by_cases z : j = i
    · subst z
      rw [List.getElem?_set_self hl] at e
      cases e
    · rw [List.getElem?_set_ne (Ne.symm z)] at e ⊢
      exact r.dat j y e
  · by_cases z : j = i
    · subst z
      rw [live_set_l hl] at e
      cases e
      exact ⟨a, vs, List.getElem?_set_self hσ, h, hv, hF, hG⟩
    · rw [live_set_ne z] at e
      rw [List.getElem?_set_ne (Ne.symm z)]
      exact r.liv j ys e
  · by_cases z1 : j = i
    · subst z1
      rw [List.getElem?_set_self hσ] at f1
      cases f1
      by_cases z2 : k = j
      · exact z2.symm
      · rw [live_set_ne z2] at e2
        rw [List.getElem?_set_ne (Ne.symm z2)] at f2
        exact absurd f2 (hu k zs e2)
    · rw [live_set_ne z1] at e1
      rw [List.getElem?_set_ne (Ne.symm z1)] at f1
      by_cases z2 : k = i
      · subst z2
        rw [List.getElem?_set_self hσ] at f2
        cases f2
        exact absurd f1 (hu j ys e1)
      · rw [live_set_ne z2] at e2
        rw [List.getElem?_set_ne (Ne.symm z2)] at f2
        exact r.sep j k b ys zs e1 e2 f1 f2
  · obtain ⟨h1, ys, h2⟩ := r.par q hq
    have z : q.1 ≠ i := fun z => open_ne_p ho (by rw [← z]; exact h2)
    exact ⟨by rw [List.getElem?_set_ne (Ne.symm z)]; exact h1, ys, by rw [List.getElem?_set_ne (Ne.symm z)]; exact h2⟩

/-- the live list of slot i becomes xs -/
def putL (en : En) (i : Nat) (xs : List PyData) : En := match en[i]? with
  | some (some (.l _)) => en.set i (some (.l xs))
  | some (some (.p _)) => en.set i (some (.p xs))
  | _ => en
theorem putL_length (en : En) (i : Nat) (xs : List PyData) : (putL en i xs).length = en.length := by
  unfold putL
  split <;> simp
theorem putL_ne {en : En} {i j : Nat} {xs : List PyData} (h : j ≠ i) : (putL en i xs)[j]? = en[j]? := by
  unfold putL
  split
  · rw [List.getElem?_set_ne (Ne.symm h)]
  · rw [List.getElem?_set_ne (Ne.symm h)]
  · rfl
theorem live_putL_ne {en : En} {i j : Nat} {xs : List PyData} (h : j ≠ i) : live (putL en i xs) j = live en j := by
  unfold live
  rw [putL_ne h]
theorem live_putL {en : En} {i : Nat} {xs ys : List PyData} (h : live en i = some ys) : live (putL en i xs) i = some xs := by
  have hl := live_lt h
  unfold live at h
  unfold putL
  split at h
  · exact live_set_l hl
  · exact live_set_p hl
  · cases h
theorem putL_p {en : En} {i : Nat} {xs ys : List PyData} (h : en[i]? = some (some (.p ys))) : (putL en i xs)[i]? = some (some (.p xs)) := by
  have hl := live_lt (live_p h)
  unfold putL
  rw [h]
  exact List.getElem?_set_self hl
theorem putL_d {en : En} {i j : Nat} {xs ys : List PyData} {x : PyData} (h : live en i = some ys) (e : (putL en i xs)[j]? = some (some (.d x))) : en[j]? = some (some (.d x)) := by
  by_cases z : j = i
  · subst z
    have hl := live_lt h
    unfold live at h
    unfold putL at e
    split at h
    · rename_i zs e1
      rw [e1] at e
      simp only at e
      rw [List.getElem?_set_self hl] at e
      cases e
    · rename_i zs e1
      rw [e1] at e
      simp only at e
      rw [List.getElem?_set_self hl] at e
      cases e
    · cases h
  · rw [putL_ne z] at e
    exact e
/-- the live list at slot i is changed -/
theorem R.put (r : R K W σ H en) {i : Nat} {a : Addr} {vs : List V} {xs ys : List PyData} (h : live en i = some ys) (ha : σ[i]? = some (some (.ref a))) (hv : DqAll K W.F vs xs) :
    R K W σ (upd H a (.lst vs)) (putL en i xs) := by
  obtain ⟨a', vs', h1, h2, h3, h4, h5⟩ := r.liv i ys h
  rw [ha] at h1
  cases h1
  have neF : ∀ b o, W.F b = some o → b ≠ a := fun b o e => ne_of_none e h4
  have neG : ∀ b o, W.G b = some o → b ≠ a := fun b o e => ne_of_none e h5
  refine ⟨by rw [putL_length]; exact r.len, fun b o e => ?_, fun b o e => ?_, r.dis, fun j y e => r.dat j y (putL_d h e), fun j zs e => ?_, fun j k b zs ws e1 e2 f1 f2 => ?_, fun q hq => ?_⟩
  · rw [upd_ne (neF b o e)]; exact r.subF _ _ e
  · rw [upd_ne (neG b o e)]; exact r.subG _ _ e
  · by_cases z : j = i
    · subst z
      rw [live_putL h] at e
      cases e
      exact ⟨a, vs, ha, upd_same, hv, h4, h5⟩
    · rw [live_putL_ne z] at e
      obtain ⟨b, ws, g1, g2, g3, g4, g5⟩ := r.liv j zs e
      have ne : b ≠ a := fun q => z (r.sep j i a zs ys e h (by rw [← q]; exact g1) ha)
      exact ⟨b, ws, g1, by rw [upd_ne ne]; exact g2, g3, g4, g5⟩
  · have l1 : ∃ zs', live en j = some zs' := by
      by_cases z : j = i
      · subst z; exact ⟨_, h⟩
      · rw [live_putL_ne z] at e1; exact ⟨_, e1⟩
    have l2 : ∃ zs', live en k = some zs' := by
      by_cases z : k = i
      · subst z; exact ⟨_, h⟩
      · rw [live_putL_ne z] at e2; exact ⟨_, e2⟩
    obtain ⟨_, l1⟩ := l1
    obtain ⟨_, l2⟩ := l2
    exact r.sep j k b _ _ l1 l2 f1 f2
  · obtain ⟨g1, zs, g2⟩ := r.par q hq
    refine ⟨g1, ?_⟩
    by_cases z : q.1 = i
    · rw [z] at g2 ⊢
      exact ⟨xs, putL_p g2⟩
    · rw [putL_ne z]
      exact ⟨zs, g2⟩
/-- what a result stands for is readable -/
def RVal (K : PySem.W.Frag) (F : Hp) (σ : St) (v : V) : RV → Prop
  | .d x => Dq K F v x
  | .b i => σ[i]? = some (some v)
theorem RVal.mono {F F' : Hp} {v : V} {r : RV} (s : Same F F') (h : RVal K F σ v r) : RVal K F' σ v r := by
  cases r with
  | d x => exact dp_mono s _ _ h
  | b i => exact h
theorem R.res (r : R K W σ H en) {v : V} {q : RV} {x : PyData} (h : RVal K W.F σ v q) (e : res en q = some x) : DpR K W.F H v x := by
  cases q with
  | d y =>
    cases e
    exact .old h
  | b i =>
    have e : (live en i).map PyData.list = some x := e
    cases hl : live en i with
    | none => rw [hl] at e; cases e
    | some xs =>
      rw [hl] at e
      cases e
      obtain ⟨a, vs, h1, h2, h3, _⟩ := r.liv i xs hl
      have hv : σ[i]? = some (some v) := h
      rw [h1] at hv
      cases hv
      exact .cur h2 h3
end
end L2.FL
set_option Elab.async false
set_option linter.all false
set_option maxRecDepth 100000
set_option maxHeartbeats 2000000
/-! FL2: expressions, tests, arguments, with their functional readings. -/
namespace L2.FL
open PySem PySem.Spec PyProof.Rows L2

abbrev EF := En → Option (RV × En)
abbrev TF := En → Option (Bool × En)
abbrev AF := En → Option (List RV × En)
abbrev LF := En → Option (List PyData × En)

inductive RVals (K : PySem.W.Frag) (F : Hp) (σ : St) : List V → List RV → Prop
  | nil : RVals K F σ [] []
  | cons {v : V} {vs : List V} {r : RV} {rs : List RV} : RVal K F σ v r → RVals K F σ vs rs → RVals K F σ (v :: vs) (r :: rs)
theorem RVals.mono {K : PySem.W.Frag} {F F' : Hp} {σ : St} (s : Same F F') : ∀ {vs : List V} {rs : List RV}, RVals K F σ vs rs → RVals K F' σ vs rs
  | _, _, .nil => .nil
  | _, _, .cons h t => .cons (h.mono s) (t.mono s)

def SEt (K : PySem.W.Frag) (t : TE) (f : EF) : Prop := ∀ (W : Wd) (σ : St) (H : Hp) (en : En) (r : RV) (en' : En) (Q : VK), R K W σ H en → f en = some (r, en') →
  (∀ v W' H', Ext W W' → R K W' σ H' en' → RVal K W'.F σ v r → Q v H') → t σ H Q
def STt (K : PySem.W.Frag) (t : TT) (f : TF) : Prop := ∀ (W : Wd) (σ : St) (H : Hp) (en : En) (r : Bool) (en' : En) (Q : Bool → Hp → Prop), R K W σ H en → f en = some (r, en') →
  (∀ W' H', Ext W W' → R K W' σ H' en' → Q r H') → t σ H Q
def SAt (K : PySem.W.Frag) (t : TA) (f : AF) : Prop := ∀ (W : Wd) (σ : St) (H : Hp) (en : En) (r : List RV) (en' : En) (Q : List V → Hp → Prop), R K W σ H en → f en = some (r, en') →
  (∀ vs W' H', Ext W W' → R K W' σ H' en' → RVals K W'.F σ vs r → Q vs H') → t σ H Q
/-- a new list that nobody has -/
def SLt (K : PySem.W.Frag) (t : TE) (f : LF) : Prop := ∀ (W : Wd) (σ : St) (H : Hp) (en : En) (xs : List PyData) (en' : En) (Q : VK), R K W σ H en → f en = some (xs, en') →
  (∀ a vs W' H', Ext W W' → R K W' σ H' en' → H' a = some (.lst vs) → DqAll K W'.F vs xs → W'.F a = none → W'.G a = none → Unowned σ en' a → Q (.ref a) H') → t σ H Q
structure SE (X : Cx) (e : Expr) (f : EF) : Prop where
  run : ∃ t, PE X e t ∧ SEt X.K t f
structure ST (X : Cx) (e : Expr) (f : TF) : Prop where
  run : ∃ t, PT X e t ∧ STt X.K t f
structure SW (X : Cx) (e : Expr) (f : TF) : Prop where
  run : ∃ t, PW X e t ∧ STt X.K t f
structure SA (X : Cx) (es : List Expr) (f : AF) : Prop where
  run : ∃ t, PA X es t ∧ SAt X.K t f
structure SL (X : Cx) (e : Expr) (f : LF) : Prop where
  run : ∃ t, PE X e t ∧ SLt X.K t f

/-! ### the readings as functions -/
def fVar (i : Nat) : EF := fun en => match en[i]? with
  | some (some (.d x)) => some (.d x, en)
  | some (some (.l _)) => some (.b i, en)
  | some (some (.p _)) => some (.b i, en)
  | _ => none
def fC (x : PyData) : EF := fun en => some (.d x, en)
/-- the own list of slot i, kept for good from here on -/
def fFrz (i : Nat) : EF := fun en => match en[i]? with
  | some (some (.l xs)) => some (.d (.list xs), en.set i (some (.d (.list xs))))
  | some (some (.d x)) => some (.d x, en)
  | _ => none
def fOfL (f : LF) : EF := fun en => (f en).bind fun p => some (.d (.list p.1), p.2)
def f1 (o : PyData → Option PyData) (f : EF) : EF := fun en => (f en).bind fun p => (res p.2 p.1).bind fun x => (o x).bind fun z => some (.d z, p.2)
def f2 (o : PyData → PyData → Option PyData) (f g : EF) : EF := fun en => (f en).bind fun p => (g p.2).bind fun q => (res q.2 p.1).bind fun x => (res q.2 q.1).bind fun y => (o x y).bind fun z => some (.d z, q.2)
def fNil : AF := fun en => some ([], en)
def fCons (f : EF) (g : AF) : AF := fun en => (f en).bind fun p => (g p.2).bind fun q => some (p.1 :: q.1, q.2)
def resL (en : En) : List RV → Option (List PyData)
  | [] => some []
  | r :: rs => (res en r).bind fun x => (resL en rs).bind fun xs => some (x :: xs)
/-- the data of plain results -/
def datL : List RV → Option (List PyData)
  | [] => some []
  | .d x :: rs => (datL rs).bind fun xs => some (x :: xs)
  | .b _ :: _ => none
def fB (o : List PyData → Option PyData) (f : AF) : EF := fun en => (f en).bind fun p => (resL p.2 p.1).bind fun xs => (o xs).bind fun z => some (.d z, p.2)
def fTup (f : AF) : EF := fun en => (f en).bind fun p => (datL p.1).bind fun xs => if xs.length ≤ sizeLine then some (.d (.tuple xs), p.2) else none
def fLst (f : AF) : LF := fun en => (f en).bind fun p => (datL p.1).bind fun xs => if xs.length ≤ sizeLine then some (xs, p.2) else none
def fBool (f : EF) : TF := fun en => (f en).bind fun p => (res p.2 p.1).bind fun x => match x with
  | .bool b => some (b, p.2)
  | _ => none
def tru : PyData → Option Bool
  | .none => some false
  | .bool b => some b
  | .int i => some (i != 0)
  | .str s => if s.length ≤ sizeLine then some ((s.length : Int) != 0) else none
  | .list xs => some (!xs.isEmpty)
  | .tuple xs => some (!xs.isEmpty)
  | .dict _ => none
def fTru (f : EF) : TF := fun en => (f en).bind fun p => (res p.2 p.1).bind fun x => (tru x).bind fun b => some (b, p.2)
def fAnd (f g : TF) : TF := fun en => (f en).bind fun p => if p.1 = true then g p.2 else some (false, p.2)
def fOr (f g : TF) : TF := fun en => (f en).bind fun p => if p.1 = true then some (true, p.2) else g p.2
def fNot (f : TF) : TF := fun en => (f en).bind fun p => some (!p.1, p.2)
def fIfE (c : TF) (f g : EF) : EF := fun en => (c en).bind fun p => if p.1 = true then f p.2 else g p.2
def fAndV (f g : EF) : EF := fun en => (f en).bind fun p => match p.1 with
  | .d (.bool b) => if b = true then g p.2 else some (.d (.bool false), p.2)
  | _ => none
def fOrV (f g : EF) : EF := fun en => (f en).bind fun p => match p.1 with
  | .d (.bool b) => if b = true then some (.d (.bool true), p.2) else g p.2
  | _ => none
def fNotV (f : EF) : EF := fun en => (f en).bind fun p => match p.1 with
  | .d (.bool b) => some (.d (.bool (!b)), p.2)
  | _ => none
def isN : PyData → Bool
  | .none => true
  | _ => false
def fIsN (f : EF) : EF := fun en => (f en).bind fun p => (res p.2 p.1).bind fun x => some (.d (.bool (isN x)), p.2)
def fNotN (f : EF) : EF := fun en => (f en).bind fun p => (res p.2 p.1).bind fun x => some (.d (.bool (!isN x)), p.2)
def fChain (o o' : PyData → PyData → Option PyData) (f g h : EF) : EF := fun en => (f en).bind fun p => (g p.2).bind fun q => (res q.2 p.1).bind fun x => (res q.2 q.1).bind fun y => (o x y).bind fun z => match z with
  | .bool true => (h q.2).bind fun s => (res s.2 q.1).bind fun y' => (res s.2 s.1).bind fun u => (o' y' u).bind fun t => some (.d t, s.2)
  | .bool false => some (.d (.bool false), q.2)
  | _ => none

section
variable {X : Cx}
/-! ### the rules -/
theorem se_var (i : Nat) {x : Str} {pos : Pos} (hN : X.N[i]? = some x := by rfl) (hv : Vis X.env.scope x := by first | exact Or.inl rfl | exact Or.inr (Or.inl rfl) | exact Or.inr (Or.inr rfl)) (hd : (x == ("__debug__" : Str)) = false := by decide)
    (hcd : (x == ("__classdict__" : Str)) = false := by decide) : SE X (.Name x pos) (fVar i) := by
  refine ⟨tVar i, pe_var hN hv hd hcd, fun W σ H en r en' Q hR hf q => ?_⟩
  unfold fVar at hf
  split at hf
  · rename_i y e
    cases hf
    obtain ⟨v, h1, h2⟩ := hR.dat i y e
    exact ⟨v, h1, q v W H (Ext.refl _) hR h2⟩
  · rename_i y e
    cases hf
    obtain ⟨a, vs, h1, _⟩ := hR.liv i y (live_l e)
    exact ⟨.ref a, h1, q _ W H (Ext.refl _) hR h1⟩
  · rename_i y e
    cases hf
    obtain ⟨a, vs, h1, _⟩ := hR.liv i y (live_p e)
    exact ⟨.ref a, h1, q _ W H (Ext.refl _) hR h1⟩
  · cases hf
theorem set_self_id {α : Type} {l : List α} {i : Nat} {x : α} (h : l[i]? = some x) : l.set i x = l := by
  apply List.ext_getElem?
  intro j
  by_cases z : j = i
  · subst z
    obtain ⟨hl, _⟩ := List.getElem?_eq_some_iff.mp h
    rw [List.getElem?_set_self hl, h]
  · rw [List.getElem?_set_ne (Ne.symm z)]
theorem R.freeze {K : PySem.W.Frag} {W : Wd} {σ : St} {H : Hp} {en : En} (r : R K W σ H en) {i : Nat} {xs : List PyData} (e : en[i]? = some (some (.l xs))) :
    ∃ a W', σ[i]? = some (some (.ref a)) ∧ Ext W W' ∧ R K W' σ H (en.set i (some (.d (.list xs)))) ∧ Dq K W'.F (.ref a) (.list xs) := by
  obtain ⟨a, vs, h1, h2, h3, h4, h5⟩ := r.liv i xs (live_l e)
  have r1 : R K W (σ.set i none) H (en.set i none) := r.wipe1 fun ys z => by rw [e] at z; cases z
  have hu : Unowned (σ.set i none) (en.set i none) a := fun j ys hj q => by
    have z : j ≠ i := fun z => by subst z; rw [live_set_n] at hj; cases hj
    rw [live_set_ne z] at hj
    rw [List.getElem?_set_ne (Ne.symm z)] at q
    exact z (r.sep j i a ys xs hj (live_l e) q h1)
  have r2 := r1.keep h2 h4 h5 hu
  have hdp : Dq K (upd W.F a (.lst vs)) (.ref a) (.list xs) := .lst (.of upd_same) (dpa_mono (same_new h4) _ _ h3)
  have hl : i < en.length := live_lt (live_l e)
  have ho : open_ (en.set i none) i = true := by
    unfold open_
    rw [List.getElem?_set_self hl]
  have r3 := r2.setD (i := i) (v := .ref a) (x := .list xs) ho hdp
  rw [List.set_set, List.set_set, set_self_id h1] at r3
  exact ⟨a, _, h1, ext_new r _ h4, r3, hdp⟩
theorem se_frz (i : Nat) {x : Str} {pos : Pos} (hN : X.N[i]? = some x := by rfl) (hv : Vis X.env.scope x := by first | exact Or.inl rfl | exact Or.inr (Or.inl rfl) | exact Or.inr (Or.inr rfl)) (hd : (x == ("__debug__" : Str)) = false := by decide)
    (hcd : (x == ("__classdict__" : Str)) = false := by decide) : SE X (.Name x pos) (fFrz i) := by
  refine ⟨tVar i, pe_var hN hv hd hcd, fun W σ H en r en' Q hR hf q => ?_⟩
  unfold fFrz at hf
  split at hf
  · rename_i xs e
    cases hf
    obtain ⟨a, W', h1, hx, r2, hdp⟩ := hR.freeze e
    exact ⟨.ref a, h1, q _ W' H hx r2 hdp⟩
  · rename_i y e
    cases hf
    obtain ⟨v, h1, h2⟩ := hR.dat i y e
    exact ⟨v, h1, q v W H (Ext.refl _) hR h2⟩
  · cases hf
theorem se_int {i j pos} : SE X (.Constant (.int i) j pos) (fC (.int i)) := ⟨_, pe_int, fun W σ H en r en' Q hR hf q => by cases hf; exact q _ W H (Ext.refl _) hR (.int i)⟩
theorem se_bl {b j pos} : SE X (.Constant (.bool b) j pos) (fC (.bool b)) := ⟨_, pe_bl, fun W σ H en r en' Q hR hf q => by cases hf; exact q _ W H (Ext.refl _) hR (.bl b)⟩
theorem se_non {j pos} : SE X (.Constant .none j pos) (fC .none) := ⟨_, pe_non, fun W σ H en r en' Q hR hf q => by cases hf; exact q _ W H (Ext.refl _) hR .non⟩
theorem se_str {x j pos} : SE X (.Constant (.str x) j pos) (fC (.str x)) := ⟨_, pe_str, fun W σ H en r en' Q hR hf q => by cases hf; exact q _ W H (Ext.refl _) hR (.str x)⟩
/-- a module's number -/
theorem se_globI {x : Str} {i : Int} {t : Tok} {pos : Pos} (hg : Gl X x) (hm : X.mg x = some (.int i t)) (hd : (x == ("__debug__" : Str)) = false := by decide) : SE X (.Name x pos) (fC (.int i)) :=
  ⟨_, pe_glob (v := .int i) hg hm ⟨_, rfl⟩ hd, fun W σ H en r en' Q hR hf q => by cases hf; exact q _ W H (Ext.refl _) hR (.int i)⟩
theorem se_globS {x : Str} {i : Str} {t : Tok} {pos : Pos} (hg : Gl X x) (hm : X.mg x = some (.str i t)) (hd : (x == ("__debug__" : Str)) = false := by decide) : SE X (.Name x pos) (fC (.str i)) :=
  ⟨_, pe_glob (v := .str i) hg hm ⟨_, rfl⟩ hd, fun W σ H en r en' Q hR hf q => by cases hf; exact q _ W H (Ext.refl _) hR (.str i)⟩
/-- a new list, kept for good -/
theorem se_ofL {e : Expr} {f : LF} (h : SL X e f) : SE X e (fOfL f) := by
  obtain ⟨t, hp, ht⟩ := h.run
  refine ⟨t, hp, fun W σ H en r en' Q hR hf q => ?_⟩
  unfold fOfL at hf
  cases hfe : f en with
  | none => rw [hfe] at hf; cases hf
  | some p =>
    obtain ⟨xs, en1⟩ := p
    rw [hfe] at hf
    cases hf
    refine ht W σ H en xs en1 Q hR hfe fun a vs W' H' hx hR' h1 h2 h3 h4 h5 => ?_
    have r2 := hR'.keep h1 h3 h4 h5
    exact q _ _ H' (hx.trans (ext_new hR' _ h3)) r2 (.lst (.of upd_same) (dpa_mono (same_new h3) _ _ h2))

/-! ### operators by values -/
def S1 (K : PySem.W.Frag) (r : V → Hp → VK → Prop) (o : PyData → Option PyData) : Prop := ∀ (F H : Hp) (v : V) (x z : PyData) (Q : VK), Same F H → DpR K F H v x → o x = some z →
  (∀ u, Dq K F u z → Q u H) → (∀ p h, H p = none → Dq K (upd F p h) (.ref p) z → Q (.ref p) (upd H p h)) → r v H Q
def S2 (K : PySem.W.Frag) (r : R2) (o : PyData → PyData → Option PyData) : Prop := ∀ (F H : Hp) (v w : V) (x y z : PyData) (Q : VK), Same F H → DpR K F H v x → DpR K F H w y → o x y = some z →
  (∀ u, Dq K F u z → Q u H) → (∀ p h, H p = none → Dq K (upd F p h) (.ref p) z → Q (.ref p) (upd H p h)) → r v w H Q
inductive DpRs (K : PySem.W.Frag) (F H : Hp) : List V → List PyData → Prop
  | nil : DpRs K F H [] []
  | cons {v : V} {vs : List V} {x : PyData} {xs : List PyData} : DpR K F H v x → DpRs K F H vs xs → DpRs K F H (v :: vs) (x :: xs)
def SB (K : PySem.W.Frag) (r : List V → Hp → VK → Prop) (o : List PyData → Option PyData) : Prop := ∀ (F H : Hp) (vs : List V) (xs : List PyData) (z : PyData) (Q : VK), Same F H → DpRs K F H vs xs → o xs = some z →
  (∀ u, Dq K F u z → Q u H) → (∀ p h, H p = none → Dq K (upd F p h) (.ref p) z → Q (.ref p) (upd H p h)) → r vs H Q
/-- what both ways out of a value rule come to -/
theorem two_ends {K : PySem.W.Frag} {W0 W : Wd} {σ : St} {H : Hp} {en : En} {z : PyData} {Q : VK} (x0 : Ext W0 W) (hR : R K W σ H en) (q : ∀ v W' H', Ext W0 W' → R K W' σ H' en → RVal K W'.F σ v (.d z) → Q v H') :
    (∀ u, Dq K W.F u z → Q u H) ∧ (∀ p h, H p = none → Dq K (upd W.F p h) (.ref p) z → Q (.ref p) (upd H p h)) :=
  ⟨fun u hu => q u W H x0 hR hu, fun p h hp hd => q _ _ _ (x0.trans (ext_new hR h (hR.freshF hp))) (hR.alloc h hp) hd⟩
theorem bindS {α β : Type} {o : Option α} {f : α → Option β} {b : β} (h : o.bind f = some b) : ∃ a, o = some a ∧ f a = some b := by
  cases o with
  | none => cases h
  | some a => exact ⟨a, rfl, h⟩
theorem set1 {r : V → Hp → VK → Prop} {o : PyData → Option PyData} {t : TE} {f : EF} (h : SEt X.K t f) (s : S1 X.K r o) : SEt X.K (tUn r t) (f1 o f) := by
  intro W σ H en r' en' Q hR hf q
  simp only [f1, f2, fB, fTup, fLst, fBool, fTru, fAnd, fOr, fNot, fIfE, fAndV, fOrV, fNotV, fIsN, fNotN, fChain, fCons, Option.bind_eq_some_iff] at hf
  obtain ⟨⟨q1, en1⟩, e1, x, e2, z, e3, hf⟩ := hf
  cases hf
  refine h W σ H en q1 en1 _ hR e1 fun v W1 H1 x1 R1 v1 => ?_
  obtain ⟨k1, k2⟩ := two_ends x1 R1 q
  exact s W1.F H1 v x z Q R1.subF (R1.res v1 e2) e3 k1 k2
theorem se_un {op : UnaryOp} {r : V → Hp → VK → Prop} {o : PyData → Option PyData} {a : Expr} {f : EF} {pos : Pos} (ho : UnR X (unaryOp op) r) (s : S1 X.K r o) (ha : SE X a f) : SE X (.UnaryOp op a pos) (f1 o f) := by
  obtain ⟨t, hp, ht⟩ := ha.run
  exact ⟨_, pe_un ho hp, set1 ht s⟩
theorem set2 {r : R2} {o : PyData → PyData → Option PyData} {t u : TE} {f g : EF} (h : SEt X.K t f) (k : SEt X.K u g) (s : S2 X.K r o) : SEt X.K (tOp r t u) (f2 o f g) := by
  intro W σ H en r' en' Q hR hf q
  simp only [f1, f2, fB, fTup, fLst, fBool, fTru, fAnd, fOr, fNot, fIfE, fAndV, fOrV, fNotV, fIsN, fNotN, fChain, fCons, Option.bind_eq_some_iff] at hf
  obtain ⟨⟨q1, en1⟩, e1, ⟨q2, en2⟩, e2, x, e3, y, e4, z, e5, hf⟩ := hf
  cases hf
  refine h W σ H en q1 en1 _ hR e1 fun v W1 H1 x1 R1 v1 => ?_
  refine k W1 σ H1 en1 q2 en2 _ R1 e2 fun w W2 H2 x2 R2' v2 => ?_
  obtain ⟨k1, k2⟩ := two_ends (x1.trans x2) R2' q
  exact s W2.F H2 v w x y z Q R2'.subF (R2'.res (v1.mono x2.F) e3) (R2'.res v2 e4) e5 k1 k2
theorem se_op {op : Operator} {r : R2} {o : PyData → PyData → Option PyData} {a b : Expr} {f g : EF} {pos : Pos} (ho : OpR X (binaryOp op) r) (s : S2 X.K r o) (ha : SE X a f) (hb : SE X b g) : SE X (.BinOp a op b pos) (f2 o f g) := by
  obtain ⟨t, hp, ht⟩ := ha.run
  obtain ⟨u, hq, hu⟩ := hb.run
  exact ⟨_, pe_op ho hp hq, set2 ht hu s⟩
theorem se_cmp {op : CmpOp} {r : R2} {o : PyData → PyData → Option PyData} {a b : Expr} {f g : EF} {pos : Pos} (ho : OpR X (compareOp op) r) (s : S2 X.K r o) (ha : SE X a f) (hb : SE X b g) (hm : behindInMarks op b = false) : SE X (.Compare a [op] [b] pos) (f2 o f g) := by
  obtain ⟨t, hp, ht⟩ := ha.run
  obtain ⟨u, hq, hu⟩ := hb.run
  exact ⟨_, pe_cmpR ho hp hq hm, set2 ht hu s⟩
theorem stt_bool {t : TE} {f : EF} (h : SEt X.K t f) : STt X.K (tTest t) (fBool f) := by
  intro W σ H en r en' Q hR hf q
  simp only [f1, f2, fB, fTup, fLst, fBool, fTru, fAnd, fOr, fNot, fIfE, fAndV, fOrV, fNotV, fIsN, fNotN, fChain, fCons, Option.bind_eq_some_iff] at hf
  obtain ⟨⟨q1, en1⟩, e1, x, e2, hf⟩ := hf
  simp only at hf
  split at hf
  · rename_i b
    cases hf
    refine h W σ H en q1 _ _ hR e1 fun v W1 H1 x1 R1 v1 => ?_
    exact ⟨r, (R1.res v1 e2).bool, q W1 H1 x1 R1⟩
  · cases hf
theorem st_cmp {op : CmpOp} {r : R2} {o : PyData → PyData → Option PyData} {a b : Expr} {f g : EF} {pos : Pos} (ho : OpR X (compareOp op) r) (s : S2 X.K r o) (ha : SE X a f) (hb : SE X b g) (hm : behindInMarks op b = false) : ST X (.Compare a [op] [b] pos) (fBool (f2 o f g)) := by
  obtain ⟨t, hp, ht⟩ := ha.run
  obtain ⟨u, hq, hu⟩ := hb.run
  exact ⟨_, pt_cmpR ho hp hq hm, stt_bool (set2 ht hu s)⟩
theorem st_val {e : Expr} {f : EF} (h : SE X e f) (he : ∀ whole, isTrue e X.env whole = (do let v ← whole; standAt e.pos; holding [v] (truthy v)) := by intro _; rfl) : ST X e (fBool f) := by
  obtain ⟨t, hp, ht⟩ := h.run
  exact ⟨_, pt_val hp he, stt_bool ht⟩
theorem st_tru {e : Expr} {f : EF} (h : SE X e f) (he : ∀ whole, isTrue e X.env whole = (do let v ← whole; standAt e.pos; holding [v] (truthy v)) := by intro _; rfl) : ST X e (fTru f) := by
  obtain ⟨t, hp, ht⟩ := h.run
  refine ⟨_, pt_truth hp he, fun W σ H en r en' Q hR hf q => ?_⟩
  simp only [f1, f2, fB, fTup, fLst, fBool, fTru, fAnd, fOr, fNot, fIfE, fAndV, fOrV, fNotV, fIsN, fNotN, fChain, fCons, Option.bind_eq_some_iff] at hf
  obtain ⟨⟨q1, en1⟩, e1, x, e2, b, e3, hf⟩ := hf
  cases hf
  refine ht W σ H en q1 en1 _ hR e1 fun v W1 H1 x1 R1 v1 => ?_
  refine ⟨r, ?_, q W1 H1 x1 R1⟩
  have hd := R1.res v1 e2
  cases x with
  | none => cases hd.none; cases e3; rfl
  | bool b => cases hd.bool; cases e3; rfl
  | int i => cases hd.int; cases e3; rfl
  | str s =>
    cases hd.str
    simp only [tru] at e3
    split at e3
    · rename_i hs
      cases e3
      exact ⟨hs, rfl⟩
    · cases e3
  | list xs =>
    obtain ⟨a, vs, rfl, h1, h2⟩ := hd.list R1.subF
    cases e3
    refine .inl ⟨vs, h1, ?_⟩
    cases h2 <;> rfl
  | tuple xs =>
    obtain ⟨a, vs, rfl, h1, h2⟩ := hd.tuple R1.subF
    cases e3
    refine .inr (.inl ⟨vs, h1, ?_⟩)
    cases h2 <;> rfl
  | dict kvs => cases e3
theorem st_and1 {a : Expr} {f : TF} {pos : Pos} (h : ST X a f) : SW X (.BoolOp .And [a] pos) f := by
  obtain ⟨t, hp, ht⟩ := h.run
  exact ⟨t, pw_and1 hp, ht⟩
theorem st_or1 {a : Expr} {f : TF} {pos : Pos} (h : ST X a f) : SW X (.BoolOp .Or [a] pos) f := by
  obtain ⟨t, hp, ht⟩ := h.run
  exact ⟨t, pw_or1 hp, ht⟩
theorem st_and {a b : Expr} {rest : List Expr} {f g : TF} {pos : Pos} (h : ST X a f) (k : SW X (.BoolOp .And (b :: rest) pos) g) : SW X (.BoolOp .And (a :: b :: rest) pos) (fAnd f g) := by
  obtain ⟨t, hp, ht⟩ := h.run
  obtain ⟨u, hq, hu⟩ := k.run
  refine ⟨_, pw_and hp hq, fun W σ H en r en' Q hR hf q => ?_⟩
  simp only [f1, f2, fB, fTup, fLst, fBool, fTru, fAnd, fOr, fNot, fIfE, fAndV, fOrV, fNotV, fIsN, fNotN, fChain, fCons, Option.bind_eq_some_iff] at hf
  obtain ⟨⟨c, en1⟩, e1, hf⟩ := hf
  refine ht W σ H en c en1 _ hR e1 fun W1 H1 x1 R1 => ?_
  simp only at hf
  cases c with
  | true =>
    rw [if_pos rfl] at hf ⊢
    exact hu W1 σ H1 en1 r en' Q R1 hf fun W2 H2 x2 R2' => q W2 H2 (x1.trans x2) R2'
  | false =>
    rw [if_neg Bool.false_ne_true] at hf ⊢
    cases hf
    exact q W1 H1 x1 R1
theorem st_or {a b : Expr} {rest : List Expr} {f g : TF} {pos : Pos} (h : ST X a f) (k : SW X (.BoolOp .Or (b :: rest) pos) g) : SW X (.BoolOp .Or (a :: b :: rest) pos) (fOr f g) := by
  obtain ⟨t, hp, ht⟩ := h.run
  obtain ⟨u, hq, hu⟩ := k.run
  refine ⟨_, pw_or hp hq, fun W σ H en r en' Q hR hf q => ?_⟩
  simp only [f1, f2, fB, fTup, fLst, fBool, fTru, fAnd, fOr, fNot, fIfE, fAndV, fOrV, fNotV, fIsN, fNotN, fChain, fCons, Option.bind_eq_some_iff] at hf
  obtain ⟨⟨c, en1⟩, e1, hf⟩ := hf
  refine ht W σ H en c en1 _ hR e1 fun W1 H1 x1 R1 => ?_
  simp only at hf
  cases c with
  | true =>
    rw [if_pos rfl] at hf ⊢
    cases hf
    exact q W1 H1 x1 R1
  | false =>
    rw [if_neg Bool.false_ne_true] at hf ⊢
    exact hu W1 σ H1 en1 r en' Q R1 hf fun W2 H2 x2 R2' => q W2 H2 (x1.trans x2) R2'
theorem st_w {e : Expr} {f : TF} (h : SW X e f) : ST X e f := by
  obtain ⟨t, hp, ht⟩ := h.run
  exact ⟨t, hp.pt, ht⟩
theorem st_not {a : Expr} {f : TF} {pos : Pos} (h : ST X a f) : ST X (.UnaryOp .Not a pos) (fNot f) := by
  obtain ⟨t, hp, ht⟩ := h.run
  refine ⟨_, pt_not hp, fun W σ H en r en' Q hR hf q => ?_⟩
  simp only [f1, f2, fB, fTup, fLst, fBool, fTru, fAnd, fOr, fNot, fIfE, fAndV, fOrV, fNotV, fIsN, fNotN, fChain, fCons, Option.bind_eq_some_iff] at hf
  obtain ⟨⟨c, en1⟩, e1, hf⟩ := hf
  cases hf
  exact ht W σ H en c en1 _ hR e1 fun W1 H1 x1 R1 => q W1 H1 x1 R1
theorem se_ifE {c a b : Expr} {f : TF} {g h : EF} {pos : Pos} (hc : ST X c f) (ha : SE X a g) (hb : SE X b h) : SE X (.IfExp c a b pos) (fIfE f g h) := by
  obtain ⟨t, hp, ht⟩ := hc.run
  obtain ⟨u, hq, hu⟩ := ha.run
  obtain ⟨w, hr, hw⟩ := hb.run
  refine ⟨_, pe_ifExp hp hq hr, fun W σ H en r en' Q hR hf q => ?_⟩
  simp only [f1, f2, fB, fTup, fLst, fBool, fTru, fAnd, fOr, fNot, fIfE, fAndV, fOrV, fNotV, fIsN, fNotN, fChain, fCons, Option.bind_eq_some_iff] at hf
  obtain ⟨⟨d, en1⟩, e1, hf⟩ := hf
  refine ht W σ H en d en1 _ hR e1 fun W1 H1 x1 R1 => ?_
  simp only at hf
  cases d with
  | true =>
    rw [if_pos rfl] at hf ⊢
    exact hu W1 σ H1 en1 r en' Q R1 hf fun v W2 H2 x2 R2' => q v W2 H2 (x1.trans x2) R2'
  | false =>
    rw [if_neg Bool.false_ne_true] at hf ⊢
    exact hw W1 σ H1 en1 r en' Q R1 hf fun v W2 H2 x2 R2' => q v W2 H2 (x1.trans x2) R2'
theorem rbool {K : PySem.W.Frag} {F : Hp} {σ : St} {v : V} {b : Bool} (h : RVal K F σ v (.d (.bool b))) : v = .bl b := by
  have h' : Dq K F v (.bool b) := h
  cases h'; rfl
theorem se_one {op} {a : Expr} {f : EF} {pos : Pos} (h : SE X a f) : SE X (.BoolOp op [a] pos) f := by
  obtain ⟨t, hp, ht⟩ := h.run
  exact ⟨t, pe_one hp, ht⟩
theorem se_and {a b : Expr} {rest : List Expr} {f g : EF} {pos : Pos} (h : SE X a f) (k : SE X (.BoolOp .And (b :: rest) pos) g) : SE X (.BoolOp .And (a :: b :: rest) pos) (fAndV f g) := by
  obtain ⟨t, hp, ht⟩ := h.run
  obtain ⟨u, hq, hu⟩ := k.run
  refine ⟨_, pe_and hp hq, fun W σ H en r en' Q hR hf q => ?_⟩
  simp only [f1, f2, fB, fTup, fLst, fBool, fTru, fAnd, fOr, fNot, fIfE, fAndV, fOrV, fNotV, fIsN, fNotN, fChain, fCons, Option.bind_eq_some_iff] at hf
  obtain ⟨⟨c, en1⟩, e1, hf⟩ := hf
  refine ht W σ H en c en1 _ hR e1 fun v W1 H1 x1 R1 v1 => ?_
  simp only at hf
  split at hf
  · rename_i b
    refine ⟨b, rbool v1, ?_⟩
    cases b with
    | true =>
      rw [if_pos rfl] at hf ⊢
      exact hu W1 σ H1 en1 r en' Q R1 hf fun v W2 H2 x2 R2' => q v W2 H2 (x1.trans x2) R2'
    | false =>
      rw [if_neg Bool.false_ne_true] at hf ⊢
      cases hf
      exact q _ W1 H1 x1 R1 (.bl false)
  · cases hf
theorem se_or {a b : Expr} {rest : List Expr} {f g : EF} {pos : Pos} (h : SE X a f) (k : SE X (.BoolOp .Or (b :: rest) pos) g) : SE X (.BoolOp .Or (a :: b :: rest) pos) (fOrV f g) := by
  obtain ⟨t, hp, ht⟩ := h.run
  obtain ⟨u, hq, hu⟩ := k.run
  refine ⟨_, pe_or hp hq, fun W σ H en r en' Q hR hf q => ?_⟩
  simp only [f1, f2, fB, fTup, fLst, fBool, fTru, fAnd, fOr, fNot, fIfE, fAndV, fOrV, fNotV, fIsN, fNotN, fChain, fCons, Option.bind_eq_some_iff] at hf
  obtain ⟨⟨c, en1⟩, e1, hf⟩ := hf
  refine ht W σ H en c en1 _ hR e1 fun v W1 H1 x1 R1 v1 => ?_
  simp only at hf
  split at hf
  · rename_i b
    refine ⟨b, rbool v1, ?_⟩
    cases b with
    | true =>
      rw [if_pos rfl] at hf ⊢
      cases hf
      exact q _ W1 H1 x1 R1 (.bl true)
    | false =>
      rw [if_neg Bool.false_ne_true] at hf ⊢
      exact hu W1 σ H1 en1 r en' Q R1 hf fun v W2 H2 x2 R2' => q v W2 H2 (x1.trans x2) R2'
  · cases hf
theorem se_not {a : Expr} {f : EF} {pos : Pos} (h : SE X a f) : SE X (.UnaryOp .Not a pos) (fNotV f) := by
  obtain ⟨t, hp, ht⟩ := h.run
  refine ⟨_, pe_not hp, fun W σ H en r en' Q hR hf q => ?_⟩
  simp only [f1, f2, fB, fTup, fLst, fBool, fTru, fAnd, fOr, fNot, fIfE, fAndV, fOrV, fNotV, fIsN, fNotN, fChain, fCons, Option.bind_eq_some_iff] at hf
  obtain ⟨⟨c, en1⟩, e1, hf⟩ := hf
  refine ht W σ H en c en1 _ hR e1 fun v W1 H1 x1 R1 v1 => ?_
  simp only at hf
  split at hf
  · rename_i b
    cases hf
    exact ⟨b, rbool v1, q _ W1 H1 x1 R1 (.bl _)⟩
  · cases hf
theorem dpr_non {K : PySem.W.Frag} {F H : Hp} {v : V} {x : PyData} (h : DpR K F H v x) : decide (v = .non) = isN x := by
  cases h with
  | old h => cases h <;> simp [isN]
  | cur h k => simp [isN]
theorem se_isN {a : Expr} {f : EF} {pos : Pos} {j pos'} (h : SE X a f) : SE X (.Compare a [.Is] [.Constant .none j pos'] pos) (fIsN f) := by
  obtain ⟨t, hp, ht⟩ := h.run
  refine ⟨_, pe_cmp (pc_isN hp) rfl, fun W σ H en r en' Q hR hf q => ?_⟩
  simp only [f1, f2, fB, fTup, fLst, fBool, fTru, fAnd, fOr, fNot, fIfE, fAndV, fOrV, fNotV, fIsN, fNotN, fChain, fCons, Option.bind_eq_some_iff] at hf
  obtain ⟨⟨c, en1⟩, e1, x, e2, hf⟩ := hf
  cases hf
  refine ht W σ H en c en1 _ hR e1 fun v W1 H1 x1 R1 v1 => ?_
  rw [dpr_non (R1.res v1 e2)]
  exact q _ W1 H1 x1 R1 (.bl _)
theorem se_notN {a : Expr} {f : EF} {pos : Pos} {j pos'} (h : SE X a f) : SE X (.Compare a [.IsNot] [.Constant .none j pos'] pos) (fNotN f) := by
  obtain ⟨t, hp, ht⟩ := h.run
  refine ⟨_, pe_cmp (pc_notN hp) rfl, fun W σ H en r en' Q hR hf q => ?_⟩
  simp only [f1, f2, fB, fTup, fLst, fBool, fTru, fAnd, fOr, fNot, fIfE, fAndV, fOrV, fNotV, fIsN, fNotN, fChain, fCons, Option.bind_eq_some_iff] at hf
  obtain ⟨⟨c, en1⟩, e1, x, e2, hf⟩ := hf
  cases hf
  refine ht W σ H en c en1 _ hR e1 fun v W1 H1 x1 R1 v1 => ?_
  rw [dpr_non (R1.res v1 e2)]
  exact q _ W1 H1 x1 R1 (.bl _)
theorem tB_eq {t : TE} : tB t = tTest t := rfl
theorem st_isN {a : Expr} {f : EF} {pos : Pos} {j pos'} (h : SE X a f) : ST X (.Compare a [.Is] [.Constant .none j pos'] pos) (fBool (fIsN f)) := by
  obtain ⟨t, hp, ht⟩ := h.run
  refine ⟨_, pt_cmp (pc_isN hp) rfl, ?_⟩
  rw [tB_eq]
  refine stt_bool fun W σ H en r en' Q hR hf q => ?_
  simp only [f1, f2, fB, fTup, fLst, fBool, fTru, fAnd, fOr, fNot, fIfE, fAndV, fOrV, fNotV, fIsN, fNotN, fChain, fCons, Option.bind_eq_some_iff] at hf
  obtain ⟨⟨c, en1⟩, e1, x, e2, hf⟩ := hf
  cases hf
  refine ht W σ H en c en1 _ hR e1 fun v W1 H1 x1 R1 v1 => ?_
  rw [dpr_non (R1.res v1 e2)]
  exact q _ W1 H1 x1 R1 (.bl _)
theorem st_notN {a : Expr} {f : EF} {pos : Pos} {j pos'} (h : SE X a f) : ST X (.Compare a [.IsNot] [.Constant .none j pos'] pos) (fBool (fNotN f)) := by
  obtain ⟨t, hp, ht⟩ := h.run
  refine ⟨_, pt_cmp (pc_notN hp) rfl, ?_⟩
  rw [tB_eq]
  refine stt_bool fun W σ H en r en' Q hR hf q => ?_
  simp only [f1, f2, fB, fTup, fLst, fBool, fTru, fAnd, fOr, fNot, fIfE, fAndV, fOrV, fNotV, fIsN, fNotN, fChain, fCons, Option.bind_eq_some_iff] at hf
  obtain ⟨⟨c, en1⟩, e1, x, e2, hf⟩ := hf
  cases hf
  refine ht W σ H en c en1 _ hR e1 fun v W1 H1 x1 R1 v1 => ?_
  rw [dpr_non (R1.res v1 e2)]
  exact q _ W1 H1 x1 R1 (.bl _)
/-! a < b < c -/
theorem set_chain {r r' : R2} {o o' : PyData → PyData → Option PyData} {t u w : TE} {f g h : EF} (h1 : SEt X.K t f) (h2 : SEt X.K u g) (h3 : SEt X.K w h) (s : S2 X.K r o) (s' : S2 X.K r' o') : SEt X.K (tChain r r' t u w) (fChain o o' f g h) := by
  intro W σ H en r0 en' Q hR hf q
  simp only [f1, f2, fB, fTup, fLst, fBool, fTru, fAnd, fOr, fNot, fIfE, fAndV, fOrV, fNotV, fIsN, fNotN, fChain, fCons, Option.bind_eq_some_iff] at hf
  obtain ⟨⟨q1, en1⟩, e1, ⟨q2, en2⟩, e2, x, e3, y, e4, z, e5, hf⟩ := hf
  refine h1 W σ H en q1 en1 _ hR e1 fun v W1 H1 x1 R1 v1 => ?_
  refine h2 W1 σ H1 en1 q2 en2 _ R1 e2 fun wv W2 H2 x2 R2' v2 => ?_
  have x12 := x1.trans x2
  have dx := R2'.res (v1.mono x2.F) e3
  have dy := R2'.res v2 e4
  simp only at hf
  split at hf
  · simp only [Option.bind_eq_some_iff] at hf
    obtain ⟨⟨q4, en4⟩, e6, y', e7, u', e8, t', e9, hf⟩ := hf
    have fin : ∀ (z' : V) (W3 : Wd) (H3 : Hp), Ext W2 W3 → R X.K W3 σ H3 en2 → RVal X.K W3.F σ z' (.d (.bool true)) → ∃ k, z' = .bl k ∧ (if k = true then w σ H3 fun w' H4 => r' wv w' H4 Q else Q (.bl false) H3) := fun z' W3 H3 x3 R3 v3 => by
      refine ⟨true, rbool v3, ?_⟩
      rw [if_pos rfl]
      refine h3 W3 σ H3 en2 q4 en4 _ R3 e6 fun w' W4 H4 x4 R4 v4 => ?_
      cases hf
      obtain ⟨k1, k2⟩ := two_ends ((x12.trans x3).trans x4) R4 q
      exact s' W4.F H4 wv w' y' u' t' Q R4.subF (R4.res ((v2.mono x3.F).mono x4.F) e7) (R4.res v4 e8) e9 k1 k2
    obtain ⟨k1, k2⟩ := two_ends (Ext.refl W2) R2' fin
    exact s W2.F H2 v wv x y _ _ R2'.subF dx dy e5 k1 k2
  · have fin : ∀ (z' : V) (W3 : Wd) (H3 : Hp), Ext W2 W3 → R X.K W3 σ H3 en2 → RVal X.K W3.F σ z' (.d (.bool false)) → ∃ k, z' = .bl k ∧ (if k = true then w σ H3 fun w' H4 => r' wv w' H4 Q else Q (.bl false) H3) := fun z' W3 H3 x3 R3 v3 => by
      refine ⟨false, rbool v3, ?_⟩
      rw [if_neg Bool.false_ne_true]
      cases hf
      exact q _ W3 H3 (x12.trans x3) R3 (.bl false)
    obtain ⟨k1, k2⟩ := two_ends (Ext.refl W2) R2' fin
    exact s W2.F H2 v wv x y _ _ R2'.subF dx dy e5 k1 k2
  · cases hf
theorem se_chain {op op' : CmpOp} {r r' : R2} {o o' : PyData → PyData → Option PyData} {a b c : Expr} {f g h : EF} {pos : Pos} (ho : OpR X (compareOp op) r) (ho' : OpR X (compareOp op') r') (s : S2 X.K r o) (s' : S2 X.K r' o') (ha : SE X a f) (hb : SE X b g) (hc : SE X c h)
    (hm : lastMarks [op, op'] [b, c] = false := by with_unfolding_all rfl) : SE X (.Compare a [op, op'] [b, c] pos) (fChain o o' f g h) := by
  obtain ⟨t, hp, ht⟩ := ha.run
  obtain ⟨u, hq, hu⟩ := hb.run
  obtain ⟨w, hr, hw⟩ := hc.run
  exact ⟨_, pe_chain ho ho' hp hq hr hm, set_chain ht hu hw s s'⟩
theorem st_chain {op op' : CmpOp} {r r' : R2} {o o' : PyData → PyData → Option PyData} {a b c : Expr} {f g h : EF} {pos : Pos} (ho : OpR X (compareOp op) r) (ho' : OpR X (compareOp op') r') (s : S2 X.K r o) (s' : S2 X.K r' o') (ha : SE X a f) (hb : SE X b g) (hc : SE X c h)
    (hm : lastMarks [op, op'] [b, c] = false := by with_unfolding_all rfl) : ST X (.Compare a [op, op'] [b, c] pos) (fBool (fChain o o' f g h)) := by
  obtain ⟨t, hp, ht⟩ := ha.run
  obtain ⟨u, hq, hu⟩ := hb.run
  obtain ⟨w, hr, hw⟩ := hc.run
  exact ⟨_, pt_chain ho ho' hp hq hr hm, stt_bool (set_chain ht hu hw s s')⟩

/-! ### arguments, displays, built-ins -/
theorem sa_nil : SA X [] fNil := ⟨_, pa_nil, fun W σ H en r en' Q hR hf q => by cases hf; exact q [] W H (Ext.refl _) hR .nil⟩
theorem sa_cons {e : Expr} {es : List Expr} {f : EF} {g : AF} (h : SE X e f) (k : SA X es g) (hs : starEach (e :: es) X.env = (false, eval e X.env) :: starEach es X.env := by rfl) : SA X (e :: es) (fCons f g) := by
  obtain ⟨t, hp, ht⟩ := h.run
  obtain ⟨u, hq, hu⟩ := k.run
  refine ⟨_, pa_cons hp hq hs, fun W σ H en r en' Q hR hf q => ?_⟩
  simp only [f1, f2, fB, fTup, fLst, fBool, fTru, fAnd, fOr, fNot, fIfE, fAndV, fOrV, fNotV, fIsN, fNotN, fChain, fCons, Option.bind_eq_some_iff] at hf
  obtain ⟨⟨q1, en1⟩, e1, ⟨q2, en2⟩, e2, hf⟩ := hf
  cases hf
  refine ht W σ H en q1 en1 _ hR e1 fun v W1 H1 x1 R1 v1 => ?_
  refine hu W1 σ H1 en1 q2 en2 _ R1 e2 fun vs W2 H2 x2 R2' v2 => ?_
  exact q _ W2 H2 (x1.trans x2) R2' (.cons (v1.mono x2.F) v2)
theorem R.resL {K : PySem.W.Frag} {W : Wd} {σ : St} {H : Hp} {en : En} (r : R K W σ H en) : ∀ {vs : List V} {qs : List RV} {xs : List PyData}, RVals K W.F σ vs qs → resL en qs = some xs → DpRs K W.F H vs xs
  | _, _, _, .nil, e => by cases e; exact .nil
  | _, _, _, .cons h t, e => by
    obtain ⟨x, e1, e⟩ := bindS e
    obtain ⟨xs, e2, e⟩ := bindS e
    cases e
    exact .cons (r.res h e1) (r.resL t e2)
theorem dat_all {K : PySem.W.Frag} {F : Hp} {σ : St} : ∀ {vs : List V} {qs : List RV} {xs : List PyData}, RVals K F σ vs qs → datL qs = some xs → DqAll K F vs xs
  | _, _, _, .nil, e => by cases e; exact .nil
  | _, _, _, .cons (r := .d x) h t, e => by
    obtain ⟨xs, e2, e⟩ := bindS e
    cases e
    exact .cons h (dat_all t e2)
  | _, _, _, .cons (r := .b i) h t, e => by cases e
theorem se_tup {es : List Expr} {f : AF} {x1 : Nat} {pos : Pos} (h : SA X es f) : SE X (.Tuple es x1 pos) (fTup f) := by
  obtain ⟨t, hp, ht⟩ := h.run
  refine ⟨_, pe_tup hp, fun W σ H en r en' Q hR hf q => ?_⟩
  simp only [f1, f2, fB, fTup, fLst, fBool, fTru, fAnd, fOr, fNot, fIfE, fAndV, fOrV, fNotV, fIsN, fNotN, fChain, fCons, Option.bind_eq_some_iff] at hf
  obtain ⟨⟨q1, en1⟩, e1, xs, e2, hf⟩ := hf
  simp only at hf
  split at hf
  · rename_i hl
    cases hf
    refine ht W σ H en q1 _ _ hR e1 fun vs W1 H1 x1 R1 v1 => ?_
    have ha := dat_all v1 e2
    refine ⟨by rw [dpa_length ha]; exact hl, fun p hp => ?_⟩
    have hF := R1.freshF hp
    exact q _ _ _ (x1.trans (ext_new R1 (.tup vs) hF)) (R1.alloc _ hp) (.tup (SqT.of upd_same) (dpa_mono (same_new hF) _ _ ha))
  · cases hf
theorem sl_lst {es : List Expr} {f : AF} {pos : Pos} (h : SA X es f) : SL X (.List es pos) (fLst f) := by
  obtain ⟨t, hp, ht⟩ := h.run
  refine ⟨_, pe_lst hp, fun W σ H en xs0 en' Q hR hf q => ?_⟩
  simp only [f1, f2, fB, fTup, fLst, fBool, fTru, fAnd, fOr, fNot, fIfE, fAndV, fOrV, fNotV, fIsN, fNotN, fChain, fCons, Option.bind_eq_some_iff] at hf
  obtain ⟨⟨q1, en1⟩, e1, xs, e2, hf⟩ := hf
  simp only at hf
  split at hf
  · rename_i hl
    cases hf
    refine ht W σ H en q1 _ _ hR e1 fun vs W1 H1 x1 R1 v1 => ?_
    have ha := dat_all v1 e2
    refine ⟨by rw [dpa_length ha]; exact hl, fun p hp => ?_⟩
    exact q _ _ _ _ x1 (R1.laid _ hp) upd_same ha (R1.freshF hp) (R1.freshG hp) (R1.unowned hp)
  · cases hf
theorem set_b {r : List V → Hp → VK → Prop} {o : List PyData → Option PyData} {t : TA} {f : AF} (h : SAt X.K t f) (s : SB X.K r o) : SEt X.K (tCB r t) (fB o f) := by
  intro W σ H en r' en' Q hR hf q
  simp only [f1, f2, fB, fTup, fLst, fBool, fTru, fAnd, fOr, fNot, fIfE, fAndV, fOrV, fNotV, fIsN, fNotN, fChain, fCons, Option.bind_eq_some_iff] at hf
  obtain ⟨⟨q1, en1⟩, e1, xs, e2, z, e3, hf⟩ := hf
  cases hf
  refine h W σ H en q1 en1 _ hR e1 fun vs W1 H1 x1 R1 v1 => ?_
  obtain ⟨k1, k2⟩ := two_ends x1 R1 q
  exact s W1.F H1 vs xs z Q R1.subF (R1.resL v1 e2) e3 k1 k2
/-- f(e, ..), f a built-in function -/
theorem se_callB {id : String} {r : List V → Hp → VK → Prop} {o : List PyData → Option PyData} {x : Str} {p pos : Pos} {e : Expr} {es : List Expr} {f : AF} (hc : CallR X (.builtin id) r) (s : SB X.K r o) (hg : Gl X x) (hm : X.mg x = none) (hv : bootBuiltins x = some (.builtin id)) (ha : SA X (e :: es) f)
    (hn : x ≠ "__name__" := by decide) (hdb : (x == ("__debug__" : Str)) = false := by decide)
    (he : starEach (e :: es) X.env = (false, eval e X.env) :: starEach es X.env := by rfl) (hpl : (backTo pos (starEach es X.env)).any (·.1) = false := by rfl) : SE X (.Call (.Name x p) (e :: es) [] pos) (fB o f) := by
  obtain ⟨t, hp, ht⟩ := ha.run
  exact ⟨_, pe_callB hc hg hm hv hp hn hdb he hpl, set_b ht s⟩
theorem se_callTy {T : String} {r : List V → Hp → VK → Prop} {o : List PyData → Option PyData} {x : Str} {p pos : Pos} {e : Expr} {es : List Expr} {f : AF} (hc : CallR X (.type T) r) (s : SB X.K r o) (hg : Gl X x) (hm : X.mg x = none) (hv : bootBuiltins x = some (.type T)) (ha : SA X (e :: es) f)
    (hn : x ≠ "__name__" := by decide) (hdb : (x == ("__debug__" : Str)) = false := by decide)
    (he : starEach (e :: es) X.env = (false, eval e X.env) :: starEach es X.env := by rfl) (hpl : (backTo pos (starEach es X.env)).any (·.1) = false := by rfl) : SE X (.Call (.Name x p) (e :: es) [] pos) (fB o f) := by
  obtain ⟨t, hp, ht⟩ := ha.run
  exact ⟨_, pe_callTy hc hg hm hv hp hn hdb he hpl, set_b ht s⟩
end
end L2.FL
set_option Elab.async false
set_option linter.all false
set_option maxRecDepth 100000
set_option maxHeartbeats 2000000
/-! FL3: the values' own rules: operators, comparisons, built-ins over data. -/
namespace L2.FL
open PySem PySem.Spec PyProof.Rows L2

/-! ### numbers -/
/-- a bound that no number of ours reaches -/
def big : Nat := 2 ^ 8000
def DivOk (j : Int) : Prop := 0 < j ∧ j.natAbs < big
def MulOk (i j : Int) : Prop := i.natAbs < 2 ^ 64 ∨ j.natAbs < 2 ^ 64 ∨ (i.natAbs < big ∧ j.natAbs < big)
noncomputable instance {j : Int} : Decidable (DivOk j) := Classical.propDecidable _
noncomputable instance {i j : Int} : Decidable (MulOk i j) := Classical.propDecidable _
theorem lt_big {n : Nat} (h : n < 2 ^ 64) : n < big := Nat.lt_of_lt_of_le h (Nat.pow_le_pow_right (by decide) (by decide))
theorem DivOk.of {j : Int} (h : 0 < j) (h2 : j < 18446744073709551616) : DivOk j := ⟨h, lt_big (by omega)⟩
theorem MulOk.l {i j : Int} (h : -18446744073709551616 < i) (h2 : i < 18446744073709551616) : MulOk i j := .inl (by omega)
theorem MulOk.r {i j : Int} (h : -18446744073709551616 < j) (h2 : j < 18446744073709551616) : MulOk i j := .inr (.inl (by omega))
theorem DivOk.w {j : Int} (h : DivOk j) : CDivW 0 j := wide_div h.1 (show j.natAbs < 2 ^ 8000 from h.2) (by decide) (by decide)
theorem MulOk.ok {i j : Int} (h : MulOk i j) : CMul i j ∨ CMulW i j := by
  rcases h with h | h | ⟨h1, h2⟩
  · exact .inl (.inl ⟨by omega, by omega⟩)
  · exact .inl (.inr ⟨by omega, by omega⟩)
  · exact .inr (wide_mul (a := 8000) (b := 8000) h1 h2 (by decide) (by decide) (by decide))

section
variable {X : Cx}
theorem dpr2_int {K : PySem.W.Frag} {F H : Hp} {v : V} {x : PyData} {i : Int} (h : DpR K F H v x) (e : x = .int i) : v = .int i := by
  subst e; exact h.int
/-- + of lists that are read -/
def rCatR (K : PySem.W.Frag) : R2 := fun x y H Q => ∃ l b xs zs, x = .ref l ∧ y = .ref b ∧ SqL K H l xs ∧ SqL K H b zs ∧ xs.length + zs.length ≤ sizeLine ∧ ∀ p, H p = none → Q (.ref p) (upd H p (.lst (xs ++ zs)))
theorem op_catR : OpR X (binaryOp .Add) (rCatR X.K) := by
  intro pins s σ H x y v u Q I rx ry h
  obtain ⟨l, b, xs, zs, ex, ey, h1, h2, hz, q⟩ := h
  subst ex; subst ey
  cases rx
  cases ry
  obtain ⟨i1, v1, ⟨⟨c1, d1, dt1, sl1⟩, n1, ho1, hc1, hd1, hs1⟩, _⟩ := Inv.list I h1
  obtain ⟨i2, v2, ⟨⟨c2, d2, dt2, sl2⟩, n2, ho2, hc2, hd2, hs2⟩, _⟩ := Inv.list I h2
  have l1 := v1.length
  have l2 := v2.length
  simp only at hc1 hd1 hs1 hc2 hd2 hs2
  subst hc1 hd1 hs1 hc2 hd2 hs2
  refine concat_meets ⟨_, ho1, rfl⟩ ⟨_, ho2, rfl⟩ noFill_list_add seq_list_add PySem.F.slot_list_add PySem.F.entry_list_add (PySem.F.args_list_add_2 _ _) (list_addW l b i1.toArray i2.toArray n1 n2 none none sl1 sl2 (by simp only [List.size_toArray]; omega)) ⟨ho1, ho2, ?_⟩
  rw [show i1.toArray ++ i2.toArray = (i1 ++ i2).toArray by simp]
  exact ⟨.ref _, _, I.lnew (t' := s.toks) (v1.append v2) (by simp only [List.length_append]; omega), rfl, q _ I.fresh⟩

def oAdd (x y : PyData) : Option PyData := match x, y with
  | .int i, .int j => some (.int (i + j))
  | .str a, .str b => if a.length + b.length ≤ sizeLine then some (.str (a ++ b)) else none
  | .tuple xs, .tuple ys => if xs.length + ys.length ≤ sizeLine then some (.tuple (xs ++ ys)) else none
  | .list xs, .list ys => if xs.length + ys.length ≤ sizeLine then some (.list (xs ++ ys)) else none
  | _, _ => none
def rAddA (K : PySem.W.Frag) : R2 := fun x y H Q => (rI0 (fun i j => .int (i + j)) x y H Q ∨ (∃ i j, x = .str i ∧ y = .str j ∧ i.length + j.length ≤ sizeLine ∧ Q (.str (i ++ j)) H)) ∨ (rCatA K x y H Q ∨ rCatR K x y H Q)
theorem op_addA : OpR X (binaryOp .Add) (rAddA X.K) := (op_add.or op_add_str).or (op_catA.or op_catR)
theorem dqa_nil {K : PySem.W.Frag} {F : Hp} {vs : List V} (h : DqAll K F vs []) : vs = [] := by cases h; rfl
theorem dqa_nil' {K : PySem.W.Frag} {F : Hp} {xs : List PyData} (h : DqAll K F [] xs) : xs = [] := by cases h; rfl
theorem tup_new {K : PySem.W.Frag} {F H : Hp} {p : Addr} {vs : List V} {xs : List PyData} (s : Same F H) (hp : H p = none) (h : DqAll K F vs xs) : Dq K (upd F p (.tup vs)) (.ref p) (.tuple xs) :=
  .tup (SqT.of upd_same) (dpa_mono (same_new (s.free hp)) _ _ h)
theorem lst_new {K : PySem.W.Frag} {F H : Hp} {p : Addr} {vs : List V} {xs : List PyData} (s : Same F H) (hp : H p = none) (h : DqAll K F vs xs) : Dq K (upd F p (.lst vs)) (.ref p) (.list xs) :=
  .lst (.of upd_same) (dpa_mono (same_new (s.free hp)) _ _ h)
theorem DpR.oldT {K : PySem.W.Frag} {F H : Hp} {v : V} {xs : List PyData} (h : DpR K F H v (.tuple xs)) : Dq K F v (.tuple xs) := by
  cases h with
  | old h => exact h
theorem s_add {K : PySem.W.Frag} : S2 K (rAddA K) oAdd := by
  intro F H v w x y z Q s dx dy e k1 k2
  unfold oAdd at e
  split at e
  · cases e
    exact .inl (.inl ⟨_, _, dx.int, dy.int, k1 _ (.int _)⟩)
  · split at e
    · rename_i hz
      cases e
      exact .inl (.inr ⟨_, _, dx.str, dy.str, hz, k1 _ (.str _)⟩)
    · cases e
  · split at e
    · rename_i xs ys hz
      cases e
      obtain ⟨a, vs, rfl, h1, h2⟩ := dx.tuple s
      obtain ⟨b, ws, rfl, h3, h4⟩ := dy.tuple s
      refine .inr (.inl ⟨a, b, vs, ws, rfl, rfl, h1, h3, by rw [dpa_length h2, dpa_length h4]; exact hz, fun e0 => ?_, fun e0 e1 => ?_, fun e0 e1 p hp => ?_⟩)
      · subst e0
        cases dqa_nil' h2
        exact k1 _ dy.oldT
      · subst e1
        cases dqa_nil' h4
        rw [List.append_nil] at k1
        exact k1 _ dx.oldT
      · exact k2 p _ hp (tup_new s hp (dpa_app h2 h4))
    · cases e
  · split at e
    · rename_i xs ys hz
      cases e
      obtain ⟨a, vs, rfl, h1, h2⟩ := dx.list s
      obtain ⟨b, ws, rfl, h3, h4⟩ := dy.list s
      exact .inr (.inr ⟨a, b, vs, ws, rfl, rfl, h1, h3, by rw [dpa_length h2, dpa_length h4]; exact hz, fun p hp => k2 p _ hp (lst_new s hp (dpa_app h2 h4))⟩)
    · cases e
  · cases e
def oSub (x y : PyData) : Option PyData := match x, y with
  | .int i, .int j => some (.int (i - j))
  | _, _ => none
theorem s_sub {K : PySem.W.Frag} : S2 K (rI0 fun i j => .int (i - j)) oSub := by
  intro F H v w x y z Q s dx dy e k1 k2
  unfold oSub at e
  split at e
  · cases e
    exact ⟨_, _, dx.int, dy.int, k1 _ (.int _)⟩
  · cases e
noncomputable def oMul (x y : PyData) : Option PyData := match x, y with
  | .int i, .int j => if MulOk i j then some (.int (i * j)) else none
  | _, _ => none
def rMulA : R2 := fun x y H Q => rI CMul (fun i j => .int (i * j)) x y H Q ∨ rI CMulW (fun i j => .int (i * j)) x y H Q
theorem op_mulA : OpR X (binaryOp .Mult) rMulA := op_mul.or op_mulW
theorem s_mul {K : PySem.W.Frag} : S2 K rMulA oMul := by
  intro F H v w x y z Q s dx dy e k1 k2
  unfold oMul at e
  split at e
  · split at e
    · rename_i hm
      cases e
      rcases hm.ok with h | h
      · exact .inl ⟨_, _, dx.int, dy.int, h, k1 _ (.int _)⟩
      · exact .inr ⟨_, _, dx.int, dy.int, h, k1 _ (.int _)⟩
    · cases e
  · cases e
noncomputable def oDiv (x y : PyData) : Option PyData := match x, y with
  | .int i, .int j => if DivOk j then some (.int (i / j)) else none
  | _, _ => none
theorem s_div {K : PySem.W.Frag} : S2 K (rI CDivW fun i j => .int (i / j)) oDiv := by
  intro F H v w x y z Q s dx dy e k1 k2
  unfold oDiv at e
  split at e
  · split at e
    · rename_i hm
      cases e
      exact ⟨_, _, dx.int, dy.int, hm.w, k1 _ (.int _)⟩
    · cases e
  · cases e
def oMod (x y : PyData) : Option PyData := match x, y with
  | .int i, .int j => if 0 < j then some (.int (i % j)) else none
  | _, _ => none
theorem s_mod {K : PySem.W.Frag} : S2 K (rI (fun _ j => 0 < j) fun i j => .int (i % j)) oMod := by
  intro F H v w x y z Q s dx dy e k1 k2
  unfold oMod at e
  split at e
  · split at e
    · rename_i hm
      cases e
      exact ⟨_, _, dx.int, dy.int, hm, k1 _ (.int _)⟩
    · cases e
  · cases e
def oNeg (x : PyData) : Option PyData := match x with
  | .int i => some (.int (-i))
  | _ => none
theorem s_neg {K : PySem.W.Frag} : S1 K (rU fun i => .int (-i)) oNeg := by
  intro F H v x z Q s dx e k1 k2
  unfold oNeg at e
  split at e
  · cases e
    exact ⟨_, dx.int, k1 _ (.int _)⟩
  · cases e

/-! ### comparisons of data -/
/-- data that may be compared: no dicts, not too deep -/
def okd (d : PyData) : Bool := d.plain && decide (d.depth ≤ 64)
def okdAll (ds : List PyData) : Bool := PyData.plainAll ds && decide (PyData.depthAll ds ≤ 64)
def cmpOk (x y : PyData) : Bool := PySem.W.alike x y && (match x with | .none => false | _ => true) && decide (x.depth ≤ 64)
def oEq (x y : PyData) : Option PyData := if okd x && okd y then some (.bool (PyData.eqv x y)) else none
def oNe (x y : PyData) : Option PyData := if okd x && okd y then some (.bool (!PyData.eqv x y)) else none
def oLt (x y : PyData) : Option PyData := match x, y with
  | .int i, .int j => some (.bool (decide (i < j)))
  | x, y => if cmpOk x y then some (.bool (PySem.W.dataLt x y)) else none
def oGt (x y : PyData) : Option PyData := match x, y with
  | .int i, .int j => some (.bool (decide (j < i)))
  | x, y => if cmpOk x y then some (.bool (PySem.W.dataLt y x)) else none
def oLe (x y : PyData) : Option PyData := match x, y with
  | .int i, .int j => some (.bool (decide (i ≤ j)))
  | x, y => if cmpOk x y then some (.bool (!PySem.W.dataLt y x)) else none
def oGe (x y : PyData) : Option PyData := match x, y with
  | .int i, .int j => some (.bool (decide (j ≤ i)))
  | x, y => if cmpOk x y then some (.bool (!PySem.W.dataLt x y)) else none
def anyEq (xs : List PyData) (d : PyData) : Bool := xs.any fun y => PyData.eqv y d
def oIn (x c : PyData) : Option PyData := match c with
  | .list xs => if okdAll xs && okd x then some (.bool (anyEq xs x)) else none
  | .tuple xs => if okdAll xs && okd x then some (.bool (anyEq xs x)) else none
  | _ => none
def oNotIn (x c : PyData) : Option PyData := match c with
  | .list xs => if okdAll xs && okd x then some (.bool (!anyEq xs x)) else none
  | .tuple xs => if okdAll xs && okd x then some (.bool (!anyEq xs x)) else none
  | _ => none
/-- a comparison by the data -/
def rD2 (K : PySem.W.Frag) (o : PyData → PyData → Option PyData) : R2 := fun x y H Q => ∃ d e b, Dp K H x d ∧ Dp K H y e ∧ o d e = some (.bool b) ∧ Q (.bl b) H
theorem s_D2 {K : PySem.W.Frag} {o : PyData → PyData → Option PyData} (ho : ∀ x y z, o x y = some z → ∃ b, z = .bool b) : S2 K (rD2 K o) o := by
  intro F H v w x y z Q s dx dy e k1 k2
  obtain ⟨b, rfl⟩ := ho x y z e
  exact ⟨x, y, b, dq_dp _ _ (dx.now s), dq_dp _ _ (dy.now s), e, k1 _ (.bl b)⟩
theorem opD2 {op : CmpOp} {o : PyData → PyData → Option PyData}
    (h : ∀ (s : Shared) (Q : Value → Shared → Prop) (v u : Value) (d e : PyData) (b : Bool) (as bs : List Addr), Reads s.heap v d as → Reads s.heap u e bs → o d e = some (.bool b) → Q (.bool b) s → wpAny (model X.prog X.w) X.A (compareOp op v u) Q X.xe s) :
    OpR X (compareOp op) (rD2 X.K o) := by
  intro pins s σ H x y v u Q I rx ry hh
  obtain ⟨d, e, b, hd, he, ho, q⟩ := hh
  obtain ⟨as, r1⟩ := Dp.reads I d x v hd rx
  obtain ⟨bs, r2⟩ := Dp.reads I e y u he ry
  exact h s _ v u d e b as bs r1 r2 ho ⟨.bl b, H, I, rfl, q⟩
theorem okd_plain {d : PyData} (h : okd d = true) : d.plain = true ∧ d.depth ≤ 64 := by
  unfold okd at h
  simp only [Bool.and_eq_true, decide_eq_true_eq] at h
  exact h
theorem okdAll_plain {d : List PyData} (h : okdAll d = true) : PyData.plainAll d = true ∧ PyData.depthAll d ≤ 64 := by
  unfold okdAll at h
  simp only [Bool.and_eq_true, decide_eq_true_eq] at h
  exact h
theorem op_eqA (hu : X.A.units + 200 < cLine) : OpR X (compareOp .Eq) (rD2 X.K oEq) := opD2 fun s Q v u d e b as bs r1 r2 ho q => by
  unfold oEq at ho
  split at ho
  · rename_i hk
    simp only [Bool.and_eq_true] at hk
    cases ho
    have h1 := okd_plain hk.1
    have h2 := okd_plain hk.2
    exact PySem.SeqAt.eq_plain r1 r2 h1.1 h2.1 (by have := Nat.min_le_left d.depth e.depth; omega) q
  · cases ho
theorem op_neA (hu : X.A.units + 200 < cLine) : OpR X (compareOp .NotEq) (rD2 X.K oNe) := opD2 fun s Q v u d e b as bs r1 r2 ho q => by
  unfold oNe at ho
  split at ho
  · rename_i hk
    simp only [Bool.and_eq_true] at hk
    cases ho
    have h1 := okd_plain hk.1
    have h2 := okd_plain hk.2
    exact PySem.SeqAt.ne_plain r1 r2 h1.1 h2.1 (by have := Nat.min_le_left d.depth e.depth; omega) q
  · cases ho
theorem cmpOk_of {x y : PyData} (h : cmpOk x y = true) : PySem.W.alike x y = true ∧ x ≠ .none ∧ x.depth ≤ 64 := by
  unfold cmpOk at h
  simp only [Bool.and_eq_true, decide_eq_true_eq] at h
  refine ⟨h.1.1, fun e => ?_, h.2⟩
  subst e
  exact absurd h.1.2 Bool.false_ne_true
theorem op_ltA (hu : X.A.units + 200 < cLine) : OpR X (compareOp .Lt) (rD2 X.K oLt) := opD2 fun s Q v u d e b as bs r1 r2 ho q => by
  unfold oLt at ho
  split at ho
  · cases ho
    cases r1
    cases r2
    exact lt_int q
  · split at ho
    · rename_i hk
      cases ho
      obtain ⟨h1, h2, h3⟩ := cmpOk_of hk
      exact PySem.W.rcLt_alike _ _ _ _ _ _ _ _ r1 r2 h1 h2 (by have := Nat.min_le_left d.depth e.depth; omega) _ _ _ _ q
    · cases ho
theorem op_gtA (hu : X.A.units + 200 < cLine) : OpR X (compareOp .Gt) (rD2 X.K oGt) := opD2 fun s Q v u d e b as bs r1 r2 ho q => by
  unfold oGt at ho
  split at ho
  · cases ho
    cases r1
    cases r2
    exact gt_int q
  · split at ho
    · rename_i hk
      cases ho
      obtain ⟨h1, h2, h3⟩ := cmpOk_of hk
      exact PySem.W.rcGt_alike _ _ _ _ _ _ _ _ r1 r2 h1 h2 (by have := Nat.min_le_left d.depth e.depth; omega) _ _ _ _ q
    · cases ho
theorem op_leA (hu : X.A.units + 200 < cLine) : OpR X (compareOp .LtE) (rD2 X.K oLe) := opD2 fun s Q v u d e b as bs r1 r2 ho q => by
  unfold oLe at ho
  split at ho
  · cases ho
    cases r1
    cases r2
    exact le_int q
  · split at ho
    · rename_i hk
      cases ho
      obtain ⟨h1, h2, h3⟩ := cmpOk_of hk
      exact PySem.W.rcLe_alike _ _ _ _ _ _ _ _ r1 r2 h1 h2 (by have := Nat.min_le_left d.depth e.depth; omega) _ _ _ _ q
    · cases ho
theorem op_geA (hu : X.A.units + 200 < cLine) : OpR X (compareOp .GtE) (rD2 X.K oGe) := opD2 fun s Q v u d e b as bs r1 r2 ho q => by
  unfold oGe at ho
  split at ho
  · cases ho
    cases r1
    cases r2
    exact ge_int q
  · split at ho
    · rename_i hk
      cases ho
      obtain ⟨h1, h2, h3⟩ := cmpOk_of hk
      exact PySem.W.rcGe_alike _ _ _ _ _ _ _ _ r1 r2 h1 h2 (by have := Nat.min_le_left d.depth e.depth; omega) _ _ _ _ q
    · cases ho
theorem op_inA (hu : X.A.units + 200 < cLine) : OpR X (compareOp .In) (rD2 X.K oIn) := opD2 fun s Q v u d e b as bs r1 r2 ho q => by
  unfold oIn at ho
  split at ho
  · split at ho
    · rename_i hk
      simp only [Bool.and_eq_true] at hk
      cases ho
      have h1 := okdAll_plain hk.1
      have h2 := okd_plain hk.2
      exact PySem.SeqAt.in_list_data r2 r1 h1.1 h2.1 (by have := Nat.min_le_right (PyData.depthAll ‹List PyData›) d.depth; omega) q
    · cases ho
  · split at ho
    · rename_i hk
      simp only [Bool.and_eq_true] at hk
      cases ho
      have h1 := okdAll_plain hk.1
      have h2 := okd_plain hk.2
      exact PySem.SeqAt.in_tuple_data r2 r1 h1.1 h2.1 (by have := Nat.min_le_right (PyData.depthAll ‹List PyData›) d.depth; omega) q
    · cases ho
  · cases ho
theorem op_notInA (hu : X.A.units + 200 < cLine) : OpR X (compareOp .NotIn) (rD2 X.K oNotIn) := opD2 fun s Q v u d e b as bs r1 r2 ho q => by
  unfold oNotIn at ho
  split at ho
  · split at ho
    · rename_i hk
      simp only [Bool.and_eq_true] at hk
      cases ho
      have h1 := okdAll_plain hk.1
      have h2 := okd_plain hk.2
      exact PySem.SeqAt.notIn_list_data r2 r1 h1.1 h2.1 (by have := Nat.min_le_right (PyData.depthAll ‹List PyData›) d.depth; omega) q
    · cases ho
  · split at ho
    · rename_i hk
      simp only [Bool.and_eq_true] at hk
      cases ho
      have h1 := okdAll_plain hk.1
      have h2 := okd_plain hk.2
      exact PySem.SeqAt.notIn_tuple_data r2 r1 h1.1 h2.1 (by have := Nat.min_le_right (PyData.depthAll ‹List PyData›) d.depth; omega) q
    · cases ho
  · cases ho
theorem s_eq {K : PySem.W.Frag} : S2 K (rD2 K oEq) oEq := s_D2 fun x y z e => by unfold oEq at e; split at e <;> cases e; exact ⟨_, rfl⟩
theorem s_ne {K : PySem.W.Frag} : S2 K (rD2 K oNe) oNe := s_D2 fun x y z e => by unfold oNe at e; split at e <;> cases e; exact ⟨_, rfl⟩
theorem s_lt {K : PySem.W.Frag} : S2 K (rD2 K oLt) oLt := s_D2 fun x y z e => by
  unfold oLt at e
  split at e
  · cases e; exact ⟨_, rfl⟩
  · split at e <;> cases e; exact ⟨_, rfl⟩
theorem s_gt {K : PySem.W.Frag} : S2 K (rD2 K oGt) oGt := s_D2 fun x y z e => by
  unfold oGt at e
  split at e
  · cases e; exact ⟨_, rfl⟩
  · split at e <;> cases e; exact ⟨_, rfl⟩
theorem s_le {K : PySem.W.Frag} : S2 K (rD2 K oLe) oLe := s_D2 fun x y z e => by
  unfold oLe at e
  split at e
  · cases e; exact ⟨_, rfl⟩
  · split at e <;> cases e; exact ⟨_, rfl⟩
theorem s_ge {K : PySem.W.Frag} : S2 K (rD2 K oGe) oGe := s_D2 fun x y z e => by
  unfold oGe at e
  split at e
  · cases e; exact ⟨_, rfl⟩
  · split at e <;> cases e; exact ⟨_, rfl⟩
theorem s_in {K : PySem.W.Frag} : S2 K (rD2 K oIn) oIn := s_D2 fun x y z e => by
  unfold oIn at e
  split at e
  · split at e <;> cases e; exact ⟨_, rfl⟩
  · split at e <;> cases e; exact ⟨_, rfl⟩
  · cases e
theorem s_notIn {K : PySem.W.Frag} : S2 K (rD2 K oNotIn) oNotIn := s_D2 fun x y z e => by
  unfold oNotIn at e
  split at e
  · split at e <;> cases e; exact ⟨_, rfl⟩
  · split at e <;> cases e; exact ⟨_, rfl⟩
  · cases e

/-! ### subscripts -/
def oIx (c i : PyData) : Option PyData := match c, i with
  | .list xs, .int i => atI xs i
  | .tuple xs, .int i => atI xs i
  | .str z, .int i => if z.length ≤ sizeLine then (atI z.cps.toList i).bind fun c => some (.str ⟨#[c]⟩) else none
  | _, _ => none
theorem atI_dqa {K : PySem.W.Frag} {F : Hp} {vs : List V} {xs : List PyData} {i : Int} {z : PyData} (h : DqAll K F vs xs) (e : atI xs i = some z) : ∃ v, atI vs i = some v ∧ Dq K F v z := by
  unfold atI at e ⊢
  rw [dpa_length h]
  cases hk : ixN xs.length i with
  | none => rw [hk] at e; cases e
  | some j =>
    rw [hk] at e
    exact dpa_get h e
theorem s_ix {K : PySem.W.Frag} : S2 K (rIx K) oIx := by
  intro F H v w x y z Q s dx dy e k1 k2
  unfold oIx at e
  split at e
  · obtain ⟨a, vs, rfl, h1, h2⟩ := dx.list s
    obtain ⟨u, e1, e2⟩ := atI_dqa h2 e
    exact .inl ⟨a, vs, _, u, rfl, dy.int, h1, e1, k1 _ e2⟩
  · obtain ⟨a, vs, rfl, h1, h2⟩ := dx.tuple s
    obtain ⟨u, e1, e2⟩ := atI_dqa h2 e
    exact .inr (.inl ⟨a, vs, _, u, rfl, dy.int, h1, e1, k1 _ e2⟩)
  · split at e
    · rename_i hz
      simp only [Option.bind_eq_some_iff] at e
      obtain ⟨c, e1, e2⟩ := e
      cases e2
      exact .inr (.inr ⟨_, _, c, dx.str, dy.int, hz, e1, k1 _ (.str _)⟩)
    · cases e
  · cases e
theorem se_ix {a b : Expr} {f g : EF} {pos : Pos} (ha : SE X a f) (hb : SE X b g) (hs : PlainIx b) : SE X (.Subscript a b pos) (f2 oIx f g) := by
  obtain ⟨t, hp, ht⟩ := ha.run
  obtain ⟨u, hq, hu⟩ := hb.run
  exact ⟨_, pe_ix ix_seq hp hq hs, set2 ht hu s_ix⟩
end
end L2.FL
set_option Elab.async false
set_option linter.all false
set_option maxRecDepth 100000
set_option maxHeartbeats 2000000
/-! FL4: built-in functions and types over data; slices. -/
namespace L2.FL
open PySem PySem.Spec PyProof.Rows L2

section
variable {X : Cx}
theorem dprs1 {K : PySem.W.Frag} {F H : Hp} {vs : List V} {x : PyData} (h : DpRs K F H vs [x]) : ∃ v, vs = [v] ∧ DpR K F H v x := by
  cases h with
  | cons a b => cases b; exact ⟨_, rfl, a⟩
theorem dprs2 {K : PySem.W.Frag} {F H : Hp} {vs : List V} {x y : PyData} (h : DpRs K F H vs [x, y]) : ∃ v w, vs = [v, w] ∧ DpR K F H v x ∧ DpR K F H w y := by
  cases h with
  | cons a b =>
    cases b with
    | cons c d => cases d; exact ⟨_, _, rfl, a, c⟩
/-! len, abs, int, bool, tuple -/
def oLen : List PyData → Option PyData
  | [.list xs] => some (.int xs.length)
  | [.tuple xs] => some (.int xs.length)
  | [.str z] => if z.length ≤ sizeLine then some (.int z.length) else none
  | _ => none
def rLenA (K : PySem.W.Frag) : List V → Hp → VK → Prop := fun xs H Q => ∃ x n, xs = [x] ∧ LenV K x H n ∧ Q (.int n) H
theorem s_len {K : PySem.W.Frag} : SB K (rLenA K) oLen := by
  intro F H vs xs z Q s d e k1 k2
  unfold oLen at e
  split at e
  · obtain ⟨v, rfl, h⟩ := dprs1 d
    obtain ⟨a, ws, rfl, h1, h2⟩ := h.list s
    cases e
    exact ⟨_, ws.length, rfl, .inl ⟨ws, h1, rfl⟩, k1 _ (by rw [dpa_length h2]; exact .int _)⟩
  · obtain ⟨v, rfl, h⟩ := dprs1 d
    obtain ⟨a, ws, rfl, h1, h2⟩ := h.tuple s
    cases e
    exact ⟨_, ws.length, rfl, .inr ⟨ws, h1, rfl⟩, k1 _ (by rw [dpa_length h2]; exact .int _)⟩
  · obtain ⟨v, rfl, h⟩ := dprs1 d
    split at e
    · rename_i hz
      cases h.str
      cases e
      exact ⟨_, _, rfl, ⟨hz, rfl⟩, k1 _ (.int _)⟩
    · cases e
  · cases e
def oAbs : List PyData → Option PyData
  | [.int i] => some (.int (if i < 0 then -i else i))
  | _ => none
theorem s_abs {K : PySem.W.Frag} : SB K (fun xs H Q => ∃ i, xs = [.int i] ∧ Q (.int (if i < 0 then -i else i)) H) oAbs := by
  intro F H vs xs z Q s d e k1 k2
  unfold oAbs at e
  split at e
  · obtain ⟨v, rfl, h⟩ := dprs1 d
    cases h.int
    cases e
    exact ⟨_, rfl, k1 _ (.int _)⟩
  · cases e
def oInt : List PyData → Option PyData
  | [.int i] => some (.int i)
  | [.bool b] => some (.int (if b then 1 else 0))
  | _ => none
theorem s_int {K : PySem.W.Frag} : SB K (fun xs H Q => (∃ i, xs = [.int i] ∧ Q (.int i) H) ∨ ∃ k, xs = [.bl k] ∧ Q (.int (if k then 1 else 0)) H) oInt := by
  intro F H vs xs z Q s d e k1 k2
  unfold oInt at e
  split at e
  · obtain ⟨v, rfl, h⟩ := dprs1 d
    cases h.int
    cases e
    exact .inl ⟨_, rfl, k1 _ (.int _)⟩
  · obtain ⟨v, rfl, h⟩ := dprs1 d
    cases h.bool
    cases e
    exact .inr ⟨_, rfl, k1 _ (.int _)⟩
  · cases e
def oTuple : List PyData → Option PyData
  | [.list xs] => some (.tuple xs)
  | [.tuple xs] => some (.tuple xs)
  | _ => none
def rTupleA (K : PySem.W.Frag) : List V → Hp → VK → Prop := fun xs H Q => ∃ p ys, xs = [.ref p] ∧ ((SqL K H p ys ∧ ∀ l, H l = none → Q (.ref l) (upd H l (.tup ys))) ∨ (SqT K H p ys ∧ Q (.ref p) H))
theorem s_tuple {K : PySem.W.Frag} : SB K (rTupleA K) oTuple := by
  intro F H vs xs z Q s d e k1 k2
  unfold oTuple at e
  split at e
  · obtain ⟨v, rfl, h⟩ := dprs1 d
    obtain ⟨a, ws, rfl, h1, h2⟩ := h.list s
    cases e
    exact ⟨a, ws, rfl, .inl ⟨h1, fun l hl => k2 l _ hl (tup_new s hl h2)⟩⟩
  · obtain ⟨v, rfl, h⟩ := dprs1 d
    obtain ⟨a, ws, rfl, h1, h2⟩ := h.tuple s
    cases e
    exact ⟨a, ws, rfl, .inr ⟨h1, k1 _ h.oldT⟩⟩
  · cases e

/-! max, min -/
def alikeB (xs : List PyData) : Bool := xs.all fun x => (match x with | .none => false | _ => true) && xs.all fun y => PySem.W.alike x y
theorem alikeB_of {xs : List PyData} (h : alikeB xs = true) : PySem.W.AlikeAll xs := by
  unfold alikeB at h
  simp only [List.all_eq_true, Bool.and_eq_true] at h
  refine ⟨fun x hx y hy => (h x hx).2 y hy, fun x hx e => ?_⟩
  subst e
  exact absurd (h _ hx).1 Bool.false_ne_true
def oMin : List PyData → Option PyData
  | [.int i, .int j] => some (.int (if j < i then j else i))
  | [.list (x :: xs)] => if alikeB (x :: xs) && okdAll (x :: xs) then some (PySem.W.minD x xs) else none
  | [.tuple (x :: xs)] => if alikeB (x :: xs) && okdAll (x :: xs) then some (PySem.W.minD x xs) else none
  | _ => none
def oMax : List PyData → Option PyData
  | [.int i, .int j] => some (.int (if j > i then j else i))
  | [.list (x :: xs)] => if alikeB (x :: xs) && okdAll (x :: xs) then some (PySem.W.maxD x xs) else none
  | [.tuple (x :: xs)] => if alikeB (x :: xs) && okdAll (x :: xs) then some (PySem.W.maxD x xs) else none
  | _ => none
/-- one of the items, by what it reads as -/
def rPickD (K : PySem.W.Frag) (o : PyData → List PyData → PyData) : List V → Hp → VK → Prop := fun vs H Q => ∃ (a : Addr) (ws : List V) (x : PyData) (xs : List PyData), vs = [.ref a] ∧ (SqL K H a ws ∨ SqT K H a ws) ∧ DpAll K H ws (x :: xs) ∧
  alikeB (x :: xs) = true ∧ okdAll (x :: xs) = true ∧ ∀ (i : Nat) v, ws[i]? = some v → (x :: xs)[i]? = some (o x xs) → Q v H
theorem dpAll_get {K : PySem.W.Frag} {H : Hp} : ∀ {ds : List PyData} {vs : List V} {i : Nat} {v : V}, DpAll K H vs ds → vs[i]? = some v → ∃ d, ds[i]? = some d ∧ Dp K H v d
  | _, _, _, _, .nil, e => by simp at e
  | _, _, 0, _, .cons h1 h2, e => by
    simp at e
    subst e
    exact ⟨_, rfl, h1⟩
  | _, _, i + 1, v, .cons h1 h2, e => by
    obtain ⟨d, e1, e2⟩ := dpAll_get (i := i) (v := v) h2 (by simpa using e)
    exact ⟨d, by simpa using e1, e2⟩
theorem plain_all_get {ds : List PyData} {d : PyData} (h : PyData.plainAll ds = true) (hd : d ∈ ds) : d.plain = true := by
  induction ds with
  | nil => cases hd
  | cons x r ih =>
    rw [PyData.plainAll, Bool.and_eq_true] at h
    rcases List.mem_cons.mp hd with e | e
    · subst e; exact h.1
    · exact ih h.2 e
theorem vals_back {ws : List V} {us : List Value} {i : Nat} {u : Value} (r : Vals ws us) (h : us[i]? = some u) : ∃ v, ws[i]? = some v ∧ RelV v u := by
  cases hw : ws[i]? with
  | none =>
    have := r.none_of hw
    rw [h] at this
    cases this
  | some v =>
    obtain ⟨u', e, rv⟩ := r.get hw
    rw [h] at e
    cases e
    exact ⟨v, rfl, rv⟩
theorem pick_end {pins : List (Addr × Obj)} {σ : St} {H : Hp} {s : Shared} {Q : VK} {ws : List V} {its : List Value} {x m : PyData} {xs : List PyData} (I : Inv X pins σ H s) (rv : Vals ws its) (hd : DpAll X.K H ws (x :: xs)) (hp : PyData.plainAll (x :: xs) = true)
    (q : ∀ (i : Nat) v, ws[i]? = some v → (x :: xs)[i]? = some m → Q v H) : ∀ (i : Nat) u h' tk bs, its.toArray[i]? = some u → Reads h' u m bs → (∀ b o, s.heap.get? b = some o → h'.get? b = some o) → EP X pins σ Q u { s with heap := h', toks := tk } := by
  intro i u h' tk bs hu hr hk
  obtain ⟨v, e1, r1⟩ := vals_back rv (by simpa using hu)
  obtain ⟨d, e2, hd2⟩ := dpAll_get hd e1
  obtain ⟨as, hr2⟩ := Dp.reads I d v u hd2 r1
  have e3 := PySem.SeqAt.plain_unique d m u _ _ (plain_all_get hp (List.mem_of_getElem? e2)) (PySem.W.reads_keeps hk hr2) hr
  rw [e3] at e2
  exact ⟨v, H, I.kept hk, r1, q i v e1 e2⟩
theorem cr_minD (hc : X.calm = true) (hu : X.A.units + 200 < cLine) : CallR X (.builtin "min") (rPickD X.K PySem.W.minD) := by
  intro pins s σ H vs us Q I r h
  obtain ⟨a, ws, x, xs, rfl, hs, hd, ha, hp, q⟩ := h
  have hp' := okdAll_plain hp
  have hdp : X.A.units + 1 + PyData.depthAll (x :: xs) < cLine := by have := hp'.2; omega
  rw [Vals.ref1 r]
  rcases hs with hs | hs
  · obtain ⟨its, rv, hl, hz⟩ := I.list hs
    obtain ⟨as, hr⟩ := Dp.readsAll I (x :: xs) ws its hd rv
    exact PySem.W.min_list_data (I.ok.hd hc) hl.isList (by simpa using hr) (alikeB_of ha) hdp (pick_end I rv hd hp'.1 q)
  · obtain ⟨its, rv, hl, hz⟩ := I.tuple hs
    obtain ⟨as, hr⟩ := Dp.readsAll I (x :: xs) ws its hd rv
    exact PySem.W.min_tuple_data (I.ok.hd hc) hl (by simpa using hr) (alikeB_of ha) hdp (pick_end I rv hd hp'.1 q)
theorem cr_maxD (hc : X.calm = true) (hu : X.A.units + 200 < cLine) : CallR X (.builtin "max") (rPickD X.K PySem.W.maxD) := by
  intro pins s σ H vs us Q I r h
  obtain ⟨a, ws, x, xs, rfl, hs, hd, ha, hp, q⟩ := h
  have hp' := okdAll_plain hp
  have hdp : X.A.units + 1 + PyData.depthAll (x :: xs) < cLine := by have := hp'.2; omega
  rw [Vals.ref1 r]
  rcases hs with hs | hs
  · obtain ⟨its, rv, hl, hz⟩ := I.list hs
    obtain ⟨as, hr⟩ := Dp.readsAll I (x :: xs) ws its hd rv
    exact PySem.W.max_list_data (I.ok.hd hc) hl.isList (by simpa using hr) (alikeB_of ha) hdp (pick_end I rv hd hp'.1 q)
  · obtain ⟨its, rv, hl, hz⟩ := I.tuple hs
    obtain ⟨as, hr⟩ := Dp.readsAll I (x :: xs) ws its hd rv
    exact PySem.W.max_tuple_data (I.ok.hd hc) hl (by simpa using hr) (alikeB_of ha) hdp (pick_end I rv hd hp'.1 q)
def rMinA (K : PySem.W.Frag) : List V → Hp → VK → Prop := fun xs H Q => (∃ i j, xs = [.int i, .int j] ∧ Q (.int (if j < i then j else i)) H) ∨ rPickD K PySem.W.minD xs H Q
def rMaxA (K : PySem.W.Frag) : List V → Hp → VK → Prop := fun xs H Q => (∃ i j, xs = [.int i, .int j] ∧ Q (.int (if j > i then j else i)) H) ∨ rPickD K PySem.W.maxD xs H Q
theorem cr_minA (hc : X.calm = true) (hu : X.A.units + 200 < cLine) : CallR X (.builtin "min") (rMinA X.K) := (call_min2 hc).or (cr_minD hc hu)
theorem cr_maxA (hc : X.calm = true) (hu : X.A.units + 200 < cLine) : CallR X (.builtin "max") (rMaxA X.K) := (call_max2 hc).or (cr_maxD hc hu)
theorem s_pick {K : PySem.W.Frag} {o : PyData → List PyData → PyData} {F H : Hp} {vs : List V} {x : PyData} {xs : List PyData} {Q : VK} (s : Same F H) (d : DpRs K F H vs [.list (x :: xs)] ∨ DpRs K F H vs [.tuple (x :: xs)]) (hk : (alikeB (x :: xs) && okdAll (x :: xs)) = true)
    (k1 : ∀ u, Dq K F u (o x xs) → Q u H) : rPickD K o vs H Q := by
  simp only [Bool.and_eq_true] at hk
  have fin : ∀ {ws : List V}, DqAll K F ws (x :: xs) → ∀ (i : Nat) v, ws[i]? = some v → (x :: xs)[i]? = some (o x xs) → Q v H := fun {ws} h2 i v e1 e2 => by
    obtain ⟨v', e3, h3⟩ := dpa_get h2 e2
    rw [e1] at e3
    cases e3
    exact k1 _ h3
  rcases d with d | d
  · obtain ⟨v, rfl, h⟩ := dprs1 d
    obtain ⟨a, ws, rfl, h1, h2⟩ := h.list s
    exact ⟨a, ws, x, xs, rfl, .inl h1, dqa_dpa _ _ (dpa_mono s _ _ h2), hk.1, hk.2, fin h2⟩
  · obtain ⟨v, rfl, h⟩ := dprs1 d
    obtain ⟨a, ws, rfl, h1, h2⟩ := h.tuple s
    exact ⟨a, ws, x, xs, rfl, .inr h1, dqa_dpa _ _ (dpa_mono s _ _ h2), hk.1, hk.2, fin h2⟩
theorem s_min {K : PySem.W.Frag} : SB K (rMinA K) oMin := by
  intro F H vs xs z Q s d e k1 k2
  unfold oMin at e
  split at e
  · obtain ⟨v, w, rfl, h1, h2⟩ := dprs2 d
    cases h1.int
    cases h2.int
    cases e
    exact .inl ⟨_, _, rfl, k1 _ (.int _)⟩
  · split at e
    · rename_i hk
      cases e
      exact .inr (s_pick s (.inl d) hk k1)
    · cases e
  · split at e
    · rename_i hk
      cases e
      exact .inr (s_pick s (.inr d) hk k1)
    · cases e
  · cases e
theorem s_max {K : PySem.W.Frag} : SB K (rMaxA K) oMax := by
  intro F H vs xs z Q s d e k1 k2
  unfold oMax at e
  split at e
  · obtain ⟨v, w, rfl, h1, h2⟩ := dprs2 d
    cases h1.int
    cases h2.int
    cases e
    exact .inl ⟨_, _, rfl, k1 _ (.int _)⟩
  · split at e
    · rename_i hk
      cases e
      exact .inr (s_pick s (.inl d) hk k1)
    · cases e
  · split at e
    · rename_i hk
      cases e
      exact .inr (s_pick s (.inr d) hk k1)
    · cases e
  · cases e

/-! sum, all, any of lists -/
def toInts : List PyData → Option (List Int)
  | [] => some []
  | .int i :: r => (toInts r).bind fun is => some (i :: is)
  | _ :: _ => none
def toBls : List PyData → Option (List Bool)
  | [] => some []
  | .bool i :: r => (toBls r).bind fun is => some (i :: is)
  | _ :: _ => none
theorem toInts_eq : ∀ {xs : List PyData} {is : List Int}, toInts xs = some is → xs = is.map .int
  | [], _, e => by cases e; rfl
  | .int i :: r, is, e => by
    simp only [toInts, Option.bind_eq_some_iff] at e
    obtain ⟨js, e1, e2⟩ := e
    cases e2
    rw [toInts_eq e1]
    rfl
  | .none :: _, _, e => by cases e
  | .bool _ :: _, _, e => by cases e
  | .str _ :: _, _, e => by cases e
  | .list _ :: _, _, e => by cases e
  | .tuple _ :: _, _, e => by cases e
  | .dict _ :: _, _, e => by cases e
theorem toBls_eq : ∀ {xs : List PyData} {is : List Bool}, toBls xs = some is → xs = is.map .bool
  | [], _, e => by cases e; rfl
  | .bool i :: r, is, e => by
    simp only [toBls, Option.bind_eq_some_iff] at e
    obtain ⟨js, e1, e2⟩ := e
    cases e2
    rw [toBls_eq e1]
    rfl
  | .none :: _, _, e => by cases e
  | .int _ :: _, _, e => by cases e
  | .str _ :: _, _, e => by cases e
  | .list _ :: _, _, e => by cases e
  | .tuple _ :: _, _, e => by cases e
  | .dict _ :: _, _, e => by cases e
def oSum : List PyData → Option PyData
  | [.list xs] => (toInts xs).bind fun is => some (.int is.sum)
  | _ => none
def oAll : List PyData → Option PyData
  | [.list xs] => (toBls xs).bind fun is => some (.bool (is.all id))
  | _ => none
def oAny : List PyData → Option PyData
  | [.list xs] => (toBls xs).bind fun is => some (.bool (is.any id))
  | _ => none
theorem s_sum {K : PySem.W.Frag} : SB K (rSum K) oSum := by
  intro F H vs xs z Q s d e k1 k2
  unfold oSum at e
  split at e
  · simp only [Option.bind_eq_some_iff] at e
    obtain ⟨is, e1, e2⟩ := e
    cases e2
    obtain ⟨v, rfl, h⟩ := dprs1 d
    obtain ⟨a, ws, rfl, h1, h2⟩ := h.list s
    rw [toInts_eq e1] at h2
    rw [dpa_ints h2] at h1
    exact ⟨a, is, rfl, h1, k1 _ (.int _)⟩
  · cases e
theorem s_all {K : PySem.W.Frag} : SB K (rAll K) oAll := by
  intro F H vs xs z Q s d e k1 k2
  unfold oAll at e
  split at e
  · simp only [Option.bind_eq_some_iff] at e
    obtain ⟨is, e1, e2⟩ := e
    cases e2
    obtain ⟨v, rfl, h⟩ := dprs1 d
    obtain ⟨a, ws, rfl, h1, h2⟩ := h.list s
    rw [toBls_eq e1] at h2
    rw [dpa_bls h2] at h1
    exact ⟨a, is, rfl, h1, k1 _ (.bl _)⟩
  · cases e
theorem s_any {K : PySem.W.Frag} : SB K (rAny K) oAny := by
  intro F H vs xs z Q s d e k1 k2
  unfold oAny at e
  split at e
  · simp only [Option.bind_eq_some_iff] at e
    obtain ⟨is, e1, e2⟩ := e
    cases e2
    obtain ⟨v, rfl, h⟩ := dprs1 d
    obtain ⟨a, ws, rfl, h1, h2⟩ := h.list s
    rw [toBls_eq e1] at h2
    rw [dpa_bls h2] at h1
    exact ⟨a, is, rfl, h1, k1 _ (.bl _)⟩
  · cases e

/-! repr -/
def oRepr : List PyData → Option PyData
  | [d] => if d.showable && okd d && decide (d.shown.length ≤ sizeLine) then some (.str d.shown) else none
  | _ => none
def rReprD (K : PySem.W.Frag) : List V → Hp → VK → Prop := fun vs H Q => ∃ (v : V) (d : PyData), vs = [v] ∧ Dp K H v d ∧ d.showable = true ∧ d.plain = true ∧ d.depth ≤ 64 ∧ d.shown.length ≤ sizeLine ∧ (∀ a, v = .ref a → True) ∧ Q (.str d.shown) H
mutual
theorem noDict_of_plain : ∀ d : PyData, d.plain = true → d.hasDict = false
  | .none, _ => by simp [PyData.hasDict]
  | .bool _, _ => by simp [PyData.hasDict]
  | .int _, _ => by simp [PyData.hasDict]
  | .str _, _ => by simp [PyData.hasDict]
  | .list xs, h => by
    rw [PyData.hasDict]
    exact noDict_of_plainAll xs (by rw [PyData.plain] at h; exact h)
  | .tuple xs, h => by
    rw [PyData.hasDict]
    exact noDict_of_plainAll xs (by rw [PyData.plain] at h; exact h)
  | .dict _, h => by rw [PyData.plain] at h; cases h
theorem noDict_of_plainAll : ∀ ds : List PyData, PyData.plainAll ds = true → PyData.hasDictAll ds = false
  | [], _ => by simp [PyData.hasDictAll]
  | d :: ds, h => by
    rw [PyData.plainAll, Bool.and_eq_true] at h
    rw [PyData.hasDictAll, noDict_of_plain d h.1, noDict_of_plainAll ds h.2]
    rfl
end
end
end L2.FL
set_option Elab.async false
set_option linter.all false
set_option maxRecDepth 100000
set_option maxHeartbeats 2000000
/-! FL5: repr, isinstance, list(), sorted(), slices; list * int; methods of lists that only read. -/
namespace L2.FL
open PySem PySem.Spec PyProof.Rows L2

section
variable {X : Cx}
theorem cr_reprD (hg : X.A.guards = some []) (hu : X.A.units + 200 < cLine) : CallR X (.builtin "repr") (rReprD X.K) := by
  intro pins s σ H vs us Q I r h
  obtain ⟨v, d, rfl, hd, hs, hp, h64, hz, _, q⟩ := h
  obtain ⟨u, rfl, ru⟩ := vals1 r
  obtain ⟨as, hr⟩ := Dp.reads I d v u hd ru
  have fin : ∀ h' tk t, (∀ b o, s.heap.get? b = some o → h'.get? b = some o) → EP X pins σ Q (.str d.shown t) { s with heap := h', toks := tk } := fun h' tk t k => ⟨.str d.shown, H, I.kept k, ⟨t, rfl⟩, q⟩
  have fin0 : ∀ tk t, EP X pins σ Q (.str d.shown t) { s with toks := tk } := fun tk t => fin s.heap tk t fun _ _ e => e
  cases hd with
  | non => cases ru; exact PySem.P.repr_of_none (fin0 _ _)
  | bl b => cases ru; exact PySem.P.repr_of_bool (fin0 _ _)
  | int i =>
    obtain ⟨t, rfl⟩ := ru
    exact PySem.P.repr_of_int (by simpa [PyData.showable] using hs) (fin0 _ _)
  | str x =>
    obtain ⟨t, rfl⟩ := ru
    exact PySem.P.repr_of_str (fin0 _ _) (by simpa [PyData.shown] using hz)
  | lst h1 h2 =>
    cases ru
    exact repr_of_reads' hr hs (fun e => by rw [noDict_of_plain _ hp] at e; cases e) hg (by omega) (fun _ _ e => e) (fun h' t tk k => fin h' tk t k) hz
  | tup h1 h2 =>
    cases ru
    exact repr_of_reads' hr hs (fun e => by rw [noDict_of_plain _ hp] at e; cases e) hg (by omega) (fun _ _ e => e) (fun h' t tk k => fin h' tk t k) hz
theorem s_repr {K : PySem.W.Frag} : SB K (rReprD K) oRepr := by
  intro F H vs xs z Q s d e k1 k2
  unfold oRepr at e
  split at e
  · rename_i dd
    split at e
    · rename_i hk
      simp only [Bool.and_eq_true, decide_eq_true_eq] at hk
      cases e
      obtain ⟨v, rfl, h⟩ := dprs1 d
      have hp := okd_plain hk.1.2
      exact ⟨v, dd, rfl, dq_dp _ _ (h.now s), hk.1.1, hp.1, hp.2, hk.2, fun _ _ => trivial, k1 _ (.str _)⟩
    · cases e
  · cases e

/-! isinstance(e, T), T a built-in type by its name -/
def tyOf : PyData → String
  | .none => "NoneType"
  | .bool _ => "bool"
  | .int _ => "int"
  | .str _ => "str"
  | .list _ => "list"
  | .tuple _ => "tuple"
  | .dict _ => "dict"
/-- T's subclasses among these -/
def isKind (T : String) (x : PyData) : Option PyData := match kitB (tyOf x) T with
  | some b => some (.bool b)
  | none => none
theorem tyx_of {K : PySem.W.Frag} {H : Hp} {v : V} {d : PyData} (h : Dp K H v d) : TyX K H v (.type (tyOf d)) := by
  cases h with
  | non => exact .base .non
  | bl b => exact .base (.bl b)
  | int i => exact .base (.int i)
  | str x => exact .base (.str x)
  | lst h1 h2 =>
    rcases h1 with (h1 | ⟨o, h1⟩) | ⟨o, its, n, h1, h3, _⟩
    · exact .base (.lst h1)
    · exact .base (.frz h1)
    · exact .kList h1 h3
  | tup h1 h2 =>
    rcases h1 with (h1 | ⟨o, h1⟩) | ⟨o, its, n, h1, h3, _⟩
    · exact .base (.tup h1)
    · exact .fTuple h1
    · exact .kTuple h1 h3
theorem se_isi {T : String} {x y : Str} {p p2 pos : Pos} {e : Expr} {f : EF} (he : SE X e f) (hg : Gl X x) (hm : X.mg x = none) (hv : bootBuiltins x = some (.builtin "isinstance")) (hg2 : Gl X y) (hm2 : X.mg y = none) (hv2 : bootBuiltins y = some (.type T))
    (hn : x ≠ "__name__" := by decide) (hdb : (x == ("__debug__" : Str)) = false := by decide) (hn2 : y ≠ "__name__" := by decide) (hdb2 : (y == ("__debug__" : Str)) = false := by decide)
    (h1 : starEach [e, .Name y p2] X.env = (false, eval e X.env) :: starEach [.Name y p2] X.env := by rfl) (h2 : starEach [.Name y p2] X.env = (false, eval (.Name y p2) X.env) :: starEach [] X.env := by rfl) (hpl : (backTo pos (starEach [.Name y p2] X.env)).any (·.1) = false := by rfl) :
    SE X (.Call (.Name x p) [e, .Name y p2] [] pos) (f1 (isKind T) f) := by
  obtain ⟨t, hp, ht⟩ := he.run
  refine ⟨_, pe_callB call_isi hg hm hv (pa_cons hp (pa_cons (pe_bltn (v := .ty T) hg2 hm2 hv2 rfl hn2 hdb2) pa_nil h2) h1) hn hdb h1 hpl, fun W σ H en r en' Q hR hf q => ?_⟩
  simp only [f1, Option.bind_eq_some_iff] at hf
  obtain ⟨⟨q1, en1⟩, e1, d, e2, z, e3, hf⟩ := hf
  cases hf
  refine ht W σ H en q1 _ _ hR e1 fun v W1 H1 x1 R1 v1 => ?_
  unfold isKind at e3
  split at e3
  · rename_i b eb
    cases e3
    exact ⟨v, .ty T, .type (tyOf d), .type T, b, rfl, .ty T, tyx_of (dq_dp _ _ ((R1.res v1 e2).now R1.subF)), kit_ty eb, q _ W1 H1 x1 R1 (.bl b)⟩
  · cases e3

/-! ### new lists by calls -/
def SBL (K : PySem.W.Frag) (r : List V → Hp → VK → Prop) (o : List PyData → Option (List PyData)) : Prop := ∀ (F H : Hp) (vs : List V) (xs zs : List PyData) (Q : VK), Same F H → DpRs K F H vs xs → o xs = some zs →
  (∀ p ws, H p = none → DqAll K F ws zs → Q (.ref p) (upd H p (.lst ws))) → r vs H Q
def fBL (o : List PyData → Option (List PyData)) (f : AF) : LF := fun en => (f en).bind fun p => (resL p.2 p.1).bind fun xs => (o xs).bind fun zs => some (zs, p.2)
theorem slt_b {r : List V → Hp → VK → Prop} {o : List PyData → Option (List PyData)} {t : TA} {f : AF} (h : SAt X.K t f) (s : SBL X.K r o) : SLt X.K (tCB r t) (fBL o f) := by
  intro W σ H en zs0 en' Q hR hf q
  simp only [fBL, Option.bind_eq_some_iff] at hf
  obtain ⟨⟨q1, en1⟩, e1, xs, e2, zs, e3, hf⟩ := hf
  cases hf
  refine h W σ H en q1 _ _ hR e1 fun vs W1 H1 x1 R1 v1 => ?_
  refine s W1.F H1 vs xs _ Q R1.subF (R1.resL v1 e2) e3 fun p ws hp hw => ?_
  exact q p ws _ _ x1 (R1.laid _ hp) upd_same hw (R1.freshF hp) (R1.freshG hp) (R1.unowned hp)
theorem sl_callB {id : String} {r : List V → Hp → VK → Prop} {o : List PyData → Option (List PyData)} {x : Str} {p pos : Pos} {e : Expr} {es : List Expr} {f : AF} (hc : CallR X (.builtin id) r) (s : SBL X.K r o) (hg : Gl X x) (hm : X.mg x = none) (hv : bootBuiltins x = some (.builtin id)) (ha : SA X (e :: es) f)
    (hn : x ≠ "__name__" := by decide) (hdb : (x == ("__debug__" : Str)) = false := by decide)
    (he : starEach (e :: es) X.env = (false, eval e X.env) :: starEach es X.env := by rfl) (hpl : (backTo pos (starEach es X.env)).any (·.1) = false := by rfl) : SL X (.Call (.Name x p) (e :: es) [] pos) (fBL o f) := by
  obtain ⟨t, hp, ht⟩ := ha.run
  exact ⟨_, pe_callB hc hg hm hv hp hn hdb he hpl, slt_b ht s⟩
theorem sl_callTy {T : String} {r : List V → Hp → VK → Prop} {o : List PyData → Option (List PyData)} {x : Str} {p pos : Pos} {e : Expr} {es : List Expr} {f : AF} (hc : CallR X (.type T) r) (s : SBL X.K r o) (hg : Gl X x) (hm : X.mg x = none) (hv : bootBuiltins x = some (.type T)) (ha : SA X (e :: es) f)
    (hn : x ≠ "__name__" := by decide) (hdb : (x == ("__debug__" : Str)) = false := by decide)
    (he : starEach (e :: es) X.env = (false, eval e X.env) :: starEach es X.env := by rfl) (hpl : (backTo pos (starEach es X.env)).any (·.1) = false := by rfl) : SL X (.Call (.Name x p) (e :: es) [] pos) (fBL o f) := by
  obtain ⟨t, hp, ht⟩ := ha.run
  exact ⟨_, pe_callTy hc hg hm hv hp hn hdb he hpl, slt_b ht s⟩
def oListOf : List PyData → Option (List PyData)
  | [.list xs] => some xs
  | [.tuple xs] => some xs
  | _ => none
def rListA (K : PySem.W.Frag) : List V → Hp → VK → Prop := fun xs H Q => ∃ p ys, xs = [.ref p] ∧ (SqL K H p ys ∨ SqT K H p ys) ∧ ∀ l, H l = none → Q (.ref l) (upd H l (.lst ys))
theorem s_listOf {K : PySem.W.Frag} : SBL K (rListA K) oListOf := by
  intro F H vs xs zs Q s d e k
  unfold oListOf at e
  split at e
  · obtain ⟨v, rfl, h⟩ := dprs1 d
    obtain ⟨a, ws, rfl, h1, h2⟩ := h.list s
    cases e
    exact ⟨a, ws, rfl, .inl h1, fun l hl => k l ws hl h2⟩
  · obtain ⟨v, rfl, h⟩ := dprs1 d
    obtain ⟨a, ws, rfl, h1, h2⟩ := h.tuple s
    cases e
    exact ⟨a, ws, rfl, .inr h1, fun l hl => k l ws hl h2⟩
  · cases e

/-! sorted(xs) of a list -/
def sortD (xs : List PyData) : List PyData := xs.mergeSort (PySem.W.dataLe false id)
def sortOk (xs : List PyData) : Bool := (xs.all fun x => xs.all fun y => PySem.W.alike x y) && okdAll xs && decide (xs.length ≤ sizeLine) && ((xs.all fun x => match x with | .tuple (_ :: _) => true | _ => false) || (xs.all fun x => match x with | .tuple _ => false | .none => false | _ => true))
def oSorted : List PyData → Option (List PyData)
  | [.list xs] => if sortOk xs then some (sortD xs) else none
  | _ => none
def rSortD (K : PySem.W.Frag) : List V → Hp → VK → Prop := fun vs H Q => ∃ (a : Addr) (ws : List V) (xs : List PyData), vs = [.ref a] ∧ SqL K H a ws ∧ DpAll K H ws xs ∧ sortOk xs = true ∧
  ∀ (out : List V) p, H p = none → Paired (fun v d => ∃ i : Nat, ws[i]? = some v ∧ xs[i]? = some d) out (sortD xs) → Q (.ref p) (upd H p (.lst out))
theorem depth_le_all {ds : List PyData} {d : PyData} (hd : d ∈ ds) : d.depth ≤ PyData.depthAll ds := by
  induction ds with
  | nil => cases hd
  | cons x r ih =>
    rw [PyData.depthAll]
    rcases List.mem_cons.mp hd with e | e
    · subst e; exact Nat.le_max_left _ _
    · exact Nat.le_trans (ih e) (Nat.le_max_right _ _)
theorem sortOk_of {xs : List PyData} (h : sortOk xs = true) : PySem.W.AllAlike xs ∧ PySem.W.Sortable xs ∧ PyData.plainAll xs = true ∧ PyData.depthAll xs ≤ 64 ∧ xs.length ≤ sizeLine := by
  unfold sortOk at h
  simp only [Bool.and_eq_true, Bool.or_eq_true, List.all_eq_true, decide_eq_true_eq] at h
  obtain ⟨⟨⟨h1, h2⟩, h3⟩, h4⟩ := h
  have hp := okdAll_plain h2
  refine ⟨fun d hd d' hd' => h1 d hd d' hd', ?_, hp.1, hp.2, h3⟩
  rcases h4 with h4 | h4
  · refine .inl fun d hd => ?_
    have := h4 d hd
    split at this
    · exact ⟨_, _, rfl⟩
    · cases this
  · refine .inr fun d hd => ⟨fun e => ?_, fun ys e => ?_⟩
    · have := h4 d hd
      subst e
      cases this
    · have := h4 d hd
      subst e
      cases this
theorem each_ix {h : Heap} {K : PySem.W.Frag} {H : Hp} {ws : List V} {its : List Value} {xs : List PyData} (rv : Vals ws its) (hl : its.length = xs.length) : PySem.W.EachIs (fun u (d : PyData) => ∃ (i : Nat) (v : V), ws[i]? = some v ∧ xs[i]? = some d ∧ RelV v u) its xs := by
  have go : ∀ (k : Nat) (us : List Value) (ds : List PyData), us.length = ds.length → (∀ j u, us[j]? = some u → its[k + j]? = some u) → (∀ j d, ds[j]? = some d → xs[k + j]? = some d) →
      PySem.W.EachIs (fun u (d : PyData) => ∃ (i : Nat) (v : V), ws[i]? = some v ∧ xs[i]? = some d ∧ RelV v u) us ds := by
    intro k us
    induction us generalizing k with
    | nil =>
      intro ds hl _ _
      cases ds with
      | nil => exact .nil
      | cons d r => simp at hl
    | cons u us ih =>
      intro ds hl h1 h2
      cases ds with
      | nil => simp at hl
      | cons d r =>
        refine .cons ?_ (ih (k + 1) r (by simpa using hl) (fun j w e => ?_) (fun j w e => ?_))
        · have e1 := h1 0 u rfl
          have e2 := h2 0 d rfl
          obtain ⟨v, e3, r3⟩ := vals_back rv e1
          exact ⟨k + 0, v, e3, e2, r3⟩
        · have := h1 (j + 1) w (by simpa using e)
          rw [show k + 1 + j = k + (j + 1) by omega]
          exact this
        · have := h2 (j + 1) w (by simpa using e)
          rw [show k + 1 + j = k + (j + 1) by omega]
          exact this
  exact go 0 its xs hl (fun j u e => by simpa using e) (fun j d e => by simpa using e)
theorem paired_of_each {α β γ : Type} {T : α → β → Prop} {Rl : γ → α → Prop} {S : γ → β → Prop} (hh : ∀ a b, T a b → ∃ c, Rl c a ∧ S c b) : ∀ {as : List α} {bs : List β}, PySem.W.EachIs T as bs → ∃ cs, Paired Rl cs as ∧ Paired S cs bs
  | _, _, .nil => ⟨[], .nil, .nil⟩
  | _, _, .cons h t => by
    obtain ⟨c, h1, h2⟩ := hh _ _ h
    obtain ⟨cs, h3, h4⟩ := paired_of_each hh t
    exact ⟨c :: cs, .cons h1 h3, .cons h2 h4⟩
theorem dpAll_length {K : PySem.W.Frag} {H : Hp} : ∀ {ds : List PyData} {vs : List V}, DpAll K H vs ds → vs.length = ds.length
  | _, _, .nil => rfl
  | _, _, .cons h1 h2 => by simp [dpAll_length h2]
theorem cr_sortD (hu : X.A.units + 200 < cLine) : CallR X (.builtin "sorted") (rSortD X.K) := by
  intro pins s σ H vs us Q I r h
  obtain ⟨a, ws, xs, rfl, hs, hd, hk, q⟩ := h
  obtain ⟨k1, k2, k3, k4, k5⟩ := sortOk_of hk
  rw [Vals.ref1 r]
  obtain ⟨its, rv, hl, hz⟩ := I.list hs
  obtain ⟨as, hr⟩ := Dp.readsAll I xs ws its hd rv
  have hlen : its.length = xs.length := by rw [← rv.length]; exact dpAll_length hd
  have hal : PySem.W.AllAlike (xs.map (id : PyData → PyData)) := by rw [List.map_id]; exact k1
  have hso : PySem.W.Sortable (xs.map (id : PyData → PyData)) := by rw [List.map_id]; exact k2
  refine PySem.W.sorted_data (enc := (id : PyData → PyData)) (bs := xs) hl.isList (each_ix (h := s.heap) (K := X.K) (H := H) rv hlen) (PySem.W.readsAll_each id (by rw [List.map_id]; exact hr)) hal hso k5
    (fun b hb => by have := depth_le_all hb; show X.A.units + 2 + b.depth < cLine; omega) fun out h1 h2 => ?_
  obtain ⟨cs, p1, p2⟩ := paired_of_each (Rl := RelV) (S := fun v d => ∃ i : Nat, ws[i]? = some v ∧ xs[i]? = some d) (fun u d ⟨i, v, e1, e2, e3⟩ => ⟨v, e3, i, e1, e2⟩) h2
  obtain ⟨ep, he⟩ := PyProof.Rows.sortedAll_at s.heap its out.toArray
  have hcl : cs.length ≤ sizeLine := by rw [Paired.length p1, h1]; exact k5
  exact ⟨.ref (s.heap.objs.size + 1), upd H (s.heap.objs.size + 1) (.lst cs), I.laid (t' := s.toks) (fun _ _ => PyProof.Rows.sortedAll_old) (Nat.le_succ _) ⟨hcl, out, ep, p1, he⟩, rfl, q cs _ (I.hok.fresh (Nat.le_succ _)) p2⟩
theorem paired_dqa {K : PySem.W.Frag} {F : Hp} {P : V → PyData → Prop} (h : ∀ v d, P v d → Dq K F v d) : ∀ {vs : List V} {ds : List PyData}, Paired P vs ds → DqAll K F vs ds
  | _, _, .nil => .nil
  | _, _, .cons a b => .cons (h _ _ a) (paired_dqa h b)
theorem s_sorted {K : PySem.W.Frag} : SBL K (rSortD K) oSorted := by
  intro F H vs xs zs Q s d e k
  unfold oSorted at e
  split at e
  · split at e
    · rename_i hk
      cases e
      obtain ⟨v, rfl, h⟩ := dprs1 d
      obtain ⟨a, ws, rfl, h1, h2⟩ := h.list s
      refine ⟨a, ws, _, rfl, h1, dqa_dpa _ _ (dpa_mono s _ _ h2), hk, fun out p hp ho => k p out hp (paired_dqa (fun v d ⟨i, e1, e2⟩ => ?_) ho)⟩
      obtain ⟨v', e3, h3⟩ := dpa_get h2 e2
      rw [e1] at e3
      cases e3
      exact h3
    · cases e
  · cases e

/-! ### slices -/
abbrev OF := En → Option (Option Int × En)
def SOt (K : PySem.W.Frag) (t : TO) (f : OF) : Prop := ∀ (W : Wd) (σ : St) (H : Hp) (en : En) (r : Option Int) (en' : En) (Q : Option Int → Hp → Prop), R K W σ H en → f en = some (r, en') →
  (∀ W' H', Ext W W' → R K W' σ H' en' → Q r H') → t σ H Q
structure SO (X : Cx) (e : Option Expr) (f : OF) : Prop where
  run : ∃ t, PO X e t ∧ SOt X.K t f
def fNoPart : OF := fun en => some (none, en)
def fPart (f : EF) : OF := fun en => (f en).bind fun p => match p.1 with
  | .d (.int i) => some (some i, p.2)
  | _ => none
theorem so_none : SO X none fNoPart := ⟨_, po_none, fun W σ H en r en' Q hR hf q => by cases hf; exact q W H (Ext.refl _) hR⟩
theorem so_some {e : Expr} {f : EF} (h : SE X e f) : SO X (some e) (fPart f) := by
  obtain ⟨t, hp, ht⟩ := h.run
  refine ⟨_, po_some hp, fun W σ H en r en' Q hR hf q => ?_⟩
  simp only [fPart, Option.bind_eq_some_iff] at hf
  obtain ⟨⟨c, en1⟩, e1, hf⟩ := hf
  refine ht W σ H en c en1 _ hR e1 fun v W1 H1 x1 R1 v1 => ?_
  simp only at hf
  split at hf
  · rename_i i
    cases hf
    have v1' : Dq X.K W1.F v (.int i) := v1
    cases v1'
    exact ⟨i, rfl, q W1 H1 x1 R1⟩
  · cases hf
/-- the places of a slice -/
def cutD (xs : List PyData) (lo hi : Option Int) : List PyData := (xs.drop (HT.sIx xs.length 0 lo)).take (HT.sIx xs.length xs.length hi - HT.sIx xs.length 0 lo)
theorem cut_dqa {K : PySem.W.Frag} {F : Hp} {vs : List V} {xs : List PyData} (lo hi : Option Int) (h : DqAll K F vs xs) : DqAll K F (cutV vs lo hi) (cutD xs lo hi) := by
  unfold cutV cutD
  rw [dpa_length h]
  exact dpa_take _ (dpa_drop _ h)
theorem cut_whole {xs : List PyData} {lo hi : Option Int} (h : HT.sIx xs.length 0 lo = 0 ∧ HT.sIx xs.length xs.length hi = xs.length) : cutD xs lo hi = xs := by
  unfold cutD
  rw [h.1, h.2]
  simp
def fSlL (f : EF) (lo hi : OF) : LF := fun en => (f en).bind fun p => (lo p.2).bind fun q => (hi q.2).bind fun r => (res r.2 p.1).bind fun x => match x with
  | .list xs => some (cutD xs q.1 r.1, r.2)
  | _ => none
def fSl (f : EF) (lo hi : OF) : EF := fun en => (f en).bind fun p => (lo p.2).bind fun q => (hi q.2).bind fun r => (res r.2 p.1).bind fun x => match x with
  | .tuple xs => some (.d (.tuple (cutD xs q.1 r.1)), r.2)
  | .list xs => some (.d (.list (cutD xs q.1 r.1)), r.2)
  | .str z => if z.length ≤ sizeLine then some (.d (.str (cutS z q.1 r.1)), r.2) else none
  | _ => none
theorem sl_slice {e : Expr} {lo hi : Option Expr} {f : EF} {g h : OF} {p2 pos : Pos} (he : SE X e f) (hl : SO X lo g) (hh : SO X hi h) : SL X (.Subscript e (.Slice lo hi none p2) pos) (fSlL f g h) := by
  obtain ⟨t, hp, ht⟩ := he.run
  obtain ⟨u, hq, hu⟩ := hl.run
  obtain ⟨w, hr, hw⟩ := hh.run
  refine ⟨_, pe_slice sl_list hp hq hr, fun W σ H en zs en' Q hR hf q => ?_⟩
  simp only [fSlL, Option.bind_eq_some_iff] at hf
  obtain ⟨⟨c1, en1⟩, e1, ⟨c2, en2⟩, e2, ⟨c3, en3⟩, e3, x, e4, hf⟩ := hf
  refine ht W σ H en c1 en1 _ hR e1 fun v W1 H1 x1 R1 v1 => hu W1 σ H1 en1 c2 en2 _ R1 e2 fun W2 H2 x2 R2' => hw W2 σ H2 en2 c3 en3 _ R2' e3 fun W3 H3 x3 R3 => ?_
  simp only at hf
  split at hf
  · rename_i xs
    cases hf
    obtain ⟨a, ws, rfl, h1, h2⟩ := (R3.res ((v1.mono x2.F).mono x3.F) e4).list R3.subF
    exact ⟨a, ws, rfl, h1, fun p hp => q p _ _ _ ((x1.trans x2).trans x3) (R3.laid _ hp) upd_same (cut_dqa _ _ h2) (R3.freshF hp) (R3.freshG hp) (R3.unowned hp)⟩
  · cases hf
def rSlAll (K : PySem.W.Frag) : V → Option Int → Option Int → Hp → VK → Prop := fun x lo hi H Q => (rSlA K x lo hi H Q ∨ rSlL K x lo hi H Q) ∨ rSlS x lo hi H Q
theorem se_slice {e : Expr} {lo hi : Option Expr} {f : EF} {g h : OF} {p2 pos : Pos} (he : SE X e f) (hl : SO X lo g) (hh : SO X hi h) : SE X (.Subscript e (.Slice lo hi none p2) pos) (fSl f g h) := by
  obtain ⟨t, hp, ht⟩ := he.run
  obtain ⟨u, hq, hu⟩ := hl.run
  obtain ⟨w, hr, hw⟩ := hh.run
  refine ⟨_, pe_slice (r := rSlAll X.K) ((sl_tupA.or sl_list).or sl_str) hp hq hr, fun W σ H en r en' Q hR hf q => ?_⟩
  simp only [fSl, Option.bind_eq_some_iff] at hf
  obtain ⟨⟨c1, en1⟩, e1, ⟨c2, en2⟩, e2, ⟨c3, en3⟩, e3, x, e4, hf⟩ := hf
  refine ht W σ H en c1 en1 _ hR e1 fun v W1 H1 x1 R1 v1 => hu W1 σ H1 en1 c2 en2 _ R1 e2 fun W2 H2 x2 R2' => hw W2 σ H2 en2 c3 en3 _ R2' e3 fun W3 H3 x3 R3 => ?_
  have x13 := (x1.trans x2).trans x3
  have dx := R3.res ((v1.mono x2.F).mono x3.F) e4
  simp only at hf
  split at hf
  · rename_i xs
    cases hf
    obtain ⟨k1, k2⟩ := two_ends x13 R3 q
    obtain ⟨a, ws, rfl, h1, h2⟩ := dx.tuple R3.subF
    refine .inl (.inl ⟨a, ws, rfl, h1, fun hw => k1 _ ?_, fun hw p hp => k2 p _ hp (tup_new R3.subF hp (cut_dqa _ _ h2))⟩)
    rw [dpa_length h2] at hw
    rw [cut_whole hw]
    exact dx.oldT
  · rename_i xs
    cases hf
    obtain ⟨k1, k2⟩ := two_ends x13 R3 q
    obtain ⟨a, ws, rfl, h1, h2⟩ := dx.list R3.subF
    exact .inl (.inr ⟨a, ws, rfl, h1, fun p hp => k2 p _ hp (lst_new R3.subF hp (cut_dqa _ _ h2))⟩)
  · rename_i z
    split at hf
    · rename_i hz
      cases hf
      exact .inr ⟨z, dx.str, hz, q _ W3 H3 x13 R3 (.str _)⟩
    · cases hf
  · cases hf

/-! xs * k, xs new -/
def fRep (f : LF) (g : EF) : LF := fun en => (f en).bind fun p => (g p.2).bind fun q => match q.1 with
  | .d (.int k) => if -(2 ^ 63) ≤ k ∧ k < 2 ^ 63 ∧ p.1.length * k.toNat ≤ sizeLine then some ((List.replicate k.toNat p.1).flatten, q.2) else none
  | _ => none
theorem dqa_rep {K : PySem.W.Frag} {F : Hp} {vs : List V} {xs : List PyData} (h : DqAll K F vs xs) : ∀ n, DqAll K F (List.replicate n vs).flatten (List.replicate n xs).flatten
  | 0 => .nil
  | n + 1 => by
    rw [List.replicate_succ, List.replicate_succ, List.flatten_cons, List.flatten_cons]
    exact dpa_app h (dqa_rep h n)
theorem sl_rep {a b : Expr} {f : LF} {g : EF} {pos : Pos} (ha : SL X a f) (hb : SE X b g) : SL X (.BinOp a .Mult b pos) (fRep f g) := by
  obtain ⟨t, hp, ht⟩ := ha.run
  obtain ⟨u, hq, hu⟩ := hb.run
  refine ⟨_, pe_op op_rep hp hq, fun W σ H en zs en' Q hR hf q => ?_⟩
  simp only [fRep, Option.bind_eq_some_iff] at hf
  obtain ⟨⟨xs, en1⟩, e1, ⟨c, en2⟩, e2, hf⟩ := hf
  refine ht W σ H en xs en1 _ hR e1 fun l vs W1 H1 x1 R1 h1 h2 h3 h4 h5 => ?_
  have R1' := R1.keep h1 h3 h4 h5
  refine hu _ σ H1 en1 c en2 _ R1' e2 fun v W2 H2 x2 R2' v2 => ?_
  have x12 := (x1.trans (ext_new R1 (.lst vs) h3)).trans x2
  have hl : H2 l = some (.lst vs) := R2'.subF _ _ (x2.F _ _ upd_same)
  have hv := dpa_mono x2.F _ _ (dpa_mono (same_new h3) _ _ h2)
  simp only at hf
  split at hf
  · rename_i k
    split at hf
    · rename_i hz
      cases hf
      have v2' : Dq X.K W2.F v (.int k) := v2
      cases v2'
      refine ⟨l, k, vs, rfl, rfl, hl, hz.1, hz.2.1, by rw [dpa_length hv]; exact hz.2.2, fun p hp => ?_⟩
      exact q p _ _ _ x12 (R2'.laid _ hp) upd_same (dqa_rep hv _) (R2'.freshF hp) (R2'.freshG hp) (R2'.unowned hp)
    · cases hf
  · cases hf
/-! xs + ys, a new list -/
def fCat (f g : EF) : LF := fun en => (f en).bind fun p => (g p.2).bind fun q => (res q.2 p.1).bind fun x => (res q.2 q.1).bind fun y => match x, y with
  | .list xs, .list ys => if xs.length + ys.length ≤ sizeLine then some (xs ++ ys, q.2) else none
  | _, _ => none
theorem sl_cat {a b : Expr} {f g : EF} {pos : Pos} (ha : SE X a f) (hb : SE X b g) : SL X (.BinOp a .Add b pos) (fCat f g) := by
  obtain ⟨t, hp, ht⟩ := ha.run
  obtain ⟨u, hq, hu⟩ := hb.run
  refine ⟨_, pe_op op_catR hp hq, fun W σ H en zs en' Q hR hf q => ?_⟩
  simp only [fCat, Option.bind_eq_some_iff] at hf
  obtain ⟨⟨c1, en1⟩, e1, ⟨c2, en2⟩, e2, x, e3, y, e4, hf⟩ := hf
  refine ht W σ H en c1 en1 _ hR e1 fun v W1 H1 x1 R1 v1 => hu _ σ H1 en1 c2 en2 _ R1 e2 fun w W2 H2 x2 R2' v2 => ?_
  have dx := R2'.res (v1.mono x2.F) e3
  have dy := R2'.res v2 e4
  split at hf
  · split at hf
    · rename_i hz
      cases hf
      obtain ⟨a, vs, rfl, h1, h2⟩ := dx.list R2'.subF
      obtain ⟨b, ws, rfl, h3, h4⟩ := dy.list R2'.subF
      refine ⟨a, b, vs, ws, rfl, rfl, h1, h3, by rw [dpa_length h2, dpa_length h4]; exact hz, fun p hp => ?_⟩
      exact q p _ _ _ (x1.trans x2) (R2'.laid _ hp) upd_same (dpa_app h2 h4) (R2'.freshF hp) (R2'.freshG hp) (R2'.unowned hp)
    · cases hf
  · cases hf
end
end L2.FL
set_option Elab.async false
set_option linter.all false
set_option maxRecDepth 100000
set_option maxHeartbeats 2000000
/-! FL6: targets, statements, loops, comprehensions. -/
namespace L2.FL
open PySem PySem.Spec PyProof.Rows L2

/-! ### targets -/
abbrev GF := PyData → En → Option En
/-- ws: the slots that it sets -/
structure SGt (K : PySem.W.Frag) (t : TG) (f : GF) (ws : List Nat) : Prop where
  go : ∀ (W : Wd) (σ : St) (H : Hp) (en : En) (v : V) (x : PyData) (en' : En) (Q : St → Hp → Prop), R K W σ H en → Dq K W.F v x → f x en = some en' →
    (∀ σ', R K W σ' H en' → σ'.length = σ.length → (∀ j, j ∉ ws → σ'[j]? = σ[j]?) → Q σ' H) → t v σ H Q
structure SG (X : Cx) (tg : Expr) (f : GF) (ws : List Nat) : Prop where
  run : ∃ t, PG X tg t ∧ SGt X.K t f ws
abbrev GsF := List PyData → En → Option En
structure SGst (K : PySem.W.Frag) (t : TGs) (f : GsF) (ws : List Nat) : Prop where
  go : ∀ (W : Wd) (σ : St) (H : Hp) (en : En) (vs : List V) (xs : List PyData) (en' : En) (Q : St → Hp → Prop), R K W σ H en → DqAll K W.F vs xs → f xs en = some en' →
    (∀ σ', R K W σ' H en' → σ'.length = σ.length → (∀ j, j ∉ ws → σ'[j]? = σ[j]?) → Q σ' H) → t vs σ H Q
structure SGs (X : Cx) (ts : List Expr) (f : GsF) (ws : List Nat) : Prop where
  run : ∃ t, PGs X ts t ∧ SGst X.K t f ws
def gSet (i : Nat) : GF := fun x en => if open_ en i then some (en.set i (some (.d x))) else none
def gNil' : GsF := fun xs en => match xs with
  | [] => some en
  | _ => none
def gCons' (f : GF) (g : GsF) : GsF := fun xs en => match xs with
  | x :: r => (f x en).bind fun en1 => g r en1
  | [] => none
def gTup' (f : GsF) : GF := fun x en => match x with
  | .tuple xs => f xs en
  | _ => none
section
variable {X : Cx}
theorem sg_name {i : Nat} {x : Str} {pos : Pos} (hN : X.N.Nodup) (hi : X.N[i]? = some x := by rfl) (hx : Loc X.env.scope x := by first | exact Or.inl rfl | exact Or.inr rfl) (hf : X.fn x = true ∨ X.env.scope.names.lookup x = some .local := by first | exact .inl rfl | exact .inr rfl) : SG X (.Name x pos) (gSet i) [i] := by
  refine ⟨_, pg_name hN hi hx hf, ⟨fun W σ H en v y en' Q hR hd he q => ?_⟩⟩
  unfold gSet at he
  split at he
  · rename_i ho
    cases he
    refine q _ (hR.setD ho hd) (by simp) fun j hj => ?_
    rw [List.getElem?_set_ne (fun e => hj (by simp [e]))]
  · cases he
theorem sgs_nil : SGs X [] gNil' [] := by
  refine ⟨_, pgs_nil, ⟨fun W σ H en vs xs en' Q hR hd he q => ?_⟩⟩
  unfold gNil' at he
  split at he
  · cases he
    cases hd
    exact ⟨rfl, q σ hR rfl fun _ _ => rfl⟩
  · cases he
theorem sgs_cons {e : Expr} {es : List Expr} {f : GF} {g : GsF} {ws us : List Nat} (h : SG X e f ws) (k : SGs X es g us) (hs : (assignEach (e :: es) X.env).map (·.2) = assign e X.env :: (assignEach es X.env).map (·.2) := by rfl) : SGs X (e :: es) (gCons' f g) (ws ++ us) := by
  obtain ⟨t, hp, ht⟩ := h.run
  obtain ⟨u, hq, hu⟩ := k.run
  refine ⟨_, pgs_cons hp hq hs, ⟨fun W σ H en vs xs en' Q hR hd he q => ?_⟩⟩
  cases hd with
  | nil => cases he
  | cons h1 h2 =>
    simp only [gCons', Option.bind_eq_some_iff] at he
    obtain ⟨en1, e1, e2⟩ := he
    refine ⟨_, _, rfl, ht.go W σ H en _ _ en1 _ hR h1 e1 fun σ1 R1 l1 k1 => ?_⟩
    refine hu.go W σ1 H en1 _ _ en' _ R1 h2 e2 fun σ2 R2' l2 k2 => q σ2 R2' (l2.trans l1) fun j hj => ?_
    simp only [List.mem_append, not_or] at hj
    rw [k2 j hj.2, k1 j hj.1]
theorem sg_tup {es : List Expr} {k : Nat} {f : GsF} {ws : List Nat} {n : Nat} {pos : Pos} (hc : X.calm = true) (h : SGs X es f ws) (hn : (assignEach es X.env).length = n := by rfl) (hst : (assignEach es X.env).findIdx? (·.1) = none := by rfl)
    (hl : ∀ xs en en', f xs en = some en' → xs.length = n) : SG X (.Tuple es k pos) (gTup' f) ws := by
  obtain ⟨t, hp, ht⟩ := h.run
  refine ⟨_, pg_tup hc hp hn hst, ⟨fun W σ H en v x en' Q hR hd he q => ?_⟩⟩
  unfold gTup' at he
  split at he
  · rename_i xs
    cases hd with
    | tup h1 h2 =>
      exact ⟨_, _, rfl, same_sqt hR.subF h1, by rw [dpa_length h2]; exact hl _ _ _ he, ht.go W σ H en _ xs en' _ hR h2 he q⟩
  · cases he
theorem len_gNil : ∀ (xs : List PyData) (en en' : En), gNil' xs en = some en' → xs.length = 0 := by
  intro xs en en' h
  unfold gNil' at h
  split at h
  · rfl
  · cases h
theorem len_gCons {f : GF} {g : GsF} {n : Nat} (h : ∀ (xs : List PyData) (en en' : En), g xs en = some en' → xs.length = n) : ∀ (xs : List PyData) (en en' : En), gCons' f g xs en = some en' → xs.length = n + 1 := by
  intro xs en en' e
  cases xs with
  | nil => cases e
  | cons x r =>
    simp only [gCons', Option.bind_eq_some_iff] at e
    obtain ⟨en1, _, e2⟩ := e
    simp [h r en1 en' e2]
end

/-! ### statements -/
inductive Out where
  | nx
  | rt (x : PyData)
  | bk
  | ct
abbrev SF := En → Option (Out × En)
def Fin (K : PySem.W.Frag) (W : Wd) (D : Ends) (o : Out) (σ : St) (H : Hp) : Prop := match o with
  | .nx => D.nx σ H
  | .rt x => ∀ v, Dq K W.F v x → D.rt v H
  | .bk => D.bk σ H
  | .ct => D.ct σ H
def SSt (K : PySem.W.Frag) (t : TS) (f : SF) : Prop := ∀ (W : Wd) (σ : St) (H : Hp) (en : En) (o : Out) (en' : En) (D : Ends), R K W σ H en → f en = some (o, en') →
  (∀ W' σ' H', Ext W W' → R K W' σ' H' en' → Fin K W' D o σ' H') → t D σ H
structure SS (X : Cx) (st : Stmt) (f : SF) : Prop where
  run : ∃ t, PS X st t ∧ SSt X.K t f
structure SSs (X : Cx) (sts : List Stmt) (f : SF) : Prop where
  run : ∃ t, PSs X sts t ∧ SSt X.K t f
def sNil : SF := fun en => some (.nx, en)
def sSeq (f g : SF) : SF := fun en => (f en).bind fun p => match p.1 with
  | .nx => g p.2
  | o => some (o, p.2)
def sIf (c : TF) (f g : SF) : SF := fun en => (c en).bind fun p => if p.1 = true then f p.2 else g p.2
def sRet (f : EF) : SF := fun en => (f en).bind fun p => match p.1 with
  | .d x => some (.rt x, p.2)
  | _ => none
def sRetN : SF := fun en => some (.rt .none, en)
def sDrop (f : EF) : SF := fun en => (f en).bind fun p => some (.nx, p.2)
def sAsg (g : GF) (f : EF) : SF := fun en => (f en).bind fun p => match p.1 with
  | .d x => (g x p.2).bind fun en' => some (.nx, en')
  | _ => none
def sAsgL (i : Nat) (f : LF) : SF := fun en => (f en).bind fun p => if open_ p.2 i then some (.nx, p.2.set i (some (.l p.1))) else none
def sNever : SF := fun _ => none
def sBreak : SF := fun en => some (.bk, en)
def sCont : SF := fun en => some (.ct, en)
def sAug (i : Nat) (o : PyData → PyData → Option PyData) (f : EF) : SF := fun en => match en[i]? with
  | some (some (.d x)) => (f en).bind fun p => (res p.2 p.1).bind fun y => (o x y).bind fun z => if open_ p.2 i then some (.nx, p.2.set i (some (.d z))) else none
  | _ => none
section
variable {X : Cx}
theorem Ext.fin {K : PySem.W.Frag} {A B : Wd} {D : Ends} {o : Out} {σ : St} {H : Hp} (h : Fin K A D o σ H) (e : Same B.F A.F) : Fin K B D o σ H := by
  cases o with
  | nx => exact h
  | rt x => exact fun v hv => h v (dp_mono e _ _ hv)
  | bk => exact h
  | ct => exact h
theorem ss_nil : SSs X [] sNil := ⟨_, pss_nil, fun W σ H en o en' D hR hf q => by cases hf; exact q W σ H (Ext.refl _) hR⟩
theorem sst_seq {K : PySem.W.Frag} {t u : TS} {f g : SF} (h : SSt K t f) (k : SSt K u g) : SSt K (tSeq t u) (sSeq f g) := by
  intro W σ H en o en' D hR hf q
  simp only [sSeq, Option.bind_eq_some_iff] at hf
  obtain ⟨⟨o1, en1⟩, e1, hf⟩ := hf
  refine h W σ H en o1 en1 _ hR e1 fun W1 σ1 H1 x1 R1 => ?_
  cases o1 with
  | nx => exact k W1 σ1 H1 en1 o en' D R1 hf fun W2 σ2 H2 x2 R2' => q W2 σ2 H2 (x1.trans x2) R2'
  | rt x => cases hf; exact q W1 σ1 H1 x1 R1
  | bk => cases hf; exact q W1 σ1 H1 x1 R1
  | ct => cases hf; exact q W1 σ1 H1 x1 R1
theorem ss_cons {st : Stmt} {rest : List Stmt} {f g : SF} (h : SS X st f) (k : SSs X rest g) : SSs X (st :: rest) (sSeq f g) := by
  obtain ⟨t, hp, ht⟩ := h.run
  obtain ⟨u, hq, hu⟩ := k.run
  exact ⟨_, pss_cons hp hq, sst_seq ht hu⟩
theorem ss_one {st : Stmt} {f : SF} (h : SS X st f) : SSs X [st] f := by
  obtain ⟨t, hp, ht⟩ := h.run
  exact ⟨_, pss_one hp, ht⟩
theorem ss_if {c : Expr} {a b : List Stmt} {f : TF} {g h : SF} {pos : Pos} (hc : ST X c f) (ha : SSs X a g) (hb : SSs X b h) : SS X (.If c a b pos) (sIf f g h) := by
  obtain ⟨t, hp, ht⟩ := hc.run
  obtain ⟨u, hq, hu⟩ := ha.run
  obtain ⟨w, hr, hw⟩ := hb.run
  refine ⟨_, ps_if hp hq hr, fun W σ H en o en' D hR hf q => ?_⟩
  simp only [sIf, Option.bind_eq_some_iff] at hf
  obtain ⟨⟨d, en1⟩, e1, hf⟩ := hf
  refine ht W σ H en d en1 _ hR e1 fun W1 H1 x1 R1 => ?_
  cases d with
  | true =>
    simp only [if_pos] at hf ⊢
    exact hu W1 σ H1 en1 o en' D R1 hf fun W2 σ2 H2 x2 R2' => q W2 σ2 H2 (x1.trans x2) R2'
  | false =>
    simp only [Bool.false_eq_true, if_false] at hf ⊢
    exact hw W1 σ H1 en1 o en' D R1 hf fun W2 σ2 H2 x2 R2' => q W2 σ2 H2 (x1.trans x2) R2'
theorem ss_ret {e : Expr} {f : EF} {pos : Pos} (h : SE X e f) : SS X (.Return (some e) pos) (sRet f) := by
  obtain ⟨t, hp, ht⟩ := h.run
  refine ⟨_, ps_ret hp, fun W σ H en o en' D hR hf q => ?_⟩
  simp only [sRet, Option.bind_eq_some_iff] at hf
  obtain ⟨⟨c, en1⟩, e1, hf⟩ := hf
  refine ht W σ H en c en1 _ hR e1 fun v W1 H1 x1 R1 v1 => ?_
  simp only at hf
  split at hf
  · cases hf
    exact q W1 σ H1 x1 R1 v v1
  · cases hf
theorem ss_retN {pos : Pos} : SS X (.Return none pos) sRetN := ⟨_, ps_retN, fun W σ H en o en' D hR hf q => by cases hf; exact q W σ H (Ext.refl _) hR _ .non⟩
theorem ss_pass {pos : Pos} : SS X (.Pass pos) sNil := ⟨_, ps_pass, fun W σ H en o en' D hR hf q => by cases hf; exact q W σ H (Ext.refl _) hR⟩
theorem ss_break {pos : Pos} : SS X (.Break pos) sBreak := ⟨_, ps_break, fun W σ H en o en' D hR hf q => by cases hf; exact q W σ H (Ext.refl _) hR⟩
theorem ss_cont {pos : Pos} : SS X (.Continue pos) sCont := ⟨_, ps_continue, fun W σ H en o en' D hR hf q => by cases hf; exact q W σ H (Ext.refl _) hR⟩
theorem ss_never {st : Stmt} : SS X st sNever := ⟨_, ps_never, fun W σ H en o en' D hR hf q => by cases hf⟩
theorem sss_never {sts : List Stmt} : SSs X sts sNever := ⟨_, pss_never, fun W σ H en o en' D hR hf q => by cases hf⟩
theorem ss_expr {e : Expr} {f : EF} {pos : Pos} (h : SE X e f) (hs : swapsWith e none pos.line X.env = pure false := by rfl) : SS X (.Expr e pos) (sDrop f) := by
  obtain ⟨t, hp, ht⟩ := h.run
  refine ⟨_, ps_expr hp hs, fun W σ H en o en' D hR hf q => ?_⟩
  simp only [sDrop, Option.bind_eq_some_iff] at hf
  obtain ⟨⟨c, en1⟩, e1, hf⟩ := hf
  cases hf
  exact ht W σ H en c _ _ hR e1 fun v W1 H1 x1 R1 v1 => q W1 σ H1 x1 R1
theorem sst_asg {K : PySem.W.Frag} {t : TE} {u : TG} {f : EF} {g : GF} {ws : List Nat} (ht : SEt K t f) (hu : SGt K u g ws) : SSt K (tAsg t u) (sAsg g f) := by
  intro W σ H en o en' D hR hf q
  simp only [sAsg, Option.bind_eq_some_iff] at hf
  obtain ⟨⟨c, en1⟩, e1, hf⟩ := hf
  refine ht W σ H en c en1 _ hR e1 fun v W1 H1 x1 R1 v1 => ?_
  simp only at hf
  split at hf
  · simp only [Option.bind_eq_some_iff] at hf
    obtain ⟨en2, e2, hf⟩ := hf
    cases hf
    exact hu.go W1 σ H1 en1 v _ _ _ R1 v1 e2 fun σ' R2' _ _ => q W1 σ' H1 x1 R2'
  · cases hf
theorem ss_asg {tg e : Expr} {f : EF} {g : GF} {ws : List Nat} {pos : Pos} (he : SE X e f) (hg : SG X tg g ws) (hs : swapsWithSole [tg] e pos.line X.env = pure false := by rfl) (hw : swappedStores [tg] e X.env = pure none := by rfl)
    (h1 : (assignEach [tg] X.env).map (·.2) = [assign tg X.env] := by rfl) : SS X (.Assign [tg] e pos) (sAsg g f) := by
  obtain ⟨t, hp, ht⟩ := he.run
  obtain ⟨u, hq, hu⟩ := hg.run
  exact ⟨_, ps_asg hp hq hs hw h1, sst_asg ht hu⟩
theorem sgt_name {K : PySem.W.Frag} {i : Nat} : SGt K (gName i) (gSet i) [i] := ⟨fun W σ H en v y en' Q hR hd he q => by
  unfold gSet at he
  split at he
  · rename_i ho
    cases he
    refine q _ (hR.setD ho hd) (by simp) fun j hj => ?_
    rw [List.getElem?_set_ne (fun e => hj (by simp [e]))]
  · cases he⟩
theorem ss_set {i : Nat} {x : Str} {e : Expr} {f : EF} {pos' pos : Pos} (hN : X.N.Nodup) (he : SE X e f) (hi : X.N[i]? = some x := by rfl) (hx : Loc X.env.scope x := by first | exact Or.inl rfl | exact Or.inr rfl) (hs : swapsWith e (some (.Name x pos')) pos.line X.env = pure false := by rfl)
    (hf : X.fn x = true ∨ X.env.scope.names.lookup x = some .local := by first | exact .inl rfl | exact .inr rfl) : SS X (.Assign [.Name x pos'] e pos) (sAsg (gSet i) f) := by
  obtain ⟨t, hp, ht⟩ := he.run
  exact ⟨_, ps_set hN hi hx hp hs hf, sst_asg ht sgt_name⟩
theorem sst_asgL {K : PySem.W.Frag} {t : TE} {f : LF} {i : Nat} (ht : SLt K t f) : SSt K (tAsg t (gName i)) (sAsgL i f) := by
  intro W σ H en o en' D hR hf q
  simp only [sAsgL, Option.bind_eq_some_iff] at hf
  obtain ⟨⟨xs, en1⟩, e1, hf⟩ := hf
  refine ht W σ H en xs en1 _ hR e1 fun a vs W1 H1 x1 R1 h1 h2 h3 h4 h5 => ?_
  simp only at hf
  split at hf
  · rename_i ho
    cases hf
    exact q W1 _ H1 x1 (R1.setL ho h1 h2 h3 h4 h5)
  · cases hf
/-- x = a new list that may still change -/
theorem ss_setL {i : Nat} {x : Str} {e : Expr} {f : LF} {pos' pos : Pos} (hN : X.N.Nodup) (he : SL X e f) (hi : X.N[i]? = some x := by rfl) (hx : Loc X.env.scope x := by first | exact Or.inl rfl | exact Or.inr rfl) (hs : swapsWith e (some (.Name x pos')) pos.line X.env = pure false := by rfl)
    (hf : X.fn x = true ∨ X.env.scope.names.lookup x = some .local := by first | exact .inl rfl | exact .inr rfl) : SS X (.Assign [.Name x pos'] e pos) (sAsgL i f) := by
  obtain ⟨t, hp, ht⟩ := he.run
  exact ⟨_, ps_set hN hi hx hp hs hf, sst_asgL ht⟩
/-- x op= e -/
def SIp (K : PySem.W.Frag) (r : TIp) (o : PyData → PyData → Option PyData) : Prop := S2 K r o
theorem ss_aug {i : Nat} {x : Str} {e : Expr} {f : EF} {op : Operator} {r : TIp} {o : PyData → PyData → Option PyData} {pos' pos : Pos} (hN : X.N.Nodup) (he : SE X e f) (ho : PIp X op r) (s : S2 X.K r o) (hi : X.N[i]? = some x := by rfl) (hx : Loc X.env.scope x := by first | exact Or.inl rfl | exact Or.inr rfl)
    (hf : X.fn x = true ∨ X.env.scope.names.lookup x = some .local := by first | exact .inl rfl | exact .inr rfl) : SS X (.AugAssign (.Name x pos') op e pos) (sAug i o f) := by
  obtain ⟨t, hp, ht⟩ := he.run
  refine ⟨_, ps_aug hN hi hx hp ho hf, fun W σ H en out en' D hR hfn q => ?_⟩
  unfold sAug at hfn
  split at hfn
  · rename_i y ey
    simp only [Option.bind_eq_some_iff] at hfn
    obtain ⟨⟨c, en1⟩, e1, y2, e2, z, e3, hfn⟩ := hfn
    obtain ⟨v, hv, hd⟩ := hR.dat i y ey
    refine ⟨v, hv, ht W σ H en c en1 _ hR e1 fun w W1 H1 x1 R1 w1 => ?_⟩
    simp only at hfn
    split at hfn
    · rename_i hop
      cases hfn
      refine s W1.F H1 v w y y2 z _ R1.subF (.old (dp_mono x1.F _ _ hd)) (R1.res w1 e2) e3 (fun u hu => ?_) (fun p h hp' hu => ?_)
      · exact q W1 _ H1 x1 (R1.setD hop hu)
      · exact q _ _ _ (x1.trans (ext_new R1 h (R1.freshF hp'))) ((R1.alloc h hp').setD hop hu)
    · cases hfn
  · cases hfn
end
theorem pip_of {X : Cx} {op : Operator} {r : R2} (h : OpR X (inplaceOp op) r) : PIp X op r := fun pins s σ H x y v u Q I r1 r2 hh => h pins s σ H x y v u Q I r1 r2 hh
end L2.FL
set_option Elab.async false
set_option linter.all false
set_option maxRecDepth 100000
set_option maxHeartbeats 2000000
/-! FL7: what is walked; for, while; comprehensions; lists that change. -/
namespace L2.FL
open PySem PySem.Spec PyProof.Rows L2

/-! ### what is walked -/
structure WalkD (K : PySem.W.Frag) (J : It) (F0 : Hp) (xs : List PyData) : Prop where
  stop : ∀ (W : Wd) (σ : St) (H : Hp) (en : En), Same F0 W.F → R K W σ H en → J.stop xs.length H
  go : ∀ (i : Nat) (x : PyData), xs[i]? = some x → ∀ (W : Wd) (σ : St) (H : Hp) (en : En), Same F0 W.F → R K W σ H en → J.go i H ∧ ∀ v H', J.yld i H v H' → ∃ W', Ext W W' ∧ R K W' σ H' en ∧ Dq K W'.F v x
theorem WalkD.mono {K : PySem.W.Frag} {J : It} {F0 F1 : Hp} {xs : List PyData} (w : WalkD K J F0 xs) (s : Same F0 F1) : WalkD K J F1 xs :=
  ⟨fun W σ H en h r => w.stop W σ H en (s.trans h) r, fun i x e W σ H en h r => w.go i x e W σ H en (s.trans h) r⟩
abbrev IF := En → Option (List PyData × En)
def SIt (K : PySem.W.Frag) (t : TI) (f : IF) : Prop := ∀ (W : Wd) (σ : St) (H : Hp) (en : En) (xs : List PyData) (en' : En) (Q : It → Hp → Prop), R K W σ H en → f en = some (xs, en') →
  (∀ J W' H', Ext W W' → R K W' σ H' en' → WalkD K J W'.F xs → Q J H') → t σ H Q
structure SI (X : Cx) (tg iter : Expr) (f : IF) : Prop where
  run : ∃ t, PI X tg iter t ∧ SIt X.K t f
section
variable {X : Cx} {tg : Expr}
theorem pi_or {iter : Expr} {t u : TI} (h : PI X tg iter t) (k : PI X tg iter u) : PI X tg iter (fun σ H Q => t σ H Q ∨ u σ H Q) := by
  refine ⟨fun pins s σ H Q I q => ?_⟩
  rcases q with q | q
  · exact h.run pins s σ H Q I q
  · exact k.run pins s σ H Q I q
theorem walk_list {K : PySem.W.Frag} {F : Hp} {a : Addr} {vs : List V} {xs : List PyData} (h : SqL K F a vs) (hd : DqAll K F vs xs) : WalkD K (Itl K a) F xs := by
  have rd : ∀ (W : Wd) (σ : St) (H : Hp) (en : En), Same F W.F → R K W σ H en → SqL K H a vs := fun W σ H en s r => same_rd (s.trans r.subF) h
  refine ⟨fun W σ H en s r => ⟨vs, rd W σ H en s r, by rw [dpa_length hd]; exact Nat.le_refl _⟩, fun i x e W σ H en s r => ?_⟩
  obtain ⟨v, e1, e2⟩ := dpa_get hd e
  refine ⟨⟨vs, v, rd W σ H en s r, e1⟩, fun u H' y => ?_⟩
  obtain ⟨rfl, y⟩ := y
  have e3 := y vs ((rd W σ _ en s r))
  rw [e1] at e3
  cases e3
  exact ⟨W, Ext.refl _, r, dp_mono s _ _ e2⟩
theorem walk_tup {K : PySem.W.Frag} {F : Hp} {a : Addr} {vs : List V} {xs : List PyData} (h : SqT K F a vs) (hd : DqAll K F vs xs) : WalkD K (Itt K a) F xs := by
  have rd : ∀ (W : Wd) (σ : St) (H : Hp) (en : En), Same F W.F → R K W σ H en → SqT K H a vs := fun W σ H en s r => same_sqt (s.trans r.subF) h
  refine ⟨fun W σ H en s r => ⟨vs, rd W σ H en s r, by rw [dpa_length hd]; exact Nat.le_refl _⟩, fun i x e W σ H en s r => ?_⟩
  obtain ⟨v, e1, e2⟩ := dpa_get hd e
  refine ⟨⟨vs, v, rd W σ H en s r, e1⟩, fun u H' y => ?_⟩
  obtain ⟨rfl, y⟩ := y
  have e3 := y vs (rd W σ _ en s r)
  rw [e1] at e3
  cases e3
  exact ⟨W, Ext.refl _, r, dp_mono s _ _ e2⟩
/-- the signs of a text -/
def signs (z : Str) : List PyData := z.cps.toList.map fun c => .str ⟨#[c]⟩
theorem walk_str {K : PySem.W.Frag} {F : Hp} (z : Str) : WalkD K (Its z) F (signs z) := by
  refine ⟨fun W σ H en s r => ?_, fun i x e W σ H en s r => ?_⟩
  · show z.cps.size ≤ (signs z).length
    simp [signs]
  · have hi : i < z.cps.size := by
      have := (List.getElem?_eq_some_iff.mp e).1
      simpa [signs] using this
    refine ⟨hi, fun u H' y => ?_⟩
    obtain ⟨rfl, c, ec, rfl⟩ := y
    have e' : x = .str ⟨#[c]⟩ := by
      unfold signs at e
      rw [List.getElem?_map, Array.getElem?_toList, ec] at e
      cases e
      rfl
    subst e'
    exact ⟨W, Ext.refl _, r, .str _⟩
def itSeq : PyData → Option (List PyData)
  | .list xs => some xs
  | .tuple xs => some xs
  | .str z => some (signs z)
  | _ => none
/-- a list, a tuple, a text, as data -/
def fSeq (f : EF) : IF := fun en => (f en).bind fun p => match p.1 with
  | .d x => (itSeq x).bind fun xs => some (xs, p.2)
  | _ => none
theorem si_seq {e : Expr} {f : EF} (h : SE X e f) : SI X tg e (fSeq f) := by
  obtain ⟨t, hp, ht⟩ := h.run
  refine ⟨_, pi_or (pi_or (pi_list hp) (pi_tup hp)) (pi_str hp), fun W σ H en xs en' Q hR hf q => ?_⟩
  simp only [fSeq, Option.bind_eq_some_iff] at hf
  obtain ⟨⟨c, en1⟩, e1, hf⟩ := hf
  simp only at hf
  split at hf
  · rename_i x
    simp only [Option.bind_eq_some_iff] at hf
    obtain ⟨ys, e2, hf⟩ := hf
    cases hf
    cases x with
    | list xs =>
      cases e2
      refine .inl (.inl (ht W σ H en _ _ _ hR e1 fun v W1 H1 x1 R1 v1 => ?_))
      have v1' : Dq X.K W1.F v (.list xs) := v1
      cases v1' with
      | lst h1 h2 => exact ⟨_, rfl, ⟨_, same_rd R1.subF h1⟩, q _ W1 H1 x1 R1 (walk_list h1 h2)⟩
    | tuple xs =>
      cases e2
      refine .inl (.inr (ht W σ H en _ _ _ hR e1 fun v W1 H1 x1 R1 v1 => ?_))
      have v1' : Dq X.K W1.F v (.tuple xs) := v1
      cases v1' with
      | tup h1 h2 => exact ⟨_, rfl, ⟨_, same_sqt R1.subF h1⟩, q _ W1 H1 x1 R1 (walk_tup h1 h2)⟩
    | str z =>
      cases e2
      refine .inr (ht W σ H en _ _ _ hR e1 fun v W1 H1 x1 R1 v1 => ?_)
      have v1' : Dq X.K W1.F v (.str z) := v1
      cases v1'
      exact ⟨z, rfl, q _ W1 H1 x1 R1 (walk_str z)⟩
    | none => cases e2
    | bool b => cases e2
    | int i => cases e2
    | dict kvs => cases e2
  · cases hf
/-! ranges -/
def rngL (lo : Int) (n : Nat) : List PyData := (List.range n).map fun (i : Nat) => .int (lo + (i : Int))
theorem walk_rng {K : PySem.W.Frag} {F : Hp} (lo : Int) (n : Nat) : WalkD K (Itr lo n) F (rngL lo n) := by
  refine ⟨fun W σ H en s r => ?_, fun i x e W σ H en s r => ?_⟩
  · show n ≤ (rngL lo n).length
    simp [rngL]
  · have hi : i < n := by
      have := (List.getElem?_eq_some_iff.mp e).1
      simpa [rngL] using this
    refine ⟨hi, fun u H' y => ?_⟩
    obtain ⟨rfl, rfl⟩ := y
    have e' : x = .int (lo + i) := by
      unfold rngL at e
      rw [List.getElem?_map, List.getElem?_range hi] at e
      cases e
      rfl
    subst e'
    exact ⟨W, Ext.refl _, r, .int _⟩
def asInt : RV → Option Int
  | .d (.int i) => some i
  | _ => none
/-- a number that a range may have as its end (decided by choice: the kernel is never to reckon it) -/
def RngOk (n : Int) : Prop := -4611686018427387904 ≤ n ∧ n < 4611686018427387904
noncomputable instance {n : Int} : Decidable (RngOk n) := Classical.propDecidable _
noncomputable def fRng1 (f : EF) : IF := fun en => (f en).bind fun p => (asInt p.1).bind fun n => if RngOk n then some (rngL 0 n.toNat, p.2) else none
noncomputable def fRng2 (f g : EF) : IF := fun en => (f en).bind fun p => (asInt p.1).bind fun a => (g p.2).bind fun q => (asInt q.1).bind fun b =>
  if RngOk a ∧ RngOk b then some (rngL a (b - a).toNat, q.2) else none
/-- downward by ones -/
def rngDown (hi : Int) (n : Nat) : List PyData := (List.range n).map fun (i : Nat) => .int (hi + (i : Int) * (-1))
theorem asInt_eq {r : RV} {i : Int} (h : asInt r = some i) : r = .d (.int i) := by
  unfold asInt at h
  split at h
  · cases h; rfl
  · cases h
theorem rint {K : PySem.W.Frag} {F : Hp} {σ : St} {v : V} {i : Int} (h : RVal K F σ v (.d (.int i))) : v = .int i := by
  have h' : Dq K F v (.int i) := h
  cases h'; rfl
theorem si_range1 {a : Expr} {f : EF} {p pos : Pos} (hg : Gl X "range") (hm : X.mg "range" = none) (ha : SE X a f) (hs : starEach [a] X.env = [(false, eval a X.env)] := by rfl) (hs' : starEach [a] X.env = (false, eval a X.env) :: starEach [] X.env := by rfl) :
    SI X tg (.Call (.Name "range" p) [a] [] pos) (fRng1 f) := by
  obtain ⟨t, hp, ht⟩ := ha.run
  refine ⟨_, pi_range1 hg hm (pa_cons hp pa_nil hs') hs, fun W σ H en xs en' Q hR hf q => ?_⟩
  simp only [fRng1, Option.bind_eq_some_iff] at hf
  obtain ⟨⟨c, en1⟩, e1, n, e2, hf⟩ := hf
  cases asInt_eq e2
  split at hf
  · rename_i hn
    cases hf
    refine ht W σ H en _ _ _ hR e1 fun v W1 H1 x1 R1 v1 => ?_
    cases rint v1
    unfold RngOk at hn
    exact ⟨n, rfl, by omega, by omega, q _ W1 H1 x1 R1 (walk_rng 0 n.toNat)⟩
  · cases hf
theorem si_range2 {a b : Expr} {f g : EF} {p pos : Pos} (hg : Gl X "range") (hm : X.mg "range" = none) (ha : SE X a f) (hb : SE X b g) (hs : starEach [a, b] X.env = [(false, eval a X.env), (false, eval b X.env)] := by rfl) (hs2 : starEach [b] X.env = [(false, eval b X.env)] := by rfl)
    (hs' : starEach [a, b] X.env = (false, eval a X.env) :: starEach [b] X.env := by rfl) (hs2' : starEach [b] X.env = (false, eval b X.env) :: starEach [] X.env := by rfl) : SI X tg (.Call (.Name "range" p) [a, b] [] pos) (fRng2 f g) := by
  obtain ⟨t, hp, ht⟩ := ha.run
  obtain ⟨u, hq, hu⟩ := hb.run
  refine ⟨_, pi_range2 hg hm (pa_cons hp (pa_cons hq pa_nil hs2') hs') hs hs2, fun W σ H en xs en' Q hR hf q => ?_⟩
  simp only [fRng2, Option.bind_eq_some_iff] at hf
  obtain ⟨⟨c, en1⟩, e1, n, e2, ⟨c2, en2⟩, e3, m, e4, hf⟩ := hf
  cases asInt_eq e2
  cases asInt_eq e4
  split at hf
  · rename_i hn
    cases hf
    refine ht W σ H en _ _ _ hR e1 fun v W1 H1 x1 R1 v1 => ?_
    cases rint v1
    refine hu W1 σ H1 _ _ _ _ R1 e3 fun w W2 H2 x2 R2' w2 => ?_
    cases rint w2
    unfold RngOk at hn
    exact ⟨n, m, rfl, ⟨by omega, by omega, by omega, by omega⟩, q _ W2 H2 (x1.trans x2) R2' (walk_rng n (m - n).toNat)⟩
  · cases hf

/-! ### for -/
def forL (g : GF) (b : SF) : List PyData → SF
  | [], en => some (.nx, en)
  | x :: xs, en => (g x en).bind fun en1 => (b en1).bind fun p => match p.1 with
    | .nx => forL g b xs p.2
    | .ct => forL g b xs p.2
    | .bk => some (.nx, p.2)
    | .rt y => some (.rt y, p.2)
def sFor (it : IF) (g : GF) (b : SF) : SF := fun en => (it en).bind fun p => forL g b p.1 p.2
theorem sst_for {K : PySem.W.Frag} {wi : TI} {g : TG} {tb : TS} {it : IF} {gf : GF} {b : SF} {ws : List Nat} (hi : SIt K wi it) (hg : SGt K g gf ws) (hb : SSt K tb b) : SSt K (tFor wi g tb) (sFor it gf b) := by
  intro W σ H en o en' D hR hf q
  simp only [sFor, Option.bind_eq_some_iff] at hf
  obtain ⟨⟨xs, en1⟩, e1, hf⟩ := hf
  refine hi W σ H en xs en1 _ hR e1 fun J W1 H1 x1 R1 w => ?_
  refine ⟨fun i m σ' H' => m = xs.length - i ∧ i ≤ xs.length ∧ ∃ W2 en2, Ext W1 W2 ∧ R K W2 σ' H' en2 ∧ forL gf b (xs.drop i) en2 = some (o, en'), ⟨xs.length, by simp, Nat.zero_le _, W1, en1, Ext.refl _, R1, by simpa using hf⟩, ?_⟩
  rintro i m σ2 H2 ⟨rfl, hi', W2, en2, x2, R2', hf2⟩
  by_cases hlt : i < xs.length
  · have ex : xs[i]? = some xs[i] := List.getElem?_eq_getElem hlt
    have ed : xs.drop i = xs[i] :: xs.drop (i + 1) := List.drop_eq_getElem_cons hlt
    rw [ed, forL] at hf2
    simp only [Option.bind_eq_some_iff] at hf2
    obtain ⟨en3, e3, ⟨o4, en4⟩, e4, hf2⟩ := hf2
    obtain ⟨hgo, hy⟩ := w.go i _ ex W2 σ2 H2 en2 x2.F R2'
    refine .inr ⟨hgo, fun σ' H' => ∃ W5 en5, Ext W1 W5 ∧ R K W5 σ' H' en5 ∧ forL gf b (xs.drop (i + 1)) en5 = some (o, en'), fun σ' H' ⟨W5, en5, a1, a2, a3⟩ => ⟨xs.length - (i + 1), by omega, rfl, hlt, W5, en5, a1, a2, a3⟩, fun v H' y => ?_⟩
    obtain ⟨W3, x3, R3, hd⟩ := hy v H' y
    refine hg.go W3 σ2 H' en2 v _ en3 _ R3 hd e3 fun σ3 R4 _ _ => ?_
    refine hb W3 σ3 H' en3 o4 en4 _ R4 e4 fun W5 σ5 H5 x5 R5 => ?_
    have x15 := (x2.trans x3).trans x5
    cases o4 with
    | nx => exact ⟨W5, en4, x15, R5, hf2⟩
    | ct => exact ⟨W5, en4, x15, R5, hf2⟩
    | bk =>
      simp only [Option.some.injEq, Prod.mk.injEq] at hf2
      obtain ⟨rfl, rfl⟩ := hf2
      exact q W5 σ5 H5 (x1.trans x15) R5
    | rt y =>
      simp only [Option.some.injEq, Prod.mk.injEq] at hf2
      obtain ⟨rfl, rfl⟩ := hf2
      exact q W5 σ5 H5 (x1.trans x15) R5
  · have ei : i = xs.length := by omega
    subst ei
    rw [List.drop_length, forL] at hf2
    simp only [Option.some.injEq, Prod.mk.injEq] at hf2
    obtain ⟨rfl, rfl⟩ := hf2
    exact .inl ⟨w.stop W2 σ2 H2 en2 x2.F R2', q W2 σ2 H2 (x1.trans x2) R2'⟩
theorem ss_for {iter : Expr} {body : List Stmt} {it : IF} {g : GF} {b : SF} {ws : List Nat} {pos : Pos} (hp : PassesOwn (model X.prog X.w) X.A X.env X.xe) (hc : X.calm = true) (hi : SI X tg iter it) (hg : SG X tg g ws) (hb : SSs X body b)
    (hs : ∀ x, foldedSetIterable iter X.env x = pure x := by intro _; rfl) : SS X (.For tg iter body [] pos) (sFor it g b) := by
  obtain ⟨t, h1, h2⟩ := hi.run
  obtain ⟨u, h3, h4⟩ := hg.run
  obtain ⟨w, h5, h6⟩ := hb.run
  exact ⟨_, ps_for hp hc h1 h3 h5 hs, sst_for h2 h4 h6⟩

/-! ### while -/
def whileF (c : TF) (b : SF) : Nat → SF
  | 0, _ => none
  | n + 1, en => (c en).bind fun p => if p.1 = true then (b p.2).bind fun q => match q.1 with
      | .nx => whileF c b n q.2
      | .ct => whileF c b n q.2
      | .bk => some (.nx, q.2)
      | .rt y => some (.rt y, q.2)
    else some (.nx, p.2)
/-- more turns than any loop of ours takes -/
def fuel : Nat := 2 ^ 40
def sWhile (c : TF) (b : SF) : SF := whileF c b fuel
theorem ss_while {c : Expr} {body : List Stmt} {f : TF} {b : SF} {pos : Pos} (hp : PassesOwn (model X.prog X.w) X.A X.env X.xe) (hc : ST X c f) (hb : SSs X body b) : SS X (.While c body [] pos) (sWhile f b) := by
  obtain ⟨t, h1, h2⟩ := hc.run
  obtain ⟨u, h3, h4⟩ := hb.run
  refine ⟨_, ps_while hp h1 h3, fun W σ H en o en' D hR hf q => ?_⟩
  refine ⟨fun m σ' H' => ∃ W1 en1, Ext W W1 ∧ R X.K W1 σ' H' en1 ∧ whileF f b m en1 = some (o, en'), ⟨fuel, W, en, Ext.refl _, hR, hf⟩, ?_⟩
  rintro m σ1 H1 ⟨W1, en1, x1, R1, hf1⟩
  cases m with
  | zero => cases hf1
  | succ n =>
    rw [whileF] at hf1
    simp only [Option.bind_eq_some_iff] at hf1
    obtain ⟨⟨d, en2⟩, e2, hf1⟩ := hf1
    refine h2 W1 σ1 H1 en1 d en2 _ R1 e2 fun W2 H2 x2 R2' => ?_
    cases d with
    | true =>
      rw [if_pos rfl] at hf1 ⊢
      simp only [Option.bind_eq_some_iff] at hf1
      obtain ⟨⟨o3, en3⟩, e3, hf1⟩ := hf1
      refine ⟨fun σ' H' => ∃ W1 en1, Ext W W1 ∧ R X.K W1 σ' H' en1 ∧ whileF f b n en1 = some (o, en'), fun σ' H' h => ⟨n, Nat.lt_succ_self _, h⟩, ?_⟩
      refine h4 W2 σ1 H2 en2 o3 en3 _ R2' e3 fun W3 σ3 H3 x3 R3 => ?_
      have x13 := (x1.trans x2).trans x3
      cases o3 with
      | nx => exact ⟨W3, en3, x13, R3, hf1⟩
      | ct => exact ⟨W3, en3, x13, R3, hf1⟩
      | bk =>
        simp only [Option.some.injEq, Prod.mk.injEq] at hf1
        obtain ⟨rfl, rfl⟩ := hf1
        exact q W3 σ3 H3 x13 R3
      | rt y =>
        simp only [Option.some.injEq, Prod.mk.injEq] at hf1
        obtain ⟨rfl, rfl⟩ := hf1
        exact q W3 σ3 H3 x13 R3
    | false =>
      rw [if_neg Bool.false_ne_true] at hf1 ⊢
      simp only [Option.some.injEq, Prod.mk.injEq] at hf1
      obtain ⟨rfl, rfl⟩ := hf1
      exact q W2 σ1 H2 (x1.trans x2) R2'

/-! ### lists that change -/
def sApp (i : Nat) (f : EF) : SF := fun en => (live en i).bind fun _ => (f en).bind fun p => match p.1 with
  | .d y => (live p.2 i).bind fun xs => if xs.length < sizeLine then some (.nx, putL p.2 i (xs ++ [y])) else none
  | _ => none
theorem dqa_one {K : PySem.W.Frag} {F : Hp} {v : V} {x : PyData} (h : Dq K F v x) : DqAll K F [v] [x] := .cons h .nil
theorem ss_app (i : Nat) {x : Str} {e : Expr} {f : EF} {ap p cp pos : Pos} (he : SE X e f) (hN : X.N[i]? = some x := by rfl) (hv : Vis X.env.scope x := by first | exact Or.inl rfl | exact Or.inr (Or.inl rfl) | exact Or.inr (Or.inr rfl)) (hd : (x == ("__debug__" : Str)) = false := by decide)
    (hcd : (x == ("__classdict__" : Str)) = false := by decide) (hbase : attributeBase (.Name x p) "append" X.env (eval (.Name x p) X.env) = eval (.Name x p) X.env := by rfl)
    (hfew : ((backTo cp (starEach [e] X.env)).all (fun x => !x.1) && (backToKw cp (keywordEach [] X.env)).all (fun x => x.1.isSome) && decide ([e].length + ([] : List Keyword).length + (if ([] : List Keyword).isEmpty then 0 else 1) < 30)) = true := by rfl)
    (hline : (ap.endLine == cp.line) = true := by rfl) (hs : starEach [e] X.env = (false, eval e X.env) :: starEach [] X.env := by rfl) (hpl : (backTo cp (starEach [] X.env)).any (·.1) = false := by rfl)
    (hsw : swapsWith (.Call (.Attribute (.Name x p) "append" ap) [e] [] cp) none pos.line X.env = pure false := by rfl) :
    SS X (.Expr (.Call (.Attribute (.Name x p) "append" ap) [e] [] cp) pos) (sApp i f) := by
  obtain ⟨t, hp, ht⟩ := he.run
  refine ⟨_, ps_expr (pe_bm PySem.F.plainAttrs_list PySem.F.slot_list_append PySem.F.type_list_append mt_append (pe_var hN hv hd hcd) (pa_cons hp pa_nil hs) hbase hfew hline hs hpl) hsw, fun W σ H en o en' D hR hf q => ?_⟩
  simp only [sApp, Option.bind_eq_some_iff] at hf
  obtain ⟨xs0, e0, ⟨c, en1⟩, e1, hf⟩ := hf
  obtain ⟨a, vs0, h1, h2, _⟩ := hR.liv i xs0 e0
  refine ⟨.ref a, h1, .inl ⟨rfl, vs0, SqL.of h2⟩, ht W σ H en c en1 _ hR e1 fun v W1 H1 x1 R1 v1 => ?_⟩
  simp only at hf
  split at hf
  · rename_i y
    simp only [Option.bind_eq_some_iff] at hf
    obtain ⟨xs, e2, hf⟩ := hf
    split at hf
    · rename_i hl
      cases hf
      obtain ⟨a', vs, g1, g2, g3, _⟩ := R1.liv i xs e2
      rw [h1] at g1
      cases g1
      refine ⟨a, vs, v, rfl, rfl, g2, by rw [dpa_length g3]; exact hl, ?_⟩
      exact q W1 σ _ x1 (R1.put e2 h1 (dpa_app g3 (dqa_one v1)))
    · cases hf
  · cases hf
/-! xs[i] = e -/
def sSetIx (i : Nat) (fi fe : EF) : SF := fun en => (fe en).bind fun p => match p.1 with
  | .d y => (live p.2 i).bind fun _ => (fi p.2).bind fun q => (asInt q.1).bind fun k => (live q.2 i).bind fun xs => (ixN xs.length k).bind fun j => some (.nx, putL q.2 i (xs.set j y))
  | _ => none
theorem ss_setIx (i : Nat) {x : Str} {ei e : Expr} {fi fe : EF} {p p2 pos : Pos} (hi : SE X ei fi) (he : SE X e fe) (hN : X.N[i]? = some x := by rfl) (hv : Vis X.env.scope x := by first | exact Or.inl rfl | exact Or.inr (Or.inl rfl) | exact Or.inr (Or.inr rfl)) (hd : (x == ("__debug__" : Str)) = false := by decide)
    (hcd : (x == ("__classdict__" : Str)) = false := by decide) (ha : ∀ v, assign (.Subscript (.Name x p) ei p2) X.env v = (do
      let ov ← holding [v] (eval (.Name x p) X.env)
      let iv ← holding [v, ov] (eval ei X.env)
      standAt p2
      holding [v, ov, iv] (setItem ov iv v)
      release [v, ov, iv] []) := by intro _; rfl) (hs : swapsWithSole [.Subscript (.Name x p) ei p2] e pos.line X.env = pure false := by rfl) (hw : swappedStores [.Subscript (.Name x p) ei p2] e X.env = pure none := by rfl)
    (h1 : (assignEach [.Subscript (.Name x p) ei p2] X.env).map (·.2) = [assign (.Subscript (.Name x p) ei p2) X.env] := by rfl) :
    SS X (.Assign [.Subscript (.Name x p) ei p2] e pos) (sSetIx i fi fe) := by
  obtain ⟨t, hp, ht⟩ := he.run
  obtain ⟨u, hq, hu⟩ := hi.run
  refine ⟨_, ps_asg hp (pg_sub (pe_var hN hv hd hcd) hq set_list ha) hs hw h1, fun W σ H en o en' D hR hf q => ?_⟩
  simp only [sSetIx, Option.bind_eq_some_iff] at hf
  obtain ⟨⟨c, en1⟩, e1, hf⟩ := hf
  refine ht W σ H en c en1 _ hR e1 fun v W1 H1 x1 R1 v1 => ?_
  simp only at hf
  split at hf
  · rename_i y
    simp only [Option.bind_eq_some_iff] at hf
    obtain ⟨xs0, e0, ⟨c2, en2⟩, e2, k, e3, xs, e4, j, e5, hf⟩ := hf
    cases hf
    cases asInt_eq e3
    obtain ⟨a, vs0, g1, g2, _⟩ := R1.liv i xs0 e0
    refine ⟨.ref a, g1, hu W1 σ H1 en1 _ _ _ R1 e2 fun w W2 H2 x2 R2' w2 => ?_⟩
    cases rint w2
    obtain ⟨a', vs, k1, k2, k3, _⟩ := R2'.liv i xs e4
    rw [g1] at k1
    cases k1
    refine ⟨a, vs, k, j, rfl, rfl, k2, by rw [dpa_length k3]; exact e5, ?_⟩
    exact q W2 σ _ (x1.trans x2) (R2'.put e4 g1 (dpa_set (dp_mono x2.F _ _ v1) j k3))
  · cases hf
end
end L2.FL
set_option Elab.async false
set_option linter.all false
set_option maxRecDepth 100000
set_option maxHeartbeats 2000000
/-! FL8: list comprehensions. -/
namespace L2.FL
open PySem PySem.Spec PyProof.Rows L2

/-! ### one reading for all contexts -/
def canE (K : PySem.W.Frag) (f : EF) : TE := fun σ H Q => ∃ W en r en', R K W σ H en ∧ f en = some (r, en') ∧ ∀ v W' H', Ext W W' → R K W' σ H' en' → RVal K W'.F σ v r → Q v H'
def canT (K : PySem.W.Frag) (f : TF) : TT := fun σ H Q => ∃ W en r en', R K W σ H en ∧ f en = some (r, en') ∧ ∀ W' H', Ext W W' → R K W' σ H' en' → Q r H'
def canI (K : PySem.W.Frag) (f : IF) : TI := fun σ H Q => ∃ W en xs en', R K W σ H en ∧ f en = some (xs, en') ∧ ∀ J W' H', Ext W W' → R K W' σ H' en' → WalkD K J W'.F xs → Q J H'
def canG (K : PySem.W.Frag) (f : GF) (ws : List Nat) : TG := fun v σ H Q => ∃ W en x en', R K W σ H en ∧ Dq K W.F v x ∧ f x en = some en' ∧ ∀ σ', R K W σ' H en' → σ'.length = σ.length → (∀ j, j ∉ ws → σ'[j]? = σ[j]?) → Q σ' H
theorem pe_can {X : Cx} {e : Expr} {f : EF} (h : SE X e f) : PE X e (canE X.K f) := by
  obtain ⟨t, hp, ht⟩ := h.run
  exact ⟨fun pins s σ H Q I ⟨W, en, r, en', hR, hf, q⟩ => hp.run pins s σ H Q I (ht W σ H en r en' Q hR hf q)⟩
theorem pt_can {X : Cx} {e : Expr} {f : TF} (h : ST X e f) : PT X e (canT X.K f) := by
  obtain ⟨t, hp, ht⟩ := h.run
  exact ⟨fun pins s σ H Q I ⟨W, en, r, en', hR, hf, q⟩ => hp.run pins s σ H Q I (ht W σ H en r en' Q hR hf q)⟩
theorem pi_can {X : Cx} {tg e : Expr} {f : IF} (h : SI X tg e f) : PI X tg e (canI X.K f) := by
  obtain ⟨t, hp, ht⟩ := h.run
  exact ⟨fun pins s σ H Q I ⟨W, en, r, en', hR, hf, q⟩ => hp.run pins s σ H Q I (ht W σ H en r en' Q hR hf q)⟩
theorem pg_can {X : Cx} {e : Expr} {f : GF} {ws : List Nat} (h : SG X e f ws) : PG X e (canG X.K f ws) := by
  obtain ⟨t, hp, ht⟩ := h.run
  exact ⟨fun pins s σ H v u Q I r ⟨W, en, x, en', hR, hd, hf, q⟩ => hp.run pins s σ H v u Q I r (ht.go W σ H en v x en' Q hR hd hf q)⟩

/-! ### tests of a clause -/
structure STs (X : Cx) (ifs : List Expr) (f : TF) : Prop where
  run : PTs X ifs (canT X.K f)
def fYes : TF := fun en => some (true, en)
theorem sts_nil {X : Cx} : STs X [] fYes := ⟨⟨fun pins s σ H Q I ⟨W, en, r, en', hR, hf, q⟩ => by
  cases hf
  exact pts_nil.run pins s σ H Q I (q W H (Ext.refl _) hR)⟩⟩
theorem sts_one {X : Cx} {c : Expr} {f : TF} (h : ST X c f) : STs X [c] f := ⟨pts_one (pt_can h)⟩

/-! ### slots wiped and given back -/
def wipeE (en : En) : List Nat → En
  | [] => en
  | v :: vs => (wipeE en vs).set v none
def backE (en en' : En) (vs : List Nat) : En := vs.foldr (fun v e => e.set v ((en[v]?).getD none)) en'
def plainAt (en : En) (v : Nat) : Bool := match en[v]? with
  | some (some (.l _)) => false
  | some (some (.p _)) => false
  | _ => true
theorem wipeE_length (en : En) : ∀ vs, (wipeE en vs).length = en.length
  | [] => rfl
  | v :: vs => by unfold wipeE; rw [List.length_set, wipeE_length en vs]
theorem wipeE_get (en : En) (i : Nat) : ∀ vs, (wipeE en vs)[i]? = if i ∈ vs then (if i < en.length then some none else none) else en[i]?
  | [] => by simp [wipeE]
  | v :: vs => by
    unfold wipeE
    by_cases h : v = i
    · subst h
      rw [if_pos List.mem_cons_self]
      by_cases hl : v < en.length
      · rw [if_pos hl, List.getElem?_set_self (by rw [wipeE_length]; exact hl)]
      · rw [if_neg hl, List.getElem?_eq_none (by rw [List.length_set, wipeE_length]; omega)]
    · rw [List.getElem?_set_ne h, wipeE_get en i vs]
      by_cases h2 : i ∈ vs
      · rw [if_pos h2, if_pos (List.mem_cons_of_mem _ h2)]
      · rw [if_neg h2, if_neg (by simp only [List.mem_cons, not_or]; exact ⟨fun e => h e.symm, h2⟩)]
theorem wipe_get (σ : St) (i : Nat) : ∀ vs, (wipe σ vs)[i]? = if i ∈ vs then (if i < σ.length then some none else none) else σ[i]?
  | [] => by simp [wipe]
  | v :: vs => by
    unfold wipe
    by_cases h : v = i
    · subst h
      rw [if_pos List.mem_cons_self]
      by_cases hl : v < σ.length
      · rw [if_pos hl, List.getElem?_set_self (by rw [wipe_length]; exact hl)]
      · rw [if_neg hl, List.getElem?_eq_none (by rw [List.length_set, wipe_length]; omega)]
    · rw [List.getElem?_set_ne h, wipe_get σ i vs]
      by_cases h2 : i ∈ vs
      · rw [if_pos h2, if_pos (List.mem_cons_of_mem _ h2)]
      · rw [if_neg h2, if_neg (by simp only [List.mem_cons, not_or]; exact ⟨fun e => h e.symm, h2⟩)]
theorem backE_length (en en' : En) : ∀ vs, (backE en en' vs).length = en'.length
  | [] => rfl
  | v :: vs => by
    show ((backE en en' vs).set v _).length = _
    rw [List.length_set, backE_length en en' vs]
theorem backE_get (en en' : En) (i : Nat) : ∀ vs, (backE en en' vs)[i]? = if i ∈ vs then (if i < en'.length then some ((en[i]?).getD none) else none) else en'[i]?
  | [] => by simp [backE]
  | v :: vs => by
    show ((backE en en' vs).set v ((en[v]?).getD none))[i]? = _
    by_cases h : v = i
    · subst h
      rw [if_pos List.mem_cons_self]
      by_cases hl : v < en'.length
      · rw [if_pos hl, List.getElem?_set_self (by rw [backE_length]; exact hl)]
      · rw [if_neg hl, List.getElem?_eq_none (by rw [List.length_set, backE_length]; omega)]
    · rw [List.getElem?_set_ne h, backE_get en en' i vs]
      by_cases h2 : i ∈ vs
      · rw [if_pos h2, if_pos (List.mem_cons_of_mem _ h2)]
      · rw [if_neg h2, if_neg (by simp only [List.mem_cons, not_or]; exact ⟨fun e => h e.symm, h2⟩)]
theorem wipe_same {σ σ' : St} {vs : List Nat} (hl : σ'.length = σ.length) (h : ∀ j, j ∉ vs → σ'[j]? = σ[j]?) : wipe σ' vs = wipe σ vs := by
  apply List.ext_getElem?
  intro i
  rw [wipe_get, wipe_get, hl]
  by_cases hi : i ∈ vs
  · rw [if_pos hi, if_pos hi]
  · rw [if_neg hi, if_neg hi]; exact h i hi
section
variable {K : PySem.W.Frag} {W : Wd} {σ : St} {H : Hp} {en : En}
theorem live_of_get {e : En} {i : Nat} {xs : List PyData} (h : live e i = some xs) : e[i]? = some (some (.l xs)) ∨ e[i]? = some (some (.p xs)) := by
  unfold live at h
  split at h
  · rename_i ys e1; cases h; exact .inl e1
  · rename_i ys e1; cases h; exact .inr e1
  · cases h
theorem live_congr {e e' : En} {i : Nat} (h : e[i]? = e'[i]?) : live e i = live e' i := by
  unfold live; rw [h]
/-- a block's start: the slots vs are forgotten -/
theorem R.noPar (r : R K W σ H en) {vs : List Nat} (hp : ∀ v ∈ vs, plainAt en v = true) : ∀ q ∈ W.P, q.1 ∉ vs := fun q hq hm => by
  obtain ⟨h1, xs, h2⟩ := r.par q hq
  have := hp _ hm
  unfold plainAt at this
  rw [h2] at this
  cases this
theorem R.wipes (r : R K W σ H en) {vs : List Nat} (hp : ∀ q ∈ W.P, q.1 ∉ vs) : R K W (wipe σ vs) H (wipeE en vs) := by
  have no : ∀ {i : Nat} {s : SV}, (wipeE en vs)[i]? = some (some s) → i ∉ vs ∧ en[i]? = some (some s) := fun {i s} e => by
    rw [wipeE_get] at e
    by_cases hi : i ∈ vs
    · rw [if_pos hi] at e
      split at e <;> cases e
    · rw [if_neg hi] at e; exact ⟨hi, e⟩
  have nl : ∀ {i : Nat} {xs : List PyData}, live (wipeE en vs) i = some xs → i ∉ vs ∧ live en i = some xs := fun {i xs} e => by
    rcases live_of_get e with e | e
    · obtain ⟨h1, h2⟩ := no e; exact ⟨h1, live_l h2⟩
    · obtain ⟨h1, h2⟩ := no e; exact ⟨h1, live_p h2⟩
  refine ⟨by rw [wipe_length, wipeE_length]; exact r.len, r.subF, r.subG, r.dis, fun i x e => ?_, fun i xs e => ?_, fun i j a xs ys e1 e2 f1 f2 => ?_, fun q hq => ?_⟩
  · obtain ⟨h1, h2⟩ := no e
    rw [wipe_get, if_neg h1]
    exact r.dat i x h2
  · obtain ⟨h1, h2⟩ := nl e
    rw [wipe_get, if_neg h1]
    exact r.liv i xs h2
  · obtain ⟨h1, h2⟩ := nl e1
    obtain ⟨h3, h4⟩ := nl e2
    rw [wipe_get, if_neg h1] at f1
    rw [wipe_get, if_neg h3] at f2
    exact r.sep i j a xs ys h2 h4 f1 f2
  · obtain ⟨h1, xs, h2⟩ := r.par q hq
    have hn : q.1 ∉ vs := hp q hq
    rw [wipe_get, if_neg hn, wipeE_get, if_neg hn]
    exact ⟨h1, xs, h2⟩
/-- a block's end: the slots vs as they were -/
theorem R.back {W2 : Wd} {H2 : Hp} {en2 : En} {vs : List Nat} (r : R K W σ H en) (x : Ext W W2) (r2 : R K W2 (wipe σ vs) H2 en2) (hp : ∀ v ∈ vs, plainAt en v = true) (hn : ∀ v ∈ vs, ∀ s, en2[v]? ≠ some (some s)) : R K W2 σ H2 (backE en en2 vs) := by
  have hl : en2.length = en.length := by rw [← r2.len, wipe_length, r.len]
  have at1 : ∀ {i : Nat} {s : SV}, (backE en en2 vs)[i]? = some (some s) → (i ∈ vs ∧ en[i]? = some (some s)) ∨ (i ∉ vs ∧ en2[i]? = some (some s)) := fun {i s} e => by
    rw [backE_get] at e
    by_cases hi : i ∈ vs
    · rw [if_pos hi] at e
      split at e
      · cases q : en[i]? with
        | none => rw [q] at e; cases e
        | some o => rw [q] at e; cases e; exact .inl ⟨hi, rfl⟩
      · cases e
    · rw [if_neg hi] at e; exact .inr ⟨hi, e⟩
  have nl : ∀ {i : Nat} {xs : List PyData}, live (backE en en2 vs) i = some xs → i ∉ vs ∧ live en2 i = some xs := fun {i xs} e => by
    have go : ∀ s : SV, (backE en en2 vs)[i]? = some (some s) → (s = .l xs ∨ s = .p xs) → i ∉ vs ∧ live en2 i = some xs := fun s e hs => by
      rcases at1 e with ⟨h1, h2⟩ | ⟨h1, h2⟩
      · have := hp _ h1
        unfold plainAt at this
        rw [h2] at this
        rcases hs with rfl | rfl <;> cases this
      · rcases hs with rfl | rfl
        · exact ⟨h1, live_l h2⟩
        · exact ⟨h1, live_p h2⟩
    rcases live_of_get e with e | e
    · exact go _ e (.inl rfl)
    · exact go _ e (.inr rfl)
  have wg : ∀ {i : Nat} {v : V}, i ∉ vs → (wipe σ vs)[i]? = some (some v) → σ[i]? = some (some v) := fun {i v} h e => by
    rw [wipe_get, if_neg h] at e; exact e
  refine ⟨by rw [backE_length, hl]; exact r.len, r2.subF, r2.subG, r2.dis, fun i y e => ?_, fun i xs e => ?_, fun i j a xs ys e1 e2 f1 f2 => ?_, fun q hq => ?_⟩
  · rcases at1 e with ⟨h1, h2⟩ | ⟨h1, h2⟩
    · obtain ⟨v, h3, h4⟩ := r.dat i y h2
      exact ⟨v, h3, dp_mono x.F _ _ h4⟩
    · obtain ⟨v, h3, h4⟩ := r2.dat i y h2
      exact ⟨v, wg h1 h3, h4⟩
  · obtain ⟨h1, h2⟩ := nl e
    obtain ⟨a, ws, g1, g2⟩ := r2.liv i xs h2
    exact ⟨a, ws, wg h1 g1, g2⟩
  · obtain ⟨h1, h2⟩ := nl e1
    obtain ⟨h3, h4⟩ := nl e2
    exact r2.sep i j a xs ys h2 h4 (by rw [wipe_get, if_neg h1]; exact f1) (by rw [wipe_get, if_neg h3]; exact f2)
  · obtain ⟨h1, xs, h2⟩ := r2.par q hq
    have hm : q.1 ∉ vs := fun hm => hn _ hm _ h2
    exact ⟨wg hm h1, xs, by rw [backE_get, if_neg hm]; exact h2⟩
/-- an object nobody has is kept as it is for a while -/
theorem R.push (r : R K W σ H en) {D : Addr} {o : HO} (h : H D = some o) (hF : W.F D = none) (hu : Unowned σ en D) : R K { W with G := upd W.G D o } σ H en := by
  refine ⟨r.len, r.subF, fun a x e => ?_, fun a x e => ?_, r.dat, fun i xs e => ?_, r.sep, r.par⟩
  · by_cases q : a = D
    · subst q
      have e' : upd W.G a o a = some x := e
      rw [upd_same] at e'
      rw [h]; exact e'
    · have e' : upd W.G D o a = some x := e
      rw [upd_ne q] at e'
      exact r.subG _ _ e'
  · have q : a ≠ D := ne_of_none e hF
    show upd W.G D o a = none
    rw [upd_ne q]
    exact r.dis _ _ e
  · obtain ⟨a, vs, h1, h2, h3, h4, h5⟩ := r.liv i xs e
    have q : a ≠ D := fun z => hu i xs e (by rw [← z]; exact h1)
    refine ⟨a, vs, h1, h2, h3, h4, ?_⟩
    show upd W.G D o a = none
    rw [upd_ne q]; exact h5
theorem R.pop {D : Addr} {o : HO} {G : Hp} (hG : G D = none) (r : R K { W with G := upd G D o } σ H en) : R K { W with G := G } σ H en ∧ H D = some o ∧ W.F D = none ∧ Unowned σ en D := by
  have sG : Same G (upd G D o) := same_new hG
  have hD : (upd G D o) D = some o := upd_same
  refine ⟨⟨r.len, r.subF, sG.trans r.subG, fun a x e => sG.free (r.dis a x e), r.dat, fun i xs e => ?_, r.sep, r.par⟩, r.subG _ _ hD, ?_, fun i xs e q => ?_⟩
  · obtain ⟨a, vs, h1, h2, h3, h4, h5⟩ := r.liv i xs e
    exact ⟨a, vs, h1, h2, h3, h4, sG.free h5⟩
  · cases q : W.F D with
    | none => rfl
    | some u =>
      have := r.dis D u q
      rw [show (upd G D o) D = none from this] at hD
      cases hD
  · obtain ⟨a, vs, h1, h2, h3, h4, h5⟩ := r.liv i xs e
    rw [h1] at q
    cases q
    rw [show (upd G D o) D = none from h5] at hD
    cases hD
/-- the list that grows (nobody's) gets one more -/
theorem R.grow {D : Addr} {o o' : HO} {G : Hp} (hG : G D = none) (r : R K { W with G := upd G D o } σ H en) : R K { W with G := upd G D o' } σ (upd H D o') en := by
  obtain ⟨r1, h1, h2, h3⟩ := R.pop hG r
  have nF : ∀ a x, W.F a = some x → a ≠ D := fun a x e => ne_of_none e h2
  have nG : ∀ a x, G a = some x → a ≠ D := fun a x e => ne_of_none e hG
  have r2 : R K { W with G := G } σ (upd H D o') en := by
    refine ⟨r1.len, fun a x e => ?_, fun a x e => ?_, r1.dis, r1.dat, fun i xs e => ?_, r1.sep, r1.par⟩
    · rw [upd_ne (nF a x e)]; exact r1.subF _ _ e
    · rw [upd_ne (nG a x e)]; exact r1.subG _ _ e
    · obtain ⟨a, vs, g1, g2, g3⟩ := r1.liv i xs e
      have q : a ≠ D := fun z => h3 i xs e (by rw [← z]; exact g1)
      exact ⟨a, vs, g1, by rw [upd_ne q]; exact g2, g3⟩
  exact R.push r2 upd_same h2 h3
end

/-! ### [elt for target in iter if ..] -/
def lcL (g : GF) (tt : TF) (te : EF) (vs : List Nat) : List PyData → En → Option (List PyData × En)
  | [], en => some ([], en)
  | x :: xs, en => (g x en).bind fun en1 => (tt en1).bind fun p => if p.1 = true then (te p.2).bind fun q => match q.1 with
      | .d y => (lcL g tt te vs xs (wipeE q.2 vs)).bind fun r => some (y :: r.1, r.2)
      | _ => none
    else lcL g tt te vs xs (wipeE p.2 vs)
def fLc (it : IF) (g : GF) (tt : TF) (te : EF) (vs : List Nat) : LF := fun en => (it en).bind fun p => if p.1.length ≤ sizeLine ∧ vs.all (plainAt p.2) = true then
    (lcL g tt te vs p.1 (wipeE p.2 vs)).bind fun r => some (r.1, backE p.2 r.2 vs) else none
theorem lcL_wiped {g : GF} {tt : TF} {te : EF} {vs : List Nat} : ∀ {xs : List PyData} {en en' : En} {ys : List PyData}, lcL g tt te vs xs en = some (ys, en') → (∀ v ∈ vs, ∀ s, en[v]? ≠ some (some s)) → ∀ v ∈ vs, ∀ s, en'[v]? ≠ some (some s)
  | [], en, en', ys, h, hn => by
    simp only [lcL, Option.some.injEq, Prod.mk.injEq] at h
    obtain ⟨_, rfl⟩ := h
    exact hn
  | x :: xs, en, en', ys, h, hn => by
    have wz : ∀ e : En, ∀ v ∈ vs, ∀ s, (wipeE e vs)[v]? ≠ some (some s) := fun e v hv s q => by
      rw [wipeE_get, if_pos hv] at q
      split at q <;> cases q
    simp only [lcL, Option.bind_eq_some_iff] at h
    obtain ⟨en1, e1, ⟨b, en2⟩, e2, h⟩ := h
    cases b with
    | true =>
      simp only [if_true, Option.bind_eq_some_iff] at h
      obtain ⟨⟨c, en3⟩, e3, h⟩ := h
      simp only at h
      split at h
      · simp only [Option.bind_eq_some_iff] at h
        obtain ⟨⟨zs, en4⟩, e4, h⟩ := h
        simp only [Option.some.injEq, Prod.mk.injEq] at h
        obtain ⟨_, rfl⟩ := h
        exact lcL_wiped e4 (wz _)
      · cases h
    | false =>
      simp only [Bool.false_eq_true, if_false] at h
      exact lcL_wiped h (wz _)
theorem slt_lc {K : PySem.W.Frag} {it : IF} {g : GF} {tt : TF} {te : EF} {vs ws : List Nat} (hw : ∀ w ∈ ws, w ∈ vs) : SLt K (tLc (canI K it) (canG K g ws) (canT K tt) (canE K te) vs) (fLc it g tt te vs) := by
  intro W σ H en zs en' Q hR hf q
  simp only [fLc, Option.bind_eq_some_iff] at hf
  obtain ⟨⟨xs, en1⟩, e1, hf⟩ := hf
  simp only at hf
  split at hf
  · rename_i hz
    obtain ⟨hz, hpl⟩ := hz
    have hpl' : ∀ v ∈ vs, plainAt en1 v = true := List.all_eq_true.mp hpl
    simp only [Option.bind_eq_some_iff] at hf
    obtain ⟨⟨ys, enE⟩, eE, hf⟩ := hf
    simp only [Option.some.injEq, Prod.mk.injEq] at hf
    obtain ⟨rfl, rfl⟩ := hf
    refine ⟨W, en, xs, en1, hR, e1, fun J W1 H1 x1 R1 w D hD => ?_⟩
    have hGD : W1.G D = none := R1.freshG hD
    have hpar := R1.noPar hpl'
    have R1w := R1.wipes hpar
    have R2 : R K { W1 with G := upd W1.G D (.lst []) } (wipe σ vs) (upd H1 D (.lst [])) (wipeE en1 vs) := (R1w.laid (.lst []) hD).push upd_same (R1.freshF hD) (R1w.unowned hD)
    have wz : ∀ e : En, ∀ v ∈ vs, ∀ s, (wipeE e vs)[v]? ≠ some (some s) := fun e v hv s q => by
      rw [wipeE_get, if_pos hv] at q
      split at q <;> cases q
    refine ⟨fun i m H' => m = xs.length - i ∧ i ≤ xs.length ∧ ∃ (W2 : Wd) (en2 : En) (acc : List V) (ps rs : List PyData), Ext W1 W2 ∧ R K { W2 with G := upd W1.G D (.lst acc) } (wipe σ vs) H' en2 ∧ DqAll K W2.F acc ps ∧ ps.length ≤ i ∧
        lcL g tt te vs (xs.drop i) en2 = some (rs, enE) ∧ ps ++ rs = ys ∧ (∀ v ∈ vs, ∀ s, en2[v]? ≠ some (some s)), ⟨xs.length, by simp, Nat.zero_le _, W1, wipeE en1 vs, [], [], ys, Ext.refl _, R2, .nil, Nat.zero_le _, by simpa using eE, rfl, wz _⟩, ?_⟩
    rintro i m H3 ⟨rfl, hi, W2, en2, acc, ps, rs, x2, R3, hacc, hps, hlc, hys, hno⟩
    by_cases hlt : i < xs.length
    · have ex : xs[i]? = some xs[i] := List.getElem?_eq_getElem hlt
      have ed : xs.drop i = xs[i] :: xs.drop (i + 1) := List.drop_eq_getElem_cons hlt
      rw [ed] at hlc
      simp only [lcL, Option.bind_eq_some_iff] at hlc
      obtain ⟨en3, e3, ⟨b, en4⟩, e4, hlc⟩ := hlc
      obtain ⟨hgo, hy⟩ := w.go i _ ex { W2 with G := upd W1.G D (.lst acc) } _ H3 en2 x2.F R3
      refine .inr ⟨hgo, fun H' => ∃ (W2 : Wd) (en2 : En) (acc : List V) (ps rs : List PyData), Ext W1 W2 ∧ R K { W2 with G := upd W1.G D (.lst acc) } (wipe σ vs) H' en2 ∧ DqAll K W2.F acc ps ∧ ps.length ≤ i + 1 ∧
        lcL g tt te vs (xs.drop (i + 1)) en2 = some (rs, enE) ∧ ps ++ rs = ys ∧ (∀ v ∈ vs, ∀ s, en2[v]? ≠ some (some s)), fun H' h => ⟨xs.length - (i + 1), by omega, rfl, hlt, h⟩, fun v H4 y => ?_⟩
      obtain ⟨W4, x4, R4, hd⟩ := hy v H4 y
      refine ⟨W4, en2, _, en3, R4, hd, e3, fun σ2 R5 l5 k5 => ?_⟩
      have hws : wipe σ2 vs = wipe σ vs := by
        have := wipe_same (σ := wipe σ vs) (σ' := σ2) (vs := vs) l5 fun j hj => k5 j fun hm => hj (hw j hm)
        rw [this]
        apply List.ext_getElem?
        intro j
        rw [wipe_get, wipe_get, wipe_length]
        by_cases hj : j ∈ vs
        · rw [if_pos hj, if_pos hj]
        · rw [if_neg hj, if_neg hj]
      refine ⟨hws, W4, en3, b, en4, R5, e4, fun W6 H6 x6 R6 => ?_⟩
      have x46 : Ext { W2 with G := upd W1.G D (.lst acc) } W6 := x4.trans x6
      have back : ∀ {W' : Wd} {H' : Hp} {e' : En}, Ext { W2 with G := upd W1.G D (.lst acc) } W' → R K W' σ2 H' e' → R K W' (wipe σ vs) H' (wipeE e' vs) := fun {W' H' e'} x' R' => by
        have := R'.wipes (vs := vs) (by rw [x'.P]; show ∀ q ∈ W2.P, _; rw [x2.P]; exact hpar)
        rwa [hws] at this
      have asG : ∀ {W' : Wd}, Ext { W2 with G := upd W1.G D (.lst acc) } W' → W' = { W' with G := upd W1.G D (.lst acc) } := fun {W'} x' => by
        have hg := x'.G
        cases W'
        simp only at hg
        rw [hg]
      cases b with
      | true =>
        simp only [if_true, Option.bind_eq_some_iff] at hlc ⊢
        obtain ⟨⟨c, en7⟩, e7, hlc⟩ := hlc
        simp only at hlc
        split at hlc
        · rename_i y
          simp only [Option.bind_eq_some_iff] at hlc
          obtain ⟨⟨ys8, en8⟩, e8, hlc⟩ := hlc
          simp only [Option.some.injEq, Prod.mk.injEq] at hlc
          obtain ⟨h8, rfl⟩ := hlc
          refine ⟨W6, en4, _, en7, R6, e7, fun vy W7 H7 x7 R7 v7 => ?_⟩
          have x47 := x46.trans x7
          have R7w := back x47 R7
          rw [asG x47] at R7w
          have hDl : H7 D = some (.lst acc) := (R.pop hGD R7w).2.1
          refine ⟨acc, hDl, ?_, ?_⟩
          · rw [dpa_length hacc]; omega
          · refine ⟨{ W7 with G := W1.G }, wipeE en7 vs, acc ++ [vy], ps ++ [y], ys8, ⟨x2.F.trans x47.F, rfl, x47.P.trans x2.P⟩, R.grow hGD R7w, dpa_app (dpa_mono x47.F _ _ hacc) (dqa_one v7), by simp; omega, e8, ?_, wz _⟩
            rw [List.append_assoc, List.singleton_append, h8]
            exact hys
        · cases hlc
      | false =>
        simp only [Bool.false_eq_true, if_false] at hlc ⊢
        have R6w := back x46 R6
        rw [asG x46] at R6w
        exact ⟨{ W6 with G := W1.G }, wipeE en4 vs, acc, ps, rs, ⟨x2.F.trans x46.F, rfl, x46.P.trans x2.P⟩, R6w, dpa_mono x46.F _ _ hacc, by omega, hlc, hys, wz _⟩
    · have ei : i = xs.length := by omega
      subst ei
      rw [List.drop_length] at hlc
      simp only [lcL, Option.some.injEq, Prod.mk.injEq] at hlc
      obtain ⟨rfl, rfl⟩ := hlc
      rw [List.append_nil] at hys
      subst hys
      refine .inl ⟨w.stop { W2 with G := upd W1.G D (.lst acc) } _ H3 en2 x2.F R3, ?_⟩
      obtain ⟨r1, h1, h2, h3⟩ := R.pop hGD R3
      have x12 : Ext W1 { W2 with G := W1.G } := ⟨x2.F, rfl, x2.P⟩
      have rb := R1.back x12 r1 hpl' hno
      refine q D acc _ H3 (x1.trans x12) rb h1 hacc h2 hGD fun j zs hj hq => ?_
      -- nobody has D behind the block
      obtain ⟨a, us, g1, g2, g3, g4, g5⟩ := rb.liv j zs hj
      rw [g1] at hq
      cases hq
      have hD1 : live (backE en1 en2 vs) j = live en2 j ∨ j ∈ vs := by
        by_cases hjv : j ∈ vs
        · exact .inr hjv
        · refine .inl (live_congr ?_)
          rw [backE_get, if_neg hjv]
      rcases hD1 with e | e
      · rw [e] at hj
        obtain ⟨a2, us2, k1, k2, k3, k4, k5⟩ := r1.liv j zs hj
        refine h3 j zs hj ?_
        have hjv : j ∉ vs := fun hm => by
          rcases live_of_get hj with z | z
          · exact hno j hm _ z
          · exact hno j hm _ z
        rw [wipe_get, if_neg hjv]
        exact g1
      · have := hpl' j e
        rcases live_of_get hj with z | z
        · rw [backE_get, if_pos e] at z
          split at z
          · cases q2 : en1[j]? with
            | none => rw [q2] at z; cases z
            | some o =>
              rw [q2] at z
              cases z
              unfold plainAt at this
              rw [q2] at this
              cases this
          · cases z
        · rw [backE_get, if_pos e] at z
          split at z
          · cases q2 : en1[j]? with
            | none => rw [q2] at z; cases z
            | some o =>
              rw [q2] at z
              cases z
              unfold plainAt at this
              rw [q2] at this
              cases this
          · cases z
  · cases hf
section
variable {X : Cx}
/-- [..] as a new list -/
theorem sl_lc {elt tg iter : Expr} {ifs : List Expr} {scope : Scope} {own : List (Str × Nat)} {pos : Pos} {it : IF} {g : GF} {tt : TF} {te : EF} {ws : List Nat} (hc : X.calm = true) (hN : X.N.Nodup) (hi : SI X tg iter it) (ok : BlkOk X.N X.env.scope scope own)
    (hg : ∀ (s : Shared) (H : Hp) (C : Addr) (cl : List (Str × Addr)) (fp : List Addr), SG (X.blk s H scope (compEnvC scope cl C X.env) fp) tg g ws) (ht : ∀ (s : Shared) (H : Hp) (C : Addr) (cl : List (Str × Addr)) (fp : List Addr), STs (X.blk s H scope (compEnvC scope cl C X.env) fp) ifs tt)
    (he : ∀ (s : Shared) (H : Hp) (C : Addr) (cl : List (Str × Addr)) (fp : List Addr), SE (X.blk s H scope (compEnvC scope cl C X.env) fp) elt te) (hw : ∀ w ∈ ws, w ∈ own.map (·.2)) (hs : ∀ x, foldedSetIterable iter X.env x = pure x := by intro _; rfl) :
    SL X (.ListComp elt [⟨tg, iter, ifs, 0⟩] scope pos) (fLc it g tt te (own.map (·.2))) :=
  ⟨_, pe_lc hc hN (g := canG X.K g ws) (tt := canT X.K tt) (te := canE X.K te) (pi_can hi) ok (fun s H C cl fp => pg_can (hg s H C cl fp)) (fun s H C cl fp => (ht s H C cl fp).run) (fun s H C cl fp => pe_can (he s H C cl fp)) hs, slt_lc hw⟩
/-- y = [..] on one line: kept for good -/
theorem ss_setLc {i : Nat} {y : Str} {py : Pos} {elt tg iter : Expr} {ifs : List Expr} {scope : Scope} {own : List (Str × Nat)} {pos spos : Pos} {it : IF} {g : GF} {tt : TF} {te : EF} {ws : List Nat} (hc : X.calm = true) (hN : X.N.Nodup) (hi : SI X tg iter it) (ok : BlkOk X.N X.env.scope scope own)
    (hg : ∀ (s : Shared) (H : Hp) (C : Addr) (cl : List (Str × Addr)) (fp : List Addr), SG (X.blk s H scope (compEnvC scope cl C X.env) fp) tg g ws) (ht : ∀ (s : Shared) (H : Hp) (C : Addr) (cl : List (Str × Addr)) (fp : List Addr), STs (X.blk s H scope (compEnvC scope cl C X.env) fp) ifs tt)
    (he : ∀ (s : Shared) (H : Hp) (C : Addr) (cl : List (Str × Addr)) (fp : List Addr), SE (X.blk s H scope (compEnvC scope cl C X.env) fp) elt te) (hw : ∀ w ∈ ws, w ∈ own.map (·.2))
    (hsw : swapsWith (.ListComp elt [⟨tg, iter, ifs, 0⟩] scope pos) (some (.Name y py)) spos.line X.env = pure true) (hy : X.N[i]? = some y := by rfl) (hyl : X.env.scope.names.lookup y = some .local := by rfl) (hs : ∀ x, foldedSetIterable iter X.env x = pure x := by intro _; rfl) :
    SS X (.Assign [.Name y py] (.ListComp elt [⟨tg, iter, ifs, 0⟩] scope pos) spos) (sAsg (gSet i) (fOfL (fLc it g tt te (own.map (·.2))))) := by
  refine ⟨_, ps_setLc hc hN hy hyl hsw (g := canG X.K g ws) (tt := canT X.K tt) (te := canE X.K te) (pi_can hi) ok (fun s H C cl fp => pg_can (hg s H C cl fp)) (fun s H C cl fp => (ht s H C cl fp).run) (fun s H C cl fp => pe_can (he s H C cl fp)) hs, sst_asg (fun W σ H en r en' Q hR hf q => ?_) sgt_name⟩
  simp only [fOfL, Option.bind_eq_some_iff] at hf
  obtain ⟨⟨xs, en1⟩, e1, hf⟩ := hf
  cases hf
  refine slt_lc hw W σ H en xs _ Q hR e1 fun a vs W' H' hx hR' h1 h2 h3 h4 h5 => ?_
  exact q _ _ H' (hx.trans (ext_new hR' _ h3)) (hR'.keep h1 h3 h4 h5) (.lst (.of upd_same) (dpa_mono (same_new h3) _ _ h2))
/-- the same, a list that may still change -/
theorem ss_setLcL {i : Nat} {y : Str} {py : Pos} {elt tg iter : Expr} {ifs : List Expr} {scope : Scope} {own : List (Str × Nat)} {pos spos : Pos} {it : IF} {g : GF} {tt : TF} {te : EF} {ws : List Nat} (hc : X.calm = true) (hN : X.N.Nodup) (hi : SI X tg iter it) (ok : BlkOk X.N X.env.scope scope own)
    (hg : ∀ (s : Shared) (H : Hp) (C : Addr) (cl : List (Str × Addr)) (fp : List Addr), SG (X.blk s H scope (compEnvC scope cl C X.env) fp) tg g ws) (ht : ∀ (s : Shared) (H : Hp) (C : Addr) (cl : List (Str × Addr)) (fp : List Addr), STs (X.blk s H scope (compEnvC scope cl C X.env) fp) ifs tt)
    (he : ∀ (s : Shared) (H : Hp) (C : Addr) (cl : List (Str × Addr)) (fp : List Addr), SE (X.blk s H scope (compEnvC scope cl C X.env) fp) elt te) (hw : ∀ w ∈ ws, w ∈ own.map (·.2))
    (hsw : swapsWith (.ListComp elt [⟨tg, iter, ifs, 0⟩] scope pos) (some (.Name y py)) spos.line X.env = pure true) (hy : X.N[i]? = some y := by rfl) (hyl : X.env.scope.names.lookup y = some .local := by rfl) (hs : ∀ x, foldedSetIterable iter X.env x = pure x := by intro _; rfl) :
    SS X (.Assign [.Name y py] (.ListComp elt [⟨tg, iter, ifs, 0⟩] scope pos) spos) (sAsgL i (fLc it g tt te (own.map (·.2)))) :=
  ⟨_, ps_setLc hc hN hy hyl hsw (g := canG X.K g ws) (tt := canT X.K tt) (te := canE X.K te) (pi_can hi) ok (fun s H C cl fp => pg_can (hg s H C cl fp)) (fun s H C cl fp => (ht s H C cl fp).run) (fun s H C cl fp => pe_can (he s H C cl fp)) hs, sst_asgL (slt_lc hw)⟩
end
end L2.FL
set_option Elab.async false
set_option linter.all false
set_option maxRecDepth 100000
set_option maxHeartbeats 2000000
/-! FL9: defs and their calls; the law's own call. -/
namespace L2.FL
open PySem PySem.Spec PyProof.Rows L2

/-! ### a def, called where no repr is under way -/
structure FnG (P : Program) (w : World) (K : PySem.W.Frag) (mg : Str → Option Value) (base : Heap) (k : Nat) (f : Addr) (fd : FuncData) (ps : List Str) (sp : Sp) : Prop where
  len : ∀ vs H Q E, sp vs H Q E → vs.length = ps.length
  run : ∀ (A : Around) (outer : List Env) (s : Shared) (H : Hp) (args : Args) (us : List Value) (vs : List V) (Q : VK) (E : XK), Room k A → A.guards = some [] → Env0 P w K mg base A outer s H → BindsTo s fd args (ps.zip us) → Vals vs us → sp vs H Q E →
    codeAny (model P w) A (.call (.ref f) args) (CR CX0 outer P w H s Q E) s
section
variable {X : Cx} {k : Nat} {f : Addr} {fd : FuncData} {ps : List Str} {sp : Sp} {dvs : List V} {ds : List Value} {x : Str} {p pos : Pos} {e : Expr} {es : List Expr} {t : TA}
theorem run_g {pins : List (Addr × Obj)} {σ : St} {H : Hp} {s : Shared} {Q : VK} {us : List Value} {vs : List V} (F : FnG X.prog X.w X.K X.mg X.base k f fd ps sp) (hr : Room k X.A) (hg : X.A.guards = some []) (hb : Binds X.K fd ps ds) (hd : Vals dvs ds)
    (I : Inv X pins σ H s) (r : Vals vs us) (h : sp (vs ++ dvs) H Q E0) : wpAny (model X.prog X.w) X.A (call (.ref f) us) (EP X pins σ Q) X.xe s := by
  have ra : Vals (vs ++ dvs) (us ++ ds) := r.append hd
  have hl : (us ++ ds).length = ps.length := ra.length ▸ F.len _ _ _ _ h
  refine wpAny_call (codeAny_mono (F.run X.A X.stack s H ⟨us, []⟩ _ _ Q E0 hr hg I.env0 (hb s us I.kIn hl) ra h) fun res s' hq => ?_)
  match res, hq with
  | .ok (.ret u), hq => exact I.after hq
theorem pe_callG (F : FnG X.prog X.w X.K X.mg X.base k f fd ps sp) (hr : Room k X.A) (hgd : X.A.guards = some []) (hg : Gl X x) (hm : X.mg x = some (.ref f)) (hk : PySem.W.keepIn X.K (.ref f) = true) (hb : Binds X.K fd ps ds) (hd : Vals dvs ds)
    (ha : PA X (e :: es) t) (hdb : (x == ("__debug__" : Str)) = false := by decide) (he : starEach (e :: es) X.env = (false, eval e X.env) :: starEach es X.env := by rfl) (hpl : (backTo pos (starEach es X.env)).any (·.1) = false := by rfl) :
    PE X (.Call (.Name x p) (e :: es) [] pos) (tCall sp dvs E0 t) := by
  refine ⟨fun pins s σ H Q I h => wpAny_Call_Name_kw (ld_glob I hg hm ?_ hdb)⟩
  refine PySem.W.callWith_K (h₀ := X.base) I.ok.mod.kin hk (thn (ha.run pos pins s σ H _ I h) ?_) he hpl
  intro us s1 ⟨vs, H1, I1, r, q⟩
  exact ⟨I1.kIn, run_g F hr hgd hb hd I1 r q⟩
end
theorem fn_ofG {P : Program} {w : World} {K : PySem.W.Frag} {mg : Str → Option Value} {base : Heap} {k : Nat} {f : Addr} {name qual : Str} {params : Arguments} {body : List Stmt} {scope : Scope} {dV kV doc pm cdv ct oc : Value} {an od : Option Addr}
    {osl : Array (Option Value)} {N ps : List Str} {sp : Sp} (lk : K.lookup f = some ⟨oc, od, .func (PySem.W.fnOf name qual params body scope dV kV doc pm an cdv ct), osl⟩) (hcd : PySem.W.codeIn K cdv qual = true) (S : FnScope N ps scope)
    (len : ∀ vs H Q E, sp vs H Q E → vs.length = ps.length)
    (hbody : ∀ (A : Around) (outer : List Env) (s : Shared) (H : Hp) (vs : List V) (Q : VK) (E : XK), Room k (A.deeper (envOfC qual scope s.heap.objs.size f cdv)) → (A.deeper (envOfC qual scope s.heap.objs.size f cdv)).guards = some [] → sp vs H Q E →
      ∃ t, PSs (cxOf CX0 P w K mg base N qual scope f cdv A outer s H E) body t ∧ t { nx := fun _ H' => Q .non H', rt := Q } (start N vs) H) :
    FnG P w K mg base (k + 1) f (PySem.W.fnOf name qual params body scope dV kV doc pm an cdv ct) ps sp where
  len := len
  run := fun A outer s H args us vs Q E hr hgd e0 hb r hsp => by
    have hl := len _ _ _ _ hsp
    have KX : K.In s.heap := e0.mod.kin.keeps fun b o e => (e0.bs b o e).1
    have lim := e0.mod.nolimit.keeps fun b o e => (e0.bs b o e).1
    refine codeAny_call_function hr.depth (KX _ _ lk) rfl S.co S.gen rfl (PySem.W.codeRec_of KX hcd) (hb _ _ _ _ (wpAny_newFunctionEnv_cells S.kind ?_ ?_))
    · rintro ⟨n, v⟩ hy
      cases S.par n (List.of_mem_zip hy).1 with
      | inl q => exact .inl q
      | inr q => exact .inr ⟨q, PySem.W.cellsFrom_some _ _ _ (.inl q)⟩
    · rintro env rfl s1 x
      refine ⟨lim.keeps x.toInCall.keep, codeAny_func ?_⟩
      obtain ⟨t, ht, hq⟩ := hbody A outer s H vs Q E (hr.deeper _) hgd hsp
      refine wpAny_mono (ht.run [] s1 _ H _ (inv_start S hr.hd e0 hl r x) hq) ?_ fun _ _ hs => hs
      intro fl s' hs
      have close : ∀ {σ' : St} {H' : Hp} {v : V} {u : Value}, Inv (cxOf CX0 P w K mg base N qual scope f cdv A outer s H E) [] σ' H' s' → RelV v u → Q v H' → CE outer P w H s Q u s' :=
        fun J rv q => ⟨_, _, J.os, J.bare, J.base, J.hok, rv, q⟩
      match fl, hs with
      | .ret u, ⟨v, σ', H', J, rv, q⟩ => exact close J rv q
      | .next, ⟨σ', H', J, q⟩ => exact close (v := V.non) (u := Value.none) J rfl q
      | .brk, ⟨_, _, _, q⟩ => exact q.elim
      | .cont, ⟨_, _, _, q⟩ => exact q.elim
theorem Fun.okG {P : Program} {w : World} {K : PySem.W.Frag} {mg : Str → Option Value} {base : Heap} {x qual : Str} {st : Stmt} {f : Addr} {fd : FuncData} {N ps : List Str} {k : Nat} {sp : Sp} (F : Fun K x qual st f fd) (S : FnScope N ps (defScope st)) (len : ∀ vs H Q E, sp vs H Q E → vs.length = ps.length)
    (hbody : ∀ (cdv : Value) (A : Around) (outer : List Env) (s : Shared) (H : Hp) (vs : List V) (Q : VK) (E : XK), Room k (A.deeper (envOfC qual (defScope st) s.heap.objs.size f cdv)) → (A.deeper (envOfC qual (defScope st) s.heap.objs.size f cdv)).guards = some [] → sp vs H Q E →
      ∃ t, PSs (cxOf CX0 P w K mg base N qual (defScope st) f cdv A outer s H E).nox (defBody st) t ∧ t { nx := fun _ H' => Q .non H', rt := Q } (start N vs) H) : FnG P w K mg base (k + 1) f fd ps sp := by
  obtain ⟨oc, od, kV, doc, pm, an, cdv, ct, osl, rfl, lk, hcd⟩ := F.ex
  refine fn_ofG lk hcd S len fun A outer s H vs Q E hr hg hsp => ?_
  obtain ⟨t, h, q⟩ := hbody cdv A outer s H vs Q E hr hg hsp
  exact ⟨t, h.nox, q⟩

/-! ### the promise: the def's function over data -/
/-- what stands in the parameters behind the call: the callers' lists as they are then -/
def outP : List SV → En → List SV
  | [], _ => []
  | a :: r, en => (match a with
      | .p xs => match en with
        | some (.p ys) :: _ => SV.p ys
        | _ => SV.p xs
      | a => a) :: outP r en.tail
def fcall (g : SF) (n : Nat) (args : List SV) : Option (PyData × List SV) := (g (args.map some ++ List.replicate n none)).bind fun r => match r.1 with
  | .rt x => some (x, outP args r.2)
  | .nx => some (.none, outP args r.2)
  | _ => none
/-- the callers' lists, by their places -/
def parsOf : Nat → List SV → List V → List (Nat × Addr)
  | i, .p _ :: r, .ref a :: vs => (i, a) :: parsOf (i + 1) r vs
  | i, _ :: r, _ :: vs => parsOf (i + 1) r vs
  | _, _, _ => []
def noL : List SV → Bool
  | [] => true
  | .l _ :: _ => false
  | _ :: r => noL r
def spF (K : PySem.W.Frag) (g : SF) (m n : Nat) : Sp := fun vs H Q _ => ∃ (W : Wd) (args : List SV) (x : PyData) (args' : List SV), args.length = m ∧ W.P = parsOf 0 args vs ∧ noL args = true ∧ R K W (vs.map some) H (args.map some) ∧ fcall g n args = some (x, args') ∧
  ∀ v W' H', Ext W W' → R K W' (vs.map some) H' (args'.map some) → Dq K W'.F v x → Q v H'
end L2.FL
set_option Elab.async false
set_option linter.all false
set_option maxRecDepth 100000
set_option maxHeartbeats 2000000
/-! FL10: a def keeps its function; its calls. -/
namespace L2.FL
open PySem PySem.Spec PyProof.Rows L2

theorem outP_length : ∀ (as : List SV) (en : En), (outP as en).length = as.length
  | [], _ => rfl
  | a :: r, en => by simp [outP, outP_length r]
theorem outP_get : ∀ (as : List SV) (en : En) (i : Nat), (outP as en)[i]? = (as[i]?).map fun a => match a with
      | .p xs => match en[i]? with
        | some (some (.p ys)) => SV.p ys
        | _ => SV.p xs
      | a => a
  | [], _, i => by simp [outP]
  | a :: r, en, 0 => by
    cases a with
    | d x => simp [outP]
    | l x => simp [outP]
    | p xs =>
      simp only [outP, List.getElem?_cons_zero, Option.map_some]
      cases en with
      | nil => simp
      | cons o e =>
        cases o with
        | none => simp
        | some s => cases s <;> simp
  | a :: r, en, i + 1 => by
    simp only [outP, List.getElem?_cons_succ]
    rw [outP_get r en.tail i]
    cases en with
    | nil => simp
    | cons o e => simp
theorem mem_pars : ∀ {as : List SV} {vs : List V} {n : Nat} {q : Nat × Addr}, q ∈ parsOf n as vs → ∃ i xs, q.1 = n + i ∧ as[i]? = some (.p xs) ∧ vs[i]? = some (.ref q.2)
  | [], _, n, q, h => by simp [parsOf] at h
  | a :: r, [], n, q, h => by cases a <;> simp [parsOf] at h
  | a :: r, v :: vs, n, q, h => by
    have go : q ∈ parsOf (n + 1) r vs → ∃ i xs, q.1 = n + i ∧ (a :: r)[i]? = some (.p xs) ∧ (v :: vs)[i]? = some (.ref q.2) := fun h => by
      obtain ⟨i, xs, h1, h2, h3⟩ := mem_pars h
      exact ⟨i + 1, xs, by omega, by simpa using h2, by simpa using h3⟩
    cases a with
    | d x => exact go (by simpa [parsOf] using h)
    | l x => exact go (by simpa [parsOf] using h)
    | p xs =>
      cases v with
      | ref ad =>
        simp only [parsOf, List.mem_cons] at h
        rcases h with rfl | h
        · exact ⟨0, xs, rfl, rfl, rfl⟩
        · exact go h
      | non => exact go (by simpa [parsOf] using h)
      | bl b => exact go (by simpa [parsOf] using h)
      | int b => exact go (by simpa [parsOf] using h)
      | str b => exact go (by simpa [parsOf] using h)
      | byt b => exact go (by simpa [parsOf] using h)
      | flt b => exact go (by simpa [parsOf] using h)
      | ty b => exact go (by simpa [parsOf] using h)
theorem pars_mem : ∀ {as : List SV} {vs : List V} {n i : Nat} {xs : List PyData} {ad : Addr}, as[i]? = some (.p xs) → vs[i]? = some (.ref ad) → (n + i, ad) ∈ parsOf n as vs
  | [], _, n, i, xs, ad, h, _ => by simp at h
  | a :: r, [], n, i, xs, ad, _, h => by simp at h
  | a :: r, v :: vs, n, 0, xs, ad, h, h2 => by
    simp at h h2
    subst h; subst h2
    simp [parsOf]
  | a :: r, v :: vs, n, i + 1, xs, ad, h, h2 => by
    have ih := pars_mem (n := n + 1) (i := i) (xs := xs) (ad := ad) (as := r) (vs := vs) (by simpa using h) (by simpa using h2)
    have e : n + (i + 1) = n + 1 + i := by omega
    rw [e]
    cases a with
    | d x => simpa [parsOf] using ih
    | l x => simpa [parsOf] using ih
    | p ys => cases v <;> simp [parsOf, ih]
theorem noL_get : ∀ {as : List SV} {i : Nat} {xs : List PyData}, noL as = true → as[i]? ≠ some (.l xs)
  | [], i, xs, _, e => by simp at e
  | a :: r, 0, xs, h, e => by
    simp at e
    subst e
    simp [noL] at h
  | a :: r, i + 1, xs, h, e => by
    have e' : r[i]? = some (.l xs) := by simpa using e
    have h' : noL r = true := by
      cases a with
      | l x => simp [noL] at h
      | d x => simpa [noL] using h
      | p x => simpa [noL] using h
    exact noL_get h' e'
section
variable {K : PySem.W.Frag} {W : Wd} {σ : St} {H : Hp} {en : En}
theorem none_tail {α : Type} {l : List (Option α)} {n i : Nat} {x : α} (h : (l ++ List.replicate n none)[i]? = some (some x)) : l[i]? = some (some x) := by
  by_cases hi : i < l.length
  · rw [List.getElem?_append_left hi] at h; exact h
  · rw [List.getElem?_append_right (by omega), List.getElem?_replicate] at h
    split at h <;> cases h
theorem tail_some {α : Type} {l : List (Option α)} {n i : Nat} {x : α} (h : l[i]? = some (some x)) : (l ++ List.replicate n none)[i]? = some (some x) := by
  have hi := (List.getElem?_eq_some_iff.mp h).1
  rw [List.getElem?_append_left hi]; exact h
/-- the def's other names, not yet set -/
theorem R.more (r : R K W σ H en) (n : Nat) : R K W (σ ++ List.replicate n none) H (en ++ List.replicate n none) := by
  have nl : ∀ {i : Nat} {xs : List PyData}, live (en ++ List.replicate n none) i = some xs → live en i = some xs := fun {i xs} e => by
    rcases live_of_get e with e | e
    · exact live_l (none_tail e)
    · exact live_p (none_tail e)
  refine ⟨by simp [r.len], r.subF, r.subG, r.dis, fun i x e => ?_, fun i xs e => ?_, fun i j a xs ys e1 e2 f1 f2 => r.sep i j a xs ys (nl e1) (nl e2) (none_tail f1) (none_tail f2), fun q hq => ?_⟩
  · obtain ⟨v, h1, h2⟩ := r.dat i x (none_tail e)
    exact ⟨v, tail_some h1, h2⟩
  · obtain ⟨a, vs, h1, h2⟩ := r.liv i xs (nl e)
    exact ⟨a, vs, tail_some h1, h2⟩
  · obtain ⟨h1, xs, h2⟩ := r.par q hq
    exact ⟨tail_some h1, xs, tail_some h2⟩
theorem map_get {α : Type} {l : List α} {i : Nat} {x : α} : (l.map some)[i]? = some (some x) ↔ l[i]? = some x := by
  rw [List.getElem?_map]
  cases l[i]? with
  | none => simp
  | some y => simp
/-- behind the body: the parameters alone -/
theorem R.params {W' : Wd} {σ' : St} {H' : Hp} {en' : En} {vs : List V} {as : List SV} (r : R K W (vs.map some) H (as.map some)) (hP : W.P = parsOf 0 as vs) (hL : noL as = true) (x : Ext W W') (r' : R K W' σ' H' en') : R K W' (vs.map some) H' ((outP as en').map some) := by
  have key : ∀ {i : Nat} {xs : List PyData}, as[i]? = some (.p xs) → ∃ a ys, vs[i]? = some (.ref a) ∧ σ'[i]? = some (some (.ref a)) ∧ en'[i]? = some (some (.p ys)) ∧ (outP as en')[i]? = some (.p ys) := fun {i xs} e => by
    obtain ⟨a, ws, h1, _⟩ := r.liv i xs (live_p (map_get.mpr e))
    have h1' := map_get.mp h1
    have hm : (0 + i, a) ∈ W'.P := by rw [x.P, hP]; exact pars_mem e h1'
    rw [Nat.zero_add] at hm
    obtain ⟨g1, ys, g2⟩ := r'.par _ hm
    refine ⟨a, ys, h1', g1, g2, ?_⟩
    rw [outP_get, e, g2]
    rfl
  have cases3 : ∀ {i : Nat} {s : SV}, (outP as en')[i]? = some s → (∃ y, s = .d y ∧ as[i]? = some (.d y)) ∨ (∃ xs, as[i]? = some (.p xs)) := fun {i s} e => by
    rw [outP_get] at e
    cases ha : as[i]? with
    | none => rw [ha] at e; cases e
    | some b =>
      cases b with
      | d y => rw [ha] at e; cases e; exact .inl ⟨y, rfl, rfl⟩
      | l y => exact absurd ha (noL_get hL)
      | p y => exact .inr ⟨y, rfl⟩
  have lp : ∀ {i : Nat} {xs : List PyData}, live ((outP as en').map some) i = some xs → ∃ a, vs[i]? = some (.ref a) ∧ σ'[i]? = some (some (.ref a)) ∧ live en' i = some xs := fun {i xs} e => by
    have go : ∀ s, (outP as en')[i]? = some s → (s = .l xs ∨ s = .p xs) → ∃ a, vs[i]? = some (.ref a) ∧ σ'[i]? = some (some (.ref a)) ∧ live en' i = some xs := fun s hs h => by
      rcases cases3 hs with ⟨y, rfl, _⟩ | ⟨zs, hz⟩
      · rcases h with h | h <;> cases h
      · obtain ⟨a, ys, h1, h2, h3, h4⟩ := key hz
        rw [h4] at hs
        cases hs
        rcases h with h | h
        · cases h
        · cases h
          exact ⟨a, h1, h2, live_p h3⟩
    rcases live_of_get e with e | e
    · exact go _ (map_get.mp e) (.inl rfl)
    · exact go _ (map_get.mp e) (.inr rfl)
  refine ⟨by have := r.len; simp only [List.length_map] at this ⊢; rw [outP_length]; exact this, r'.subF, r'.subG, r'.dis, fun i y e => ?_, fun i xs e => ?_, fun i j a xs ys e1 e2 f1 f2 => ?_, fun q hq => ?_⟩
  · rcases cases3 (map_get.mp e) with ⟨y', h1, h2⟩ | ⟨xs, h2⟩
    · cases h1
      obtain ⟨v, g1, g2⟩ := r.dat i y (map_get.mpr h2)
      exact ⟨v, g1, dp_mono x.F _ _ g2⟩
    · obtain ⟨a, ys, h1, h3, h4, h5⟩ := key h2
      rw [map_get.mp e] at h5
      cases h5
  · obtain ⟨a, h1, h2, h3⟩ := lp e
    obtain ⟨b, ws, g1, g2⟩ := r'.liv i xs h3
    rw [h2] at g1
    cases g1
    exact ⟨a, ws, map_get.mpr h1, g2⟩
  · obtain ⟨a1, h1, h2, h3⟩ := lp e1
    obtain ⟨a2, k1, k2, k3⟩ := lp e2
    rw [map_get.mp f1] at h1
    cases h1
    rw [map_get.mp f2] at k1
    cases k1
    exact r'.sep i j a xs ys h3 k3 h2 k2
  · rw [x.P, hP] at hq
    obtain ⟨i, xs, h1, h2, h3⟩ := mem_pars hq
    rw [Nat.zero_add] at h1
    obtain ⟨a, ys, g1, g2, g3, g4⟩ := key h2
    rw [h1]
    exact ⟨map_get.mpr h3, ys, map_get.mpr g4⟩
end
section
variable {P : Program} {w : World} {K : PySem.W.Frag} {mg : Str → Option Value} {base : Heap}
/-- a def whose body reads as g keeps g -/
theorem ok_def {x qual : Str} {st : Stmt} {f : Addr} {fd : FuncData} {N ps : List Str} {k : Nat} {g : SF} {n : Nat} (F : Fun K x qual st f fd) (S : FnScope N ps (defScope st)) (hn : N.length = ps.length + n)
    (hbody : ∀ (cdv : Value) (A : Around) (outer : List Env) (s : Shared) (H : Hp) (E : XK), Room k (A.deeper (envOfC qual (defScope st) s.heap.objs.size f cdv)) → (A.deeper (envOfC qual (defScope st) s.heap.objs.size f cdv)).guards = some [] →
      SSs (cxOf CX0 P w K mg base N qual (defScope st) f cdv A outer s H E).nox (defBody st) g) : FnG P w K mg base (k + 1) f fd ps (spF K g ps.length n) := by
  refine Fun.okG F S (fun vs H Q E h => ?_) (fun cdv A outer s H vs Q E hr hg h => ?_)
  · obtain ⟨W, as, y, as', hl, _, _, hR, _⟩ := h
    have := hR.len
    simp only [List.length_map] at this
    omega
  · obtain ⟨W, as, y, as', hl, hP, hL, hR, hf, q⟩ := h
    obtain ⟨t, ht, hs⟩ := (hbody cdv A outer s H E hr hg).run
    refine ⟨t, ht, ?_⟩
    have hlen := hR.len
    simp only [List.length_map] at hlen
    have e0 : start N vs = vs.map some ++ List.replicate n none := by
      unfold start
      rw [show N.length - vs.length = n by omega]
    rw [e0]
    simp only [fcall, Option.bind_eq_some_iff] at hf
    obtain ⟨⟨o, en'⟩, e1, hf⟩ := hf
    refine hs W _ H _ o en' _ (hR.more n) e1 fun W' σ' H' x' R' => ?_
    cases o with
    | rt z =>
      simp only [Option.some.injEq, Prod.mk.injEq] at hf
      obtain ⟨rfl, rfl⟩ := hf
      exact fun v hv => q v W' H' x' (hR.params hP hL x' R') hv
    | nx =>
      simp only [Option.some.injEq, Prod.mk.injEq] at hf
      obtain ⟨rfl, rfl⟩ := hf
      exact q .non W' H' x' (hR.params hP hL x' R') .non
    | bk => cases hf
    | ct => cases hf
end

/-! ### calls -/
def argsOf (en : En) : List RV → Option (List SV)
  | [] => some []
  | .d x :: r => (argsOf en r).bind fun as => some (.d x :: as)
  | .b i :: r => (live en i).bind fun xs => (argsOf en r).bind fun as => some (.p xs :: as)
def bors : List RV → List Nat
  | [] => []
  | .d _ :: r => bors r
  | .b i :: r => i :: bors r
def putBack (en : En) : List RV → List SV → En
  | .b i :: rs, .p ys :: as => putBack (putL en i ys) rs as
  | _ :: rs, _ :: as => putBack en rs as
  | _, _ => en
def fCall (g : SF) (m n : Nat) (dd : List PyData) (f : AF) : EF := fun en => (f en).bind fun p => (argsOf p.2 p.1).bind fun as => if (bors p.1).Nodup ∧ as.length + dd.length = m then
    (fcall g n (as ++ dd.map .d)).bind fun r => some (.d r.1, putBack p.2 p.1 r.2) else none
theorem argsOf_get {en : En} : ∀ {rs : List RV} {as : List SV} {i : Nat} {s : SV}, argsOf en rs = some as → as[i]? = some s → (∃ x, s = .d x ∧ rs[i]? = some (.d x)) ∨ (∃ j xs, s = .p xs ∧ rs[i]? = some (.b j) ∧ live en j = some xs)
  | [], _, i, s, h, e => by cases h; simp at e
  | .d x :: r, as, i, s, h, e => by
    simp only [argsOf, Option.bind_eq_some_iff] at h
    obtain ⟨bs, h1, h⟩ := h
    cases h
    cases i with
    | zero => simp at e; subst e; exact .inl ⟨x, rfl, rfl⟩
    | succ i => simpa using argsOf_get h1 (i := i) (s := s) (by simpa using e)
  | .b j :: r, as, i, s, h, e => by
    simp only [argsOf, Option.bind_eq_some_iff] at h
    obtain ⟨xs, h0, bs, h1, h⟩ := h
    cases h
    cases i with
    | zero => simp at e; subst e; exact .inr ⟨j, xs, rfl, rfl, h0⟩
    | succ i => simpa using argsOf_get h1 (i := i) (s := s) (by simpa using e)
theorem argsOf_len {en : En} : ∀ {rs : List RV} {as : List SV}, argsOf en rs = some as → as.length = rs.length
  | [], _, h => by cases h; rfl
  | .d x :: r, as, h => by
    simp only [argsOf, Option.bind_eq_some_iff] at h
    obtain ⟨bs, h1, h⟩ := h
    cases h
    simp [argsOf_len h1]
  | .b j :: r, as, h => by
    simp only [argsOf, Option.bind_eq_some_iff] at h
    obtain ⟨xs, h0, bs, h1, h⟩ := h
    cases h
    simp [argsOf_len h1]
theorem argsOf_at {en : En} {rs : List RV} {as : List SV} {i j : Nat} (h : argsOf en rs = some as) (e : rs[i]? = some (.b j)) : ∃ xs, as[i]? = some (.p xs) ∧ live en j = some xs := by
  have hi : i < as.length := by rw [argsOf_len h]; exact (List.getElem?_eq_some_iff.mp e).1
  have ha : as[i]? = some as[i] := List.getElem?_eq_getElem hi
  rcases argsOf_get h ha with ⟨x, _, h2⟩ | ⟨k, xs, h1, h2, h3⟩
  · rw [e] at h2; cases h2
  · rw [e] at h2; cases h2
    exact ⟨xs, by rw [ha, h1], h3⟩
theorem argsOf_noL {en : En} : ∀ {rs : List RV} {as : List SV}, argsOf en rs = some as → noL as = true
  | [], _, h => by cases h; rfl
  | .d x :: r, as, h => by
    simp only [argsOf, Option.bind_eq_some_iff] at h
    obtain ⟨bs, h1, h⟩ := h
    cases h
    simpa [noL] using argsOf_noL h1
  | .b j :: r, as, h => by
    simp only [argsOf, Option.bind_eq_some_iff] at h
    obtain ⟨xs, h0, bs, h1, h⟩ := h
    cases h
    simpa [noL] using argsOf_noL h1
theorem mem_bors : ∀ {rs : List RV} {j : Nat}, j ∈ bors rs ↔ ∃ i : Nat, rs[i]? = some (RV.b j)
  | [], j => by simp [bors]
  | .d x :: r, j => by
    simp only [bors]
    rw [mem_bors (rs := r)]
    constructor
    · rintro ⟨i, h⟩; exact ⟨i + 1, by simpa using h⟩
    · rintro ⟨i, h⟩
      cases i with
      | zero => simp at h
      | succ i => exact ⟨i, by simpa using h⟩
  | .b k :: r, j => by
    simp only [bors, List.mem_cons]
    rw [mem_bors (rs := r)]
    constructor
    · rintro (rfl | ⟨i, h⟩)
      · exact ⟨0, rfl⟩
      · exact ⟨i + 1, by simpa using h⟩
    · rintro ⟨i, h⟩
      cases i with
      | zero => simp at h; exact .inl h.symm
      | succ i => exact .inr ⟨i, by simpa using h⟩
theorem bors_inj : ∀ {rs : List RV} {i i' j : Nat}, (bors rs).Nodup → rs[i]? = some (.b j) → rs[i']? = some (.b j) → i = i'
  | [], i, i', j, _, h, _ => by simp at h
  | .d x :: r, i, i', j, nd, h, h' => by
    cases i with
    | zero => simp at h
    | succ i =>
      cases i' with
      | zero => simp at h'
      | succ i' => rw [bors_inj (rs := r) (i := i) (i' := i') (j := j) nd (by simpa using h) (by simpa using h')]
  | .b k :: r, i, i', j, nd, h, h' => by
    have nd' := List.nodup_cons.mp nd
    cases i with
    | zero =>
      cases i' with
      | zero => rfl
      | succ i' =>
        simp at h
        subst h
        exact absurd (mem_bors.mpr ⟨i', by simpa using h'⟩) nd'.1
    | succ i =>
      cases i' with
      | zero =>
        simp at h'
        subst h'
        exact absurd (mem_bors.mpr ⟨i, by simpa using h⟩) nd'.1
      | succ i' => rw [bors_inj (rs := r) (i := i) (i' := i') (j := j) nd'.2 (by simpa using h) (by simpa using h')]
theorem putBack_length : ∀ (rs : List RV) (as : List SV) (en : En), (putBack en rs as).length = en.length
  | [], as, en => by cases as <;> rfl
  | .d x :: rs, [], en => rfl
  | .b x :: rs, [], en => rfl
  | .d x :: rs, a :: as, en => by simp only [putBack]; exact putBack_length rs as en
  | .b i :: rs, .p ys :: as, en => by simp only [putBack]; rw [putBack_length rs as, putL_length]
  | .b i :: rs, .d ys :: as, en => by simp only [putBack]; exact putBack_length rs as en
  | .b i :: rs, .l ys :: as, en => by simp only [putBack]; exact putBack_length rs as en
theorem putBack_ne : ∀ {rs : List RV} {as : List SV} {en : En} {j : Nat}, j ∉ bors rs → (putBack en rs as)[j]? = en[j]?
  | [], as, en, j, _ => by cases as <;> rfl
  | .d x :: rs, [], en, j, _ => rfl
  | .b x :: rs, [], en, j, _ => rfl
  | .d x :: rs, a :: as, en, j, h => by simp only [putBack]; exact putBack_ne (by simpa [bors] using h)
  | .b i :: rs, .p ys :: as, en, j, h => by
    simp only [bors, List.mem_cons, not_or] at h
    simp only [putBack]
    rw [putBack_ne h.2, putL_ne h.1]
  | .b i :: rs, .d ys :: as, en, j, h => by
    simp only [bors, List.mem_cons, not_or] at h
    simp only [putBack]
    exact putBack_ne h.2
  | .b i :: rs, .l ys :: as, en, j, h => by
    simp only [bors, List.mem_cons, not_or] at h
    simp only [putBack]
    exact putBack_ne h.2
theorem putBack_at : ∀ {rs : List RV} {as : List SV} {en : En} {i j : Nat} {xs ys : List PyData}, (bors rs).Nodup → rs[i]? = some (.b j) → as[i]? = some (.p ys) → live en j = some xs → live (putBack en rs as) j = some ys
  | [], as, en, i, j, xs, ys, _, h, _, _ => by simp at h
  | r :: rs, [], en, i, j, xs, ys, _, _, h, _ => by simp at h
  | r :: rs, a :: as, en, i, j, xs, ys, nd, h1, h2, h3 => by
    cases i with
    | zero =>
      simp at h1 h2
      subst h1; subst h2
      have nd' := List.nodup_cons.mp nd
      simp only [putBack]
      rw [live_congr (putBack_ne nd'.1)]
      exact live_putL h3
    | succ i =>
      have h1' : rs[i]? = some (.b j) := by simpa using h1
      have h2' : as[i]? = some (.p ys) := by simpa using h2
      cases r with
      | d x => simp only [putBack]; exact putBack_at (by simpa [bors] using nd) h1' h2' h3
      | b k =>
        have nd' := List.nodup_cons.mp nd
        have hjk : j ≠ k := fun e => nd'.1 (by rw [← e]; exact mem_bors.mpr ⟨i, h1'⟩)
        cases a with
        | p zs => simp only [putBack]; exact putBack_at nd'.2 h1' h2' (by rw [live_putL_ne hjk]; exact h3)
        | d zs => simp only [putBack]; exact putBack_at nd'.2 h1' h2' h3
        | l zs => simp only [putBack]; exact putBack_at nd'.2 h1' h2' h3
theorem putBack_d : ∀ {rs : List RV} {as : List SV} {en : En} {j : Nat} {x : PyData}, (∀ i ∈ bors rs, ∃ xs, live en i = some xs) → (putBack en rs as)[j]? = some (some (.d x)) → en[j]? = some (some (.d x))
  | [], as, en, j, x, _, h => by cases as <;> exact h
  | .d y :: rs, [], en, j, x, _, h => h
  | .b y :: rs, [], en, j, x, _, h => h
  | .d y :: rs, a :: as, en, j, x, hl, h => by simp only [putBack] at h; exact putBack_d (by simpa [bors] using hl) h
  | .b i :: rs, .p ys :: as, en, j, x, hl, h => by
    simp only [putBack] at h
    obtain ⟨zs, hz⟩ := hl i (by simp [bors])
    refine putL_d hz (putBack_d (fun k hk => ?_) h)
    obtain ⟨us, hu⟩ := hl k (by simp [bors, hk])
    by_cases e : k = i
    · subst e; exact ⟨_, live_putL hz⟩
    · exact ⟨us, by rw [live_putL_ne e]; exact hu⟩
  | .b i :: rs, .d ys :: as, en, j, x, hl, h => by
    simp only [putBack] at h
    exact putBack_d (fun k hk => hl k (by simp [bors, hk])) h
  | .b i :: rs, .l ys :: as, en, j, x, hl, h => by
    simp only [putBack] at h
    exact putBack_d (fun k hk => hl k (by simp [bors, hk])) h
theorem putBack_p : ∀ {rs : List RV} {as : List SV} {en : En} {j : Nat} {xs : List PyData}, en[j]? = some (some (.p xs)) → ∃ ys, (putBack en rs as)[j]? = some (some (.p ys))
  | [], as, en, j, xs, h => by cases as <;> exact ⟨xs, h⟩
  | .d y :: rs, [], en, j, xs, h => ⟨xs, h⟩
  | .b y :: rs, [], en, j, xs, h => ⟨xs, h⟩
  | .d y :: rs, a :: as, en, j, xs, h => by simp only [putBack]; exact putBack_p h
  | .b i :: rs, .p ys :: as, en, j, xs, h => by
    simp only [putBack]
    by_cases e : j = i
    · subst e; exact putBack_p (putL_p h)
    · exact putBack_p (by rw [putL_ne e]; exact h)
  | .b i :: rs, .d ys :: as, en, j, xs, h => by simp only [putBack]; exact putBack_p h
  | .b i :: rs, .l ys :: as, en, j, xs, h => by simp only [putBack]; exact putBack_p h
theorem rvals_get {K : PySem.W.Frag} {F : Hp} {σ : St} : ∀ {vs : List V} {rs : List RV} {i : Nat} {r : RV}, RVals K F σ vs rs → rs[i]? = some r → ∃ v, vs[i]? = some v ∧ RVal K F σ v r
  | _, _, i, r, .nil, e => by simp at e
  | _, _, 0, r, .cons h t, e => by simp at e; subst e; exact ⟨_, rfl, h⟩
  | _, _, i + 1, r, .cons h t, e => by
    obtain ⟨v, h1, h2⟩ := rvals_get t (i := i) (r := r) (by simpa using e)
    exact ⟨v, by simpa using h1, h2⟩
theorem rvals_len {K : PySem.W.Frag} {F : Hp} {σ : St} : ∀ {vs : List V} {rs : List RV}, RVals K F σ vs rs → vs.length = rs.length
  | _, _, .nil => rfl
  | _, _, .cons h t => by simp [rvals_len t]
theorem noL_app {as : List SV} (dd : List PyData) (h : noL as = true) : noL (as ++ dd.map .d) = true := by
  induction as with
  | nil => induction dd with
    | nil => rfl
    | cons x r ih => simpa [noL] using ih
  | cons a r ih =>
    cases a with
    | l x => simp [noL] at h
    | d x => simpa [noL] using ih (by simpa [noL] using h)
    | p x => simpa [noL] using ih (by simpa [noL] using h)

section
variable {X : Cx}
/-- f(e, ..): the written arguments, then the defaults dd -/
theorem se_call {k : Nat} {f : Addr} {fd : FuncData} {ps : List Str} {x : Str} {p pos : Pos} {e : Expr} {es : List Expr} {g : SF} {n : Nat} {ff : AF} {dvs : List V} {ds : List Value} {dd : List PyData} (F : FnG X.prog X.w X.K X.mg X.base k f fd ps (spF X.K g ps.length n)) (hr : Room k X.A) (hgd : X.A.guards = some []) (hg : Gl X x)
    (hm : X.mg x = some (.ref f)) (hk : PySem.W.keepIn X.K (.ref f) = true) (hb : Binds X.K fd ps ds) (hd : Vals dvs ds) (hdd : ∀ F : Hp, DqAll X.K F dvs dd) (ha : SA X (e :: es) ff) (hdb : (x == ("__debug__" : Str)) = false := by decide)
    (he : starEach (e :: es) X.env = (false, eval e X.env) :: starEach es X.env := by rfl) (hpl : (backTo pos (starEach es X.env)).any (·.1) = false := by rfl) : SE X (.Call (.Name x p) (e :: es) [] pos) (fCall g ps.length n dd ff) := by
  obtain ⟨t, hp, ht⟩ := ha.run
  refine ⟨_, pe_callG F hr hgd hg hm hk hb hd hp hdb he hpl, fun W σ H en r en' Q hR hf q => ?_⟩
  simp only [fCall, Option.bind_eq_some_iff] at hf
  obtain ⟨⟨rs, en1⟩, e1, as, e2, hf⟩ := hf
  simp only at hf e2
  split at hf
  · rename_i hnd
    obtain ⟨nd, hlen⟩ := hnd
    simp only [Option.bind_eq_some_iff] at hf
    obtain ⟨⟨z, as'⟩, e3, hf⟩ := hf
    simp only [Option.some.injEq, Prod.mk.injEq] at hf
    obtain ⟨rfl, rfl⟩ := hf
    refine ht W σ H en rs en1 _ hR e1 fun vs W1 H1 x1 R1 v1 => ?_
    have hvl := rvals_len v1
    have hal := argsOf_len e2
    have hddl := dpa_length (hdd W1.F)
    -- what the callee may not touch
    let own : Addr → Prop := fun a => ∃ i xs, live en1 i = some xs ∧ σ[i]? = some (some (.ref a)) ∧ i ∉ bors rs
    let G' : Hp := fun a => open Classical in if own a then H1 a else W1.G a
    have gOwn : ∀ a, own a → G' a = H1 a := fun a h => by show (open Classical in if own a then H1 a else W1.G a) = _; rw [if_pos h]
    have gElse : ∀ a, ¬ own a → G' a = W1.G a := fun a h => by show (open Classical in if own a then H1 a else W1.G a) = _; rw [if_neg h]
    have ownH : ∀ a, own a → ∃ vs, H1 a = some (.lst vs) ∧ W1.F a = none ∧ W1.G a = none := fun a ⟨i, xs, h1, h2, _⟩ => by
      obtain ⟨b, ws, g1, g2, g3, g4, g5⟩ := R1.liv i xs h1
      rw [h2] at g1
      cases g1
      exact ⟨ws, g2, g4, g5⟩
    have gG : ∀ a o, W1.G a = some o → G' a = some o := fun a o h => by
      rw [gElse a fun ho => ?_]
      · exact h
      · obtain ⟨_, _, _, g⟩ := ownH a ho
        rw [h] at g; cases g
    have args_get : ∀ {i : Nat} {s : SV}, (as ++ dd.map SV.d)[i]? = some s → (∃ y v, s = .d y ∧ (vs ++ dvs)[i]? = some v ∧ Dq X.K W1.F v y) ∨ (∃ j xs a, s = .p xs ∧ rs[i]? = some (.b j) ∧ live en1 j = some xs ∧ (vs ++ dvs)[i]? = some (.ref a) ∧ σ[j]? = some (some (.ref a))) := fun {i s} h => by
      by_cases hi : i < as.length
      · rw [List.getElem?_append_left hi] at h
        rcases argsOf_get e2 h with ⟨y, rfl, h2⟩ | ⟨j, xs, rfl, h2, h3⟩
        · obtain ⟨v, g1, g2⟩ := rvals_get v1 h2
          exact .inl ⟨y, v, rfl, by rw [List.getElem?_append_left (by omega)]; exact g1, g2⟩
        · obtain ⟨v, g1, g2⟩ := rvals_get v1 h2
          obtain ⟨a, ws, k1, _⟩ := R1.liv j xs h3
          have g2' : σ[j]? = some (some v) := g2
          rw [k1] at g2'
          cases g2'
          exact .inr ⟨j, xs, a, rfl, h2, h3, by rw [List.getElem?_append_left (by omega)]; exact g1, k1⟩
      · rw [List.getElem?_append_right (by omega), List.getElem?_map] at h
        cases hy : dd[i - as.length]? with
        | none => rw [hy] at h; cases h
        | some y =>
          rw [hy] at h
          cases h
          obtain ⟨v, g1, g2⟩ := dpa_get (hdd W1.F) hy
          refine .inl ⟨y, v, rfl, ?_, g2⟩
          rw [List.getElem?_append_right (by omega), hvl, ← hal]
          exact g1
    have notOwn : ∀ {i j : Nat} {xs : List PyData} {a : Addr}, rs[i]? = some (.b j) → live en1 j = some xs → σ[j]? = some (some (.ref a)) → ¬ own a := fun {i j xs a} h1 h2 h3 ⟨i', ys, g1, g2, g3⟩ => by
      have := R1.sep i' j a ys xs g1 h2 g2 h3
      subst this
      exact g3 (mem_bors.mpr ⟨i, h1⟩)
    have lp : ∀ {i : Nat} {xs : List PyData}, live ((as ++ dd.map SV.d).map some) i = some xs → ∃ j a, rs[i]? = some (.b j) ∧ live en1 j = some xs ∧ (vs ++ dvs)[i]? = some (.ref a) ∧ σ[j]? = some (some (.ref a)) := fun {i xs} h => by
      have go : ∀ s, (as ++ dd.map SV.d)[i]? = some s → (s = .l xs ∨ s = .p xs) → ∃ j a, rs[i]? = some (.b j) ∧ live en1 j = some xs ∧ (vs ++ dvs)[i]? = some (.ref a) ∧ σ[j]? = some (some (.ref a)) := fun s hs hc => by
        rcases args_get hs with ⟨y, v, rfl, _⟩ | ⟨j, ys, a, rfl, h1, h2, h3, h4⟩
        · rcases hc with hc | hc <;> cases hc
        · rcases hc with hc | hc
          · cases hc
          · cases hc; exact ⟨j, a, h1, h2, h3, h4⟩
      rcases live_of_get h with h | h
      · exact go _ (map_get.mp h) (.inl rfl)
      · exact go _ (map_get.mp h) (.inr rfl)
    have Rc : R X.K { F := W1.F, G := G', P := parsOf 0 (as ++ dd.map SV.d) (vs ++ dvs) } ((vs ++ dvs).map some) H1 ((as ++ dd.map SV.d).map some) := by
      refine ⟨by simp only [List.length_map, List.length_append]; omega, R1.subF, fun a o h => ?_, fun a o h => ?_, fun i y h => ?_, fun i xs h => ?_, fun i j a xs ys h1 h2 f1 f2 => ?_, fun q hq => ?_⟩
      · by_cases ho : own a
        · have h' : G' a = some o := h
          rw [gOwn a ho] at h'; exact h'
        · have h' : G' a = some o := h
          rw [gElse a ho] at h'; exact R1.subG _ _ h'
      · have hn : ¬ own a := fun ho => by
          obtain ⟨_, _, g, _⟩ := ownH a ho
          rw [show W1.F a = some o from h] at g; cases g
        show G' a = none
        rw [gElse a hn]; exact R1.dis a o h
      · rcases args_get (map_get.mp h) with ⟨y', v, h1, h2, h3⟩ | ⟨j, xs, a, h1, _⟩
        · cases h1; exact ⟨v, map_get.mpr h2, h3⟩
        · cases h1
      · obtain ⟨j, a, h1, h2, h3, h4⟩ := lp h
        obtain ⟨b, ws, g1, g2, g3, g4, g5⟩ := R1.liv j xs h2
        rw [h4] at g1
        cases g1
        exact ⟨a, ws, map_get.mpr h3, g2, g3, g4, by show G' a = none; rw [gElse a (notOwn h1 h2 h4)]; exact g5⟩
      · obtain ⟨u, b, h3, h4, h5, h6⟩ := lp h1
        obtain ⟨u', b', k3, k4, k5, k6⟩ := lp h2
        rw [map_get.mp f1] at h5
        cases h5
        rw [map_get.mp f2] at k5
        cases k5
        have := R1.sep u u' a xs ys h4 k4 h6 k6
        subst this
        exact bors_inj nd h3 k3
      · obtain ⟨i, xs, h1, h2, h3⟩ := mem_pars hq
        rw [Nat.zero_add] at h1
        rw [h1]
        exact ⟨map_get.mpr h3, xs, map_get.mpr h2⟩
    refine ⟨_, as ++ dd.map SV.d, z, as', by simp only [List.length_append, List.length_map]; exact hlen, rfl, noL_app dd (argsOf_noL e2), Rc, e3, fun v W2 H2 x2 R2 hv => ?_⟩
    have eG : W2.G = G' := x2.G
    -- behind the call
    have gNone : ∀ a o, W2.F a = some o → ¬ own a ∧ W1.G a = none := fun a o h => by
      have h1 := R2.dis a o h
      rw [eG] at h1
      by_cases ho : own a
      · obtain ⟨ws, g, _⟩ := ownH a ho
        rw [gOwn a ho, g] at h1; cases h1
      · rw [gElse a ho] at h1; exact ⟨ho, h1⟩
    have kept : ∀ {i : Nat} {xs : List PyData}, live en1 i = some xs → i ∉ bors rs → ∃ a ws, σ[i]? = some (some (.ref a)) ∧ H2 a = some (.lst ws) ∧ DqAll X.K W2.F ws xs ∧ W2.F a = none ∧ W1.G a = none := fun {i xs} h hi => by
      obtain ⟨a, ws, g1, g2, g3, g4, g5⟩ := R1.liv i xs h
      have ho : own a := ⟨i, xs, h, g1, hi⟩
      refine ⟨a, ws, g1, R2.subG _ _ (by rw [eG, gOwn a ho]; exact g2), dpa_mono x2.F _ _ g3, ?_, g5⟩
      cases hF : W2.F a with
      | none => rfl
      | some o => exact absurd ho (gNone a o hF).1
    have as'l : as'.length = (as ++ dd.map SV.d).length := by
      have h1 := Rc.len
      have h2 := R2.len
      simp only [List.length_map] at h1 h2
      omega
    have given : ∀ {i j : Nat} {xs : List PyData}, rs[i]? = some (.b j) → live en1 j = some xs → ∃ a ws ys, as'[i]? = some (.p ys) ∧ σ[j]? = some (some (.ref a)) ∧ H2 a = some (.lst ws) ∧ DqAll X.K W2.F ws ys ∧ W2.F a = none ∧ W1.G a = none := fun {i j xs} h1 h2 => by
      obtain ⟨ys0, g1, g2⟩ := argsOf_at e2 h1
      rw [h2] at g2
      cases g2
      have g1' : (as ++ dd.map SV.d)[i]? = some (.p xs) := by
        rw [List.getElem?_append_left (List.getElem?_eq_some_iff.mp g1).1]; exact g1
      rcases args_get g1' with ⟨_, _, k, _⟩ | ⟨j', xs', a, k1, k2, k3, k4, k5⟩
      · cases k
      · rw [h1] at k2
        cases k2
        have hm : (0 + i, a) ∈ W2.P := by rw [x2.P]; exact pars_mem g1' k4
        rw [Nat.zero_add] at hm
        obtain ⟨m1, ys, m2⟩ := R2.par _ hm
        have m2' := map_get.mp m2
        obtain ⟨b, ws, n1, n2, n3, n4, n5⟩ := R2.liv i ys (live_p m2)
        rw [m1] at n1
        cases n1
        refine ⟨a, ws, ys, m2', k5, n2, n3, n4, ?_⟩
        rw [eG] at n5
        by_cases ho : own a
        · obtain ⟨_, g, _⟩ := ownH a ho
          rw [gOwn a ho, g] at n5; cases n5
        · rw [gElse a ho] at n5; exact n5
    have hbl : ∀ i ∈ bors rs, ∃ xs, live en1 i = some xs := fun j hj => by
      obtain ⟨i, hi⟩ := mem_bors.mp hj
      obtain ⟨xs, _, h⟩ := argsOf_at e2 hi
      exact ⟨xs, h⟩
    have lv : ∀ {i : Nat} {xs : List PyData}, live (putBack en1 rs as') i = some xs → ∃ a ws, σ[i]? = some (some (.ref a)) ∧ H2 a = some (.lst ws) ∧ DqAll X.K W2.F ws xs ∧ W2.F a = none ∧ W1.G a = none ∧ ∃ zs, live en1 i = some zs := fun {i xs} h => by
      by_cases hi : i ∈ bors rs
      · obtain ⟨k, hk⟩ := mem_bors.mp hi
        obtain ⟨zs, hz⟩ := hbl i hi
        obtain ⟨a, ws, ys, g1, g2, g3, g4, g5, g6⟩ := given hk hz
        rw [putBack_at nd hk g1 hz] at h
        cases h
        exact ⟨a, ws, g2, g3, g4, g5, g6, zs, hz⟩
      · rw [live_congr (putBack_ne hi)] at h
        obtain ⟨a, ws, g1, g2, g3, g4, g5⟩ := kept h hi
        exact ⟨a, ws, g1, g2, g3, g4, g5, xs, h⟩
    have Rf : R X.K { F := W2.F, G := W1.G, P := W1.P } σ H2 (putBack en1 rs as') := by
      refine ⟨by rw [putBack_length]; exact R1.len, R2.subF, fun a o h => R2.subG _ _ (by rw [eG]; exact gG a o h), fun a o h => (gNone a o h).2, fun i y h => ?_, fun i xs h => ?_, fun i j a xs ys h1 h2 f1 f2 => ?_, fun q hq => ?_⟩
      · obtain ⟨u, g1, g2⟩ := R1.dat i y (putBack_d hbl h)
        exact ⟨u, g1, dp_mono x2.F _ _ g2⟩
      · obtain ⟨a, ws, g1, g2, g3, g4, g5, _⟩ := lv h
        exact ⟨a, ws, g1, g2, g3, g4, g5⟩
      · obtain ⟨_, _, _, _, _, _, _, zs, g⟩ := lv h1
        obtain ⟨_, _, _, _, _, _, _, zs', g'⟩ := lv h2
        exact R1.sep i j a zs zs' g g' f1 f2
      · obtain ⟨g1, xs, g2⟩ := R1.par q hq
        obtain ⟨ys, g3⟩ := putBack_p (rs := rs) (as := as') g2
        exact ⟨g1, ys, g3⟩
    exact q v { F := W2.F, G := W1.G, P := W1.P } H2 (x1.trans ⟨x2.F, rfl, rfl⟩) Rf hv
  · cases hf
end
end L2.FL
set_option Elab.async false
set_option linter.all false
set_option maxRecDepth 100000
set_option maxHeartbeats 2000000
/-! FL11: the law's end, from its function over data. -/
namespace L2.FL
open PySem PySem.Spec PyProof.Rows L2

/-- the script's heap: nothing, or the script alone -/
inductive Lone (K : PySem.W.Frag) (h : Heap) (a : Addr) (xs : List V) : Hp → Prop
  | own (o : Obj) (hk : K.lookup a = some o) : Lone K h a xs fun _ => none
  | frz (o : Obj) (hk : K.lookup a = none) (ho : h.get? a = some o) (hd : ∀ es ep, o.data ≠ .dict es ep) : Lone K h a xs fun b => if b = a then some (.frz o (.lst xs)) else none
theorem Lone.only {K : PySem.W.Frag} {h : Heap} {a : Addr} {xs : List V} {H : Hp} (L : Lone K h a xs H) {b : Addr} {u : HO} (e : H b = some u) : b = a ∧ K.lookup a = none ∧ ∃ o, h.get? a = some o ∧ u = .frz o (.lst xs) ∧ ∀ es ep, o.data ≠ .dict es ep := by
  cases L with
  | own o hk => cases e
  | frz o hk ho hd =>
    simp only at e
    split at e
    · rename_i hb
      cases e
      exact ⟨hb, hk, o, ho, rfl, hd⟩
    · cases e
/-- a law's call, where the promise is its function over data -/
theorem law_callG {P : Program} {w : World} {K : PySem.W.Frag} {mg mb : Str → Option Value} {k n : Nat} {fa a : Addr} {fd : FuncData} {x : Str} {g : SF} {s₁ : Shared} {vs : List Value} {ns : List Int}
    (KX : K.In s₁.heap) (hns : s₁.heap.Ns mainGlobals mg) (hb : s₁.heap.Ns builtinsNs mb) (hbb : ∀ x : Str, x ≠ "__name__" → mb x = bootBuiltins x) (hlim : s₁.heap.NoLimit) (hg : s₁.gens = #[])
    (ha : s₁.heap.get? a = some { cls := .type "list", data := .seq vs.toArray }) (hi : IntsAre vs ns) (hl : ns.length ≤ sizeLine) (hr : Room k callerA)
    (F : ∀ base : Heap, K.In base → base.Ns mainGlobals mg → FnG P w K mg base k fa fd [x] (spF K g 1 n)) (hbind : ∀ (s : Shared) (u : Value), BindsTo s fd ⟨[u], []⟩ [(x, u)])
    (hf : ∃ r, fcall g n [.d (.list (ns.map .int))] = some (.bool true, r)) :
    codeAny (model P w) callerA (.call (.ref fa) ⟨[.ref a], []⟩) (fun r s' => r = .ok (.ret (.bool true)) ∧ OldK s₁.heap s'.heap ∧ s'.os = s₁.os ∧ AllBare s'.gens) s₁ := by
  have rv := vals_ints hi
  have lenV := hi.length
  obtain ⟨H, hL, hS, hok⟩ : ∃ H, Lone K s₁.heap a (ns.map V.int) H ∧ SqL K H a (ns.map V.int) ∧ HOk P w H s₁.heap := by
    cases hk : K.lookup a with
    | some o =>
      have e := (KX a o hk).symm.trans ha
      cases e
      exact ⟨_, .own _ hk, .inr ⟨_, vs.toArray, _, hk, rfl, rfl, rfl, by rw [List.size_toArray, lenV]; exact hl, by simpa using rv⟩, fun b u z => by cases z⟩
    | none =>
      refine ⟨_, .frz _ hk ha (fun es ep z => by cases z), .inl (.inr ⟨_, if_pos rfl⟩), fun b u z => ?_⟩
      have z' : (if b = a then some (HO.frz { cls := .type "list", data := .seq vs.toArray } (.lst (ns.map V.int))) else none) = some u := z
      split at z'
      · rename_i hb
        cases z'
        subst hb
        exact ⟨ha, by rw [List.length_map]; exact hl, vs, _, rv, ha⟩
      · cases z'
  have keepB : ∀ {b : Addr} {o : Obj}, s₁.heap.get? b = some o → (∀ es ep, o.data ≠ .dict es ep → K.lookup b ≠ none) → (hidT s₁.heap H).get? b = some o := fun {b o} e hd => hidT_get e (by
    cases q : H b with
    | none => rfl
    | some u =>
      obtain ⟨rfl, h1, o', h2, _, h3⟩ := hL.only q
      rw [e] at h2
      cases h2
      exact absurd h1 (hd #[] 0 (h3 _ _)))
  have keepD : ∀ {b : Addr} {o : Obj} {es : Array DictEntry} {ep : Nat}, s₁.heap.get? b = some o → o.data = .dict es ep → (hidT s₁.heap H).get? b = some o := fun {b o es ep} e hd => hidT_get e (by
    cases q : H b with
    | none => rfl
    | some u =>
      obtain ⟨rfl, h1, o', h2, _, h3⟩ := hL.only q
      rw [e] at h2
      cases h2
      exact absurd hd (h3 _ _))
  have nsK : ∀ {b : Addr} {m : Str → Option Value}, s₁.heap.Ns b m → (hidT s₁.heap H).Ns b m := fun {b m} ⟨o, es, ep, e, d, r⟩ => ⟨o, es, ep, keepD e d, d, r⟩
  have hKb : K.In (hidT s₁.heap H) := fun b o e => keepB (KX b o e) fun _ _ _ z => by rw [e] at z; cases z
  have hM : Mod K mg (hidT s₁.heap H) := ⟨hKb, nsK hns, ⟨mb, nsK hb, hbb⟩, hlim.elim fun mc h => ⟨mc, nsK h.1, h.2⟩⟩
  have e0 : Env0 P w K mg (hidT s₁.heap H) callerA [] s₁ H := ⟨rfl, hM, fun b o e => of_hidT e, Nat.le_of_eq (hidT_size _ _), trivial, fun b hb => absurd (show b ∈ ([] : List Addr) from hb) (by simp), hok, .of_eq hg⟩
  obtain ⟨r0, hf⟩ := hf
  have hR : R K { F := H, G := fun _ => none, P := [] } ([V.ref a].map some) H ([SV.d (.list (ns.map .int))].map some) := by
    refine ⟨rfl, Same.refl _, (fun b o z => by cases z), fun b o z => rfl, fun i y e => ?_, fun i xs e => ?_, fun i j b xs ys e => ?_, fun q hq => by cases hq⟩
    · match i with
      | 0 =>
        simp at e
        subst e
        exact ⟨_, rfl, .lst hS (dpa_of_ints ns)⟩
      | i + 1 => simp at e
    · match i with
      | 0 => simp [live] at e
      | i + 1 => simp [live] at e
    · match i with
      | 0 => simp [live] at e
      | i + 1 => simp [live] at e
  have hsp : spF K g 1 n [V.ref a] H (fun v _ => v = .bl true) E0 := ⟨_, [.d (.list (ns.map .int))], .bool true, r0, rfl, rfl, rfl, hR, hf, fun v W' H' _ _ hv => by cases hv; rfl⟩
  refine codeAny_mono ((F _ hKb (nsK hns)).run callerA [] s₁ H ⟨[.ref a], []⟩ [.ref a] [.ref a] _ _ hr rfl e0 (hbind s₁ (.ref a)) (.cons rfl .nil) hsp) fun r s' h => ?_
  match r, h with
  | .ok (.ret u), ⟨v, H', os, bare, un, hok', r', q⟩ =>
    have q' : v = .bl true := q
    subst q'
    obtain rfl : u = Value.bool true := r'
    refine ⟨rfl, OldK.of_keep fun b o e => ?_, os, bare⟩
    cases q : H b with
    | none => exact un.keep b o e q (by intro z; exact absurd (show b ∈ ([] : List Addr) from z) (by simp)) (by simp)
    | some u =>
      obtain ⟨_, _, ob, _, rfl, _⟩ := hL.only q
      have w1 := (hok b _ q).1
      have w2 := (hok' b _ (un.frzs b ob _ q)).1
      rw [w1] at e
      cases e
      exact w2
/-- the goal that k_head leaves, from the law's function over data -/
theorem walk_ofG {l : PySem.W.OpenLaw} {n k m : Nat} {q : Program} {loose : List Str} {XP : (Str → Option Value) → Heap → Prop} {YP : World → Heap → Prop} {d : DefRec} {K : Params → PySem.W.Frag} {g : SF} {x : Str}
    (hn : l.most = some n) (hn2 : n ≤ sizeLine) (hdf : d.params.defaults = []) (hr : Room k callerA)
    (hY : ∀ (w : World) (h : Heap), YP w h → (K w.params).In h)
    (F : ∀ (w : World) (mg : Str → Option Value) (fa : Addr) (h : Heap), (K w.params).In h → h.Ns mainGlobals mg → mg d.name = some (.ref fa) →
      ∃ fd : FuncData, (∀ (s : Shared) (u : Value), BindsTo s fd ⟨[u], []⟩ [(x, u)]) ∧
        ∀ base : Heap, (K w.params).In base → base.Ns mainGlobals mg → FnG l.prog w (K w.params) mg base k fa fd [x] (spF (K w.params) g 1 m))
    (hf : ∀ ns : List Int, ns.length ≤ n → ∃ r, fcall g m [.d (.list (ns.map .int))] = some (.bool true, r)) :
    PySem.W.WalkO q loose XP YP l.row.toRowW d [] (fun f vs => PySem.call f vs) := by
  refine Att.attach_call hn hdf fun w s₀ s₁ mg mb fa o pm cd doc a vs ns G Y ho hd hcd hmg hobj hints hlen hg => ?_
  have KX := hY w _ Y
  obtain ⟨fd, hb, hF⟩ := F w mg fa _ KX G.T.g hmg
  exact law_callG KX G.T.g G.T.b G.T.builtins G.T.nolimit hg hobj hints (Nat.le_trans hlen hn2) hr hF hb (hf ns hlen)
end L2.FL
set_option Elab.async false
set_option linter.all false
set_option maxRecDepth 100000
set_option maxHeartbeats 2000000
/-! FL12: enumerate, zip over data. -/
namespace PySem
open Sem (wp)
set_option maxHeartbeats 4000000 in
theorem fl_enum1B {v : Value} {o : Obj} {H : Heap → Prop} (B : Begins v o H) :
    Meets (Builtin.«enumerate.__new__» ⟨[.type "enumerate", v], []⟩) (fun _ R s => H s.heap ∧
      R (.ok (.ret (.ref (s.heap.push o).objs.size))) { s with heap := (s.heap.push o).push { cls := .type "enumerate", data := .fields #[.none, .bool false, .ref s.heap.objs.size, rawInt 0, .none, .none] } }) :=
  .of_wp fun prog w A R s h => by
    obtain ⟨hp, g, d, tk, os⟩ := s
    obtain ⟨h1, h⟩ := h
    have hsub := sub_enumerate
    have q1 : ∀ {A' : Around} {E : Value → Shared → Prop} {Q : Value → Shared → Prop}, Q (.ref hp.objs.size) ⟨hp.push o, g, d, tk, os⟩ → wpAny (model prog w) A' (pyIter v) Q E ⟨hp, g, d, tk, os⟩ :=
      fun q => B.iter prog w _ _ ⟨hp, g, d, tk, os⟩ _ h1 q
    wp_walk using q1
    refine wpAny_stack_any fun st => wpAny_pure ?_
    split
    · rename_i c _ _ _ _ _
      cases (c == Value.type "enumerate")
      · wp_walk using q1
        exact ⟨_, rfl, h⟩
      · wp_walk using q1
        exact ⟨_, rfl, h⟩
    · wp_walk using q1
      exact ⟨_, rfl, h⟩
section
variable {prog : Program} {w : World} {A : Around} {E : Value → Shared → Prop} {s : Shared}
theorem fl_enum_begins {v : Value} {o : Obj} {H : Heap → Prop} {Q : Value → Shared → Prop} (B : Begins v o H) (h1 : H s.heap)
    (h : ∀ h', IsEnum h' (s.heap.objs.size + 1) s.heap.objs.size 0 .none → h'.get? s.heap.objs.size = some o → (∀ b o, s.heap.get? b = some o → h'.get? b = some o) → Q (.ref (s.heap.objs.size + 1)) { s with heap := h' }) :
    wpAny (model prog w) A (call (.type "enumerate") [v]) Q E s := by
  refine callType_new F.called_enumerate (by decide) (F.typeCall_enumerate_1 _) (F.newCall_enumerate_1 _) (fun obj => F.args_object_init_2 obj _) F.entry_enumerate_new (fl_enum1B B) ⟨h1, ?_⟩
  have hz : (s.heap.push o).objs.size = s.heap.objs.size + 1 := Heap.size_push ..
  show _ ∧ _
  rw [hz]
  have he : IsEnum ((s.heap.push o).push { cls := .type "enumerate", data := .fields #[.none, .bool false, .ref s.heap.objs.size, rawInt 0, .none, .none] }) (s.heap.objs.size + 1) s.heap.objs.size 0 .none := by
    have q := Heap.get?_push_size (s.heap.push o) (o := { cls := .type "enumerate", data := .fields #[.none, .bool false, .ref s.heap.objs.size, rawInt 0, .none, .none] }) rfl
    rw [hz] at q
    exact q
  exact ⟨⟨_, he, rfl⟩, h _ he (Heap.get?_push_of_some _ (Heap.get?_push_size _ B.free)) fun b o x => Heap.get?_push_of_some _ (Heap.get?_push_of_some _ x)⟩
end
end PySem
namespace L2.FL
open PySem PySem.Spec PyProof.Rows L2

/-! ### enumerate over a tuple -/
def IteS (K : PySem.W.Frag) (a : Addr) : It :=
  ⟨fun i H => ∃ (xs : List V) (x : V), SqT K H a xs ∧ xs[i]? = some x, fun i H v H' => ∃ T x, v = .ref T ∧ H T = none ∧ H' = upd H T (.tup [.int (i : Nat), x]) ∧ ∀ xs, SqT K H a xs → xs[i]? = some x, fun i H => ∃ xs : List V, SqT K H a xs ∧ xs.length ≤ i⟩
theorem turn_enumT {P : Program} {w : World} {K : PySem.W.Frag} {elts : List Expr} {kk : Nat} {tpos : Pos} (a e it : Addr) :
    Turn P w K (.Tuple elts kk tpos) (IteS K a) [e, it] e (fun i h => (∃ old, IsEnum h e it ((i : Nat) : Int) old) ∧ h.IsTupleIter it a i ∧ e ≠ it) where
  mem := by simp
  obj := fun i h st b hb => by
    obtain ⟨⟨old, he⟩, ⟨o, ho, hc, hd⟩, _⟩ := st
    rcases List.mem_cons.mp hb with rfl | hb
    · exact ⟨_, he, fun v q => nomatch q⟩
    · rw [List.mem_singleton.mp hb]
      exact ⟨o, ho, fun v q => by rw [hd] at q; cases q⟩
  keep := fun i h h' st k => st.elim fun ⟨old, he⟩ r => ⟨⟨old, k e (by simp) _ he⟩, r.1.at fun o q => k it (by simp) o q, r.2⟩
  item := by
    intro X hP hw hK hc i pins s σ H E I hf st hg
    subst hP hw hK
    obtain ⟨⟨old, he⟩, hit, hne⟩ := st
    obtain ⟨xs, x, hq, hx⟩ := hg
    obtain ⟨its, rv, p, hz⟩ := I.tuple hq
    obtain ⟨u, hu, ru⟩ := rv.get hx
    have p' : s.heap.IsTuple a its.toArray := p
    have hel : e < s.heap.objs.size := Heap.lt_size he
    have hil : it < s.heap.objs.size := by obtain ⟨_, q, _⟩ := hit; exact Heap.lt_size q
    have hat : a ≠ it := fun z => by
      subst z
      obtain ⟨o1, q1, c1, _⟩ := hit
      obtain ⟨o2, q2, c2, _⟩ := p'
      rw [q1] at q2
      cases q2
      rw [c1] at c2
      exact absurd c2 (by decide)
    have hae : e ≠ a := fun z => by
      subst z
      obtain ⟨o2, q2, c2, _⟩ := p'
      rw [he] at q2
      cases q2
      exact absurd (show Value.type "enumerate" = Value.type "tuple" from c2) (by decide)
    have hlt : i < its.toArray.size := by
      have := (List.getElem?_eq_some_iff.mp hu).1
      simpa using this
    refine wpAny_pyNext_enum_itemD (Draws.tuple (A := X.A.in1) (show X.A.in1.handled = none from I.ok.hd hc) it a hat its.toArray) he ⟨hit, p'⟩ hlt hne (by simp [hne, hae]) fun x' h' tk hP ho hs' hT hsz hk => ?_
    have ex : x' = u := by
      have h2 : its.toArray[i]? = some u := by simpa using hu
      rw [h2] at hP
      cases hP
      rfl
    subst ex
    refine ⟨_, rfl, wpAny_letOwnedTupleGo_enum (s := { s with heap := h', toks := tk + 1 }) ho fun h'' he' sb => ?_⟩
    have hT2 : h''.get? s.heap.objs.size = some { cls := .type "tuple", data := .seq #[.int i tk, x'] } := (sb.2 _ (Nat.ne_of_gt hel)).trans hT
    have new : ObjOk X.prog X.w (upd H s.heap.objs.size (.tup [.int (i : Nat), x])) h'' s.heap.objs.size (.tup [.int (i : Nat), x]) :=
      ⟨by show 2 ≤ sizeLine; decide, [.int i tk, x'], .cons ⟨_, rfl⟩ (.cons ru .nil), ⟨_, hT2, rfl, _, rfl⟩⟩
    have I1 : Inv X pins σ (upd H s.heap.objs.size (.tup [.int (i : Nat), x])) { s with heap := h'', toks := tk + 1 } :=
      I.turnedNew (ch := [e, it]) (fun b ob hb q => (sb.2 b (fun z => hb (by simp [z]))).trans (hk b ob (fun z => hb (by simp [z])) (fun z => hb (by simp [z])) q)) hf (Nat.le_refl _) new
    refine ⟨.ref s.heap.objs.size, _, I1, rfl, ⟨_, x, rfl, I.hok.fresh (Nat.le_refl _), rfl, fun ys hy => by rw [I.tuple_inj hy hq]; exact hx⟩, ⟨⟨x', ?_⟩, hs'.1.at fun o q => (sb.2 it (Ne.symm hne)).trans q, hne⟩, fun b hb => ?_⟩
    · rw [show ((i + 1 : Nat) : Int) = (i : Int) + 1 by omega]
      exact he'
    · have hb' : b < s.heap.objs.size := by
        rcases List.mem_cons.mp hb with rfl | hb
        · exact hel
        · rw [List.mem_singleton.mp hb]; exact hil
      rw [upd_ne (Nat.ne_of_lt hb')]
      exact (hf b hb).1
  done := by
    intro X hP hw hK hc i pins s σ H E I hf st hg
    subst hP hw hK
    obtain ⟨⟨old, he⟩, hit, hne⟩ := st
    obtain ⟨xs, hq, hx⟩ := hg
    obtain ⟨its, rv, p, hz⟩ := I.tuple hq
    have p' : s.heap.IsTuple a its.toArray := p
    obtain ⟨f0, f1, f2, f3, f4, f5⟩ := hf it (by simp)
    have hl := rv.length
    unfold pyNext
    have hT : s.TypeIs (.ref e) "enumerate" := ⟨_, he, rfl⟩
    refine wpAny_bind (wpAny_attempt (wpAny_callSpecial?_slot (name := Str.ofString "__next__") hT F.slot_enumerate_next (wpAny_call_entry F.slot_enumerate_next hT F.entry_enumerate_next ?_ (F.args_enumerate_next_1 _))))
    show wpAny _ _ (field (.ref e) 2 >>= _) _ _ _
    refine wpAny_bind (wpAny_field he rfl (x := .ref it) rfl ?_)
    refine wpAny_bind (wpAny_nextOf_tuple_end (show X.A.in1.handled = none from I.ok.hd hc) hit p' (by simp; omega) fun h' x he' hx' => ?_)
    obtain ⟨o, ho, hc'⟩ := hx'
    refine wpAny_bind (wpAny_isInstance (T := "StopIteration") (b := true) ⟨o, ho, hc'⟩ isSubtype_stop ?_)
    exact wpAny_pure ⟨rfl, I.turned (t' := s.toks) (fun b o hb q => he' b o hb q) f0 f1 f3 f4 f5⟩
  self := fun A i s Q E st h => st.elim fun ⟨_, he⟩ _ => wpAny_pyIter_enum he h
def iEnumA (K : PySem.W.Frag) (ta : TA) : TI := fun σ H R => ta σ H fun vs H1 => ∃ a xs, vs = [.ref a] ∧ ((SqL K H1 a xs ∧ R (Ite K a) H1) ∨ (SqT K H1 a xs ∧ R (IteS K a) H1))
theorem pi_enumA {X : Cx} {e : Expr} {ta : TA} {p pos tpos : Pos} {elts : List Expr} {kk : Nat} (hg : Gl X "enumerate") (hm : X.mg "enumerate" = none) (ha : PA X [e] ta) (hs : starEach [e] X.env = [(false, eval e X.env)] := by rfl) :
    PI X (.Tuple elts kk tpos) (.Call (.Name "enumerate" p) [e] [] pos) (iEnumA X.K ta) := by
  refine ⟨fun pins s σ H R I h => ?_⟩
  refine Call_ (ld_blt I hg hm boot_enumerate (PyProof.Rows.callWith_type1 (thn (ha.run pos pins s σ H _ I h) fun us s1 ⟨vs, H1, I1, r1, q1⟩ => ?_) hs rfl))
  obtain ⟨a, xs, ex, q1⟩ := q1
  subst ex
  cases r1 with
  | cons r rr =>
    cases rr
    cases r
    have fresh2 : ∀ b, b ∈ [s1.heap.objs.size + 1, s1.heap.objs.size] → FpOk X pins H1 b := fun b hb => by
      have hle : s1.heap.objs.size ≤ b := by
        rcases List.mem_cons.mp hb with rfl | hb
        · exact Nat.le_add_right _ _
        · rw [List.mem_singleton.mp hb]; exact Nat.le_refl _
      exact I1.fpOk hle (I1.hok.fresh hle)
    rcases q1 with ⟨hq, q⟩ | ⟨hq, q⟩
    · obtain ⟨its, rv, p', hz⟩ := I1.list hq
      refine call_enumerate_list p'.isList fun h' he hit hsz hk => wpAny_pyIter_enum he ?_
      exact ⟨s1.heap.objs.size + 1, [s1.heap.objs.size + 1, s1.heap.objs.size], _, _, H1, rfl, I1.kept (t' := s1.toks) hk, turn_enum a (s1.heap.objs.size + 1) s1.heap.objs.size, ⟨⟨.none, he⟩, hit, Nat.succ_ne_self _⟩, fresh2, q⟩
    · obtain ⟨its, rv, p', hz⟩ := I1.tuple hq
      refine fl_enum_begins (begins_tuple a its.toArray) p' fun h' he hit hk => wpAny_pyIter_enum he ?_
      exact ⟨s1.heap.objs.size + 1, [s1.heap.objs.size + 1, s1.heap.objs.size], _, _, H1, rfl, I1.kept (t' := s1.toks) hk, turn_enumT a (s1.heap.objs.size + 1) s1.heap.objs.size, ⟨⟨.none, he⟩, ⟨_, hit, rfl, rfl⟩, Nat.succ_ne_self _⟩, fresh2, q⟩

/-- the items, counted from k -/
def enumD : Nat → List PyData → List PyData
  | _, [] => []
  | k, x :: r => .tuple [.int (k : Nat), x] :: enumD (k + 1) r
theorem enumD_length : ∀ (xs : List PyData) (k : Nat), (enumD k xs).length = xs.length
  | [], _ => rfl
  | x :: r, k => by simp [enumD, enumD_length r]
theorem enumD_get : ∀ (xs : List PyData) (k i : Nat), (enumD k xs)[i]? = (xs[i]?).map fun x => .tuple [.int ((k + i : Nat) : Int), x]
  | [], k, i => by simp [enumD]
  | x :: r, k, 0 => by simp [enumD]
  | x :: r, k, i + 1 => by
    simp only [enumD, List.getElem?_cons_succ]
    rw [enumD_get r (k + 1) i, show k + 1 + i = k + (i + 1) by omega]
def zipD : List PyData → List PyData → List PyData
  | x :: r, y :: t => .tuple [x, y] :: zipD r t
  | _, _ => []
theorem zipD_length : ∀ (xs ys : List PyData), (zipD xs ys).length = min xs.length ys.length
  | [], ys => by simp [zipD]
  | x :: r, [] => by simp [zipD]
  | x :: r, y :: t => by
    simp only [zipD, List.length_cons, zipD_length r t]
    omega
theorem zipD_get : ∀ (xs ys : List PyData) (i : Nat) (z : PyData), (zipD xs ys)[i]? = some z → ∃ x y, xs[i]? = some x ∧ ys[i]? = some y ∧ z = .tuple [x, y]
  | [], ys, i, z, h => by simp [zipD] at h
  | x :: r, [], i, z, h => by simp [zipD] at h
  | x :: r, y :: t, 0, z, h => by
    simp [zipD] at h
    exact ⟨x, y, rfl, rfl, h.symm⟩
  | x :: r, y :: t, i + 1, z, h => by
    obtain ⟨a, b, h1, h2, h3⟩ := zipD_get r t i z (by simpa [zipD] using h)
    exact ⟨a, b, by simpa using h1, by simpa using h2, h3⟩
theorem pair_new {K : PySem.W.Frag} {W : Wd} {σ : St} {H : Hp} {en : En} {T : Addr} {u v : V} {x y : PyData} (r : R K W σ H en) (hT : H T = none) (h1 : Dq K W.F u x) (h2 : Dq K W.F v y) :
    ∃ W', Ext W W' ∧ R K W' σ (upd H T (.tup [u, v])) en ∧ Dq K W'.F (.ref T) (.tuple [x, y]) :=
  ⟨_, ext_new r _ (r.freshF hT), r.alloc _ hT, tup_new r.subF hT (.cons h1 (.cons h2 .nil))⟩
theorem walk_enumL {K : PySem.W.Frag} {F : Hp} {a : Addr} {vs : List V} {xs : List PyData} (h : SqL K F a vs) (hd : DqAll K F vs xs) : WalkD K (Ite K a) F (enumD 0 xs) := by
  have rd : ∀ (W : Wd) (σ : St) (H : Hp) (en : En), Same F W.F → R K W σ H en → SqL K H a vs := fun W σ H en s r => same_rd (s.trans r.subF) h
  refine ⟨fun W σ H en s r => ⟨vs, rd W σ H en s r, by rw [dpa_length hd, enumD_length]; exact Nat.le_refl _⟩, fun i z e W σ H en s r => ?_⟩
  rw [enumD_get] at e
  obtain ⟨x, ex, rfl⟩ := Option.map_eq_some_iff.mp e
  obtain ⟨v, e1, e2⟩ := dpa_get hd ex
  refine ⟨⟨vs, v, rd W σ H en s r, e1⟩, fun u H' y => ?_⟩
  obtain ⟨T, x', rfl, hT, rfl, y⟩ := y
  have e3 := y vs (rd W σ _ en s r)
  rw [e1] at e3
  cases e3
  rw [Nat.zero_add]
  exact pair_new r hT (.int _) (dp_mono s _ _ e2)
theorem walk_enumT {K : PySem.W.Frag} {F : Hp} {a : Addr} {vs : List V} {xs : List PyData} (h : SqT K F a vs) (hd : DqAll K F vs xs) : WalkD K (IteS K a) F (enumD 0 xs) := by
  have rd : ∀ (W : Wd) (σ : St) (H : Hp) (en : En), Same F W.F → R K W σ H en → SqT K H a vs := fun W σ H en s r => same_sqt (s.trans r.subF) h
  refine ⟨fun W σ H en s r => ⟨vs, rd W σ H en s r, by rw [dpa_length hd, enumD_length]; exact Nat.le_refl _⟩, fun i z e W σ H en s r => ?_⟩
  rw [enumD_get] at e
  obtain ⟨x, ex, rfl⟩ := Option.map_eq_some_iff.mp e
  obtain ⟨v, e1, e2⟩ := dpa_get hd ex
  refine ⟨⟨vs, v, rd W σ H en s r, e1⟩, fun u H' y => ?_⟩
  obtain ⟨T, x', rfl, hT, rfl, y⟩ := y
  have e3 := y vs (rd W σ _ en s r)
  rw [e1] at e3
  cases e3
  rw [Nat.zero_add]
  exact pair_new r hT (.int _) (dp_mono s _ _ e2)
theorem walk_zipL {K : PySem.W.Frag} {F : Hp} {a b : Addr} {vs ws : List V} {xs ys : List PyData} (h : SqL K F a vs) (hd : DqAll K F vs xs) (h' : SqL K F b ws) (hd' : DqAll K F ws ys) : WalkD K (Itz K a b) F (zipD xs ys) := by
  have rd : ∀ (W : Wd) (σ : St) (H : Hp) (en : En), Same F W.F → R K W σ H en → SqL K H a vs ∧ SqL K H b ws := fun W σ H en s r => ⟨same_rd (s.trans r.subF) h, same_rd (s.trans r.subF) h'⟩
  refine ⟨fun W σ H en s r => ⟨vs, ws, (rd W σ H en s r).1, (rd W σ H en s r).2, by rw [dpa_length hd, dpa_length hd', zipD_length]; omega⟩, fun i z e W σ H en s r => ?_⟩
  obtain ⟨x, y, ex, ey, rfl⟩ := zipD_get _ _ _ _ e
  obtain ⟨v, e1, e2⟩ := dpa_get hd ex
  obtain ⟨w, f1, f2⟩ := dpa_get hd' ey
  refine ⟨⟨vs, ws, v, w, (rd W σ H en s r).1, (rd W σ H en s r).2, e1, f1⟩, fun u H' q => ?_⟩
  obtain ⟨T, x', y', rfl, hT, rfl, q1, q2⟩ := q
  have e3 := q1 vs (rd W σ _ en s r).1
  have f3 := q2 ws (rd W σ _ en s r).2
  rw [e1] at e3
  cases e3
  rw [f1] at f3
  cases f3
  exact pair_new r hT (dp_mono s _ _ e2) (dp_mono s _ _ f2)
theorem walk_zipT {K : PySem.W.Frag} {F : Hp} {a b : Addr} {vs ws : List V} {xs ys : List PyData} (h : SqT K F a vs) (hd : DqAll K F vs xs) (h' : SqT K F b ws) (hd' : DqAll K F ws ys) : WalkD K (RZ.ItzT K a b) F (zipD xs ys) := by
  have rd : ∀ (W : Wd) (σ : St) (H : Hp) (en : En), Same F W.F → R K W σ H en → SqT K H a vs ∧ SqT K H b ws := fun W σ H en s r => ⟨same_sqt (s.trans r.subF) h, same_sqt (s.trans r.subF) h'⟩
  refine ⟨fun W σ H en s r => ⟨vs, ws, (rd W σ H en s r).1, (rd W σ H en s r).2, by rw [dpa_length hd, dpa_length hd', zipD_length]; omega⟩, fun i z e W σ H en s r => ?_⟩
  obtain ⟨x, y, ex, ey, rfl⟩ := zipD_get _ _ _ _ e
  obtain ⟨v, e1, e2⟩ := dpa_get hd ex
  obtain ⟨w, f1, f2⟩ := dpa_get hd' ey
  refine ⟨⟨vs, ws, v, w, (rd W σ H en s r).1, (rd W σ H en s r).2, e1, f1⟩, fun u H' q => ?_⟩
  obtain ⟨T, x', y', rfl, hT, rfl, q1, q2⟩ := q
  have e3 := q1 vs (rd W σ _ en s r).1
  have f3 := q2 ws (rd W σ _ en s r).2
  rw [e1] at e3
  cases e3
  rw [f1] at f3
  cases f3
  exact pair_new r hT (dp_mono s _ _ e2) (dp_mono s _ _ f2)
def itLT : RV → Option (Bool × List PyData)
  | .d (.list xs) => some (false, xs)
  | .d (.tuple xs) => some (true, xs)
  | _ => none
theorem itLT_l {r : RV} {xs : List PyData} (h : itLT r = some (false, xs)) : r = .d (.list xs) := by
  unfold itLT at h
  split at h <;> cases h
  rfl
theorem itLT_t {r : RV} {xs : List PyData} (h : itLT r = some (true, xs)) : r = .d (.tuple xs) := by
  unfold itLT at h
  split at h <;> cases h
  rfl
def fEnum (f : EF) : IF := fun en => (f en).bind fun p => (itLT p.1).bind fun q => some (enumD 0 q.2, p.2)
def fZip (f g : EF) : IF := fun en => (f en).bind fun p => (g p.2).bind fun q => (itLT p.1).bind fun a => (itLT q.1).bind fun b => if a.1 = b.1 then some (zipD a.2 b.2, q.2) else none
section
variable {X : Cx} {e e2 : Expr} {p pos tpos : Pos} {elts : List Expr} {kk : Nat} {f g : EF}
theorem si_enum (hg : Gl X "enumerate") (hm : X.mg "enumerate" = none) (ha : SE X e f) (hs : starEach [e] X.env = [(false, eval e X.env)] := by rfl) (hs' : starEach [e] X.env = (false, eval e X.env) :: starEach [] X.env := by rfl) :
    SI X (.Tuple elts kk tpos) (.Call (.Name "enumerate" p) [e] [] pos) (fEnum f) := by
  obtain ⟨t, hp, ht⟩ := ha.run
  refine ⟨_, pi_enumA hg hm (pa_cons hp pa_nil hs') hs, fun W σ H en xs en' Q hR hf q => ?_⟩
  simp only [fEnum, Option.bind_eq_some_iff] at hf
  obtain ⟨⟨c, en1⟩, e1, ⟨b, ys⟩, e2, hf⟩ := hf
  cases hf
  cases b with
  | false =>
    cases itLT_l e2
    refine ht W σ H en _ _ _ hR e1 fun v W1 H1 x1 R1 v1 => ?_
    have v1' : Dq X.K W1.F v (.list ys) := v1
    cases v1' with
    | lst h1 h2 => exact ⟨_, _, rfl, .inl ⟨same_rd R1.subF h1, q _ W1 H1 x1 R1 (walk_enumL h1 h2)⟩⟩
  | true =>
    cases itLT_t e2
    refine ht W σ H en _ _ _ hR e1 fun v W1 H1 x1 R1 v1 => ?_
    have v1' : Dq X.K W1.F v (.tuple ys) := v1
    cases v1' with
    | tup h1 h2 => exact ⟨_, _, rfl, .inr ⟨same_sqt R1.subF h1, q _ W1 H1 x1 R1 (walk_enumT h1 h2)⟩⟩
theorem si_zip (hg : Gl X "zip") (hm : X.mg "zip" = none) (ha : SE X e f) (hb : SE X e2 g) (hs : starEach [e, e2] X.env = (false, eval e X.env) :: starEach [e2] X.env := by rfl) (hs' : starEach [e2] X.env = (false, eval e2 X.env) :: starEach [] X.env := by rfl)
    (hpl : (backTo pos (starEach [e2] X.env)).any (·.1) = false := by rfl) : SI X (.Tuple elts kk tpos) (.Call (.Name "zip" p) [e, e2] [] pos) (fZip f g) := by
  obtain ⟨t, hp, ht⟩ := ha.run
  obtain ⟨u, hq, hu⟩ := hb.run
  refine ⟨_, RZ.pi_zipA hg hm (pa_cons hp (pa_cons hq pa_nil hs') hs) hs hpl, fun W σ H en xs en' Q hR hf q => ?_⟩
  simp only [fZip, Option.bind_eq_some_iff] at hf
  obtain ⟨⟨c, en1⟩, e1, ⟨c2, en2⟩, e2, ⟨b, ys⟩, e3, ⟨b2, zs⟩, e4, hf⟩ := hf
  split at hf
  · rename_i hb
    cases hf
    have hb' : b = b2 := hb
    subst hb'
    refine ht W σ H en _ _ _ hR e1 fun v W1 H1 x1 R1 v1 => ?_
    refine hu W1 σ H1 _ _ _ _ R1 e2 fun w W2 H2 x2 R2' w2 => ?_
    have v2 := v1.mono x2.F
    cases b with
    | false =>
      cases itLT_l e3
      cases itLT_l e4
      have v1' : Dq X.K W2.F v (.list ys) := v2
      have w1' : Dq X.K W2.F w (.list zs) := w2
      cases v1' with
      | lst h1 h2 =>
        cases w1' with
        | lst h3 h4 => exact ⟨_, _, _, _, rfl, .inl ⟨same_rd R2'.subF h1, same_rd R2'.subF h3, q _ W2 H2 (x1.trans x2) R2' (walk_zipL h1 h2 h3 h4)⟩⟩
    | true =>
      cases itLT_t e3
      cases itLT_t e4
      have v1' : Dq X.K W2.F v (.tuple ys) := v2
      have w1' : Dq X.K W2.F w (.tuple zs) := w2
      cases v1' with
      | tup h1 h2 =>
        cases w1' with
        | tup h3 h4 => exact ⟨_, _, _, _, rfl, .inr ⟨same_sqt R2'.subF h1, same_sqt R2'.subF h3, q _ W2 H2 (x1.trans x2) R2' (walk_zipT h1 h2 h3 h4)⟩⟩
  · cases hf
end
end L2.FL
set_option Elab.async false
set_option linter.all false
set_option maxRecDepth 100000
set_option maxHeartbeats 2000000
/-! FL13: comprehensions of two clauses. -/
namespace L2.FL
open PySem PySem.Spec PyProof.Rows L2

section
variable {K : PySem.W.Frag} {σ : St}
/-- behind a block: its new list D is nobody's -/
theorem R.endBlk {W1 W2 : Wd} {H1 H3 : Hp} {en1 en2 : En} {vs : List Nat} {D : Addr} {o : HO} (R1 : R K W1 σ H1 en1) (x2 : Ext W1 W2) (hGD : W1.G D = none) (R3 : R K { W2 with G := upd W1.G D o } (wipe σ vs) H3 en2)
    (hpl : ∀ v ∈ vs, plainAt en1 v = true) (hno : ∀ v ∈ vs, ∀ s, en2[v]? ≠ some (some s)) :
    R K { W2 with G := W1.G } σ H3 (backE en1 en2 vs) ∧ H3 D = some o ∧ W2.F D = none ∧ Unowned σ (backE en1 en2 vs) D := by
  obtain ⟨r1, h1, h2, h3⟩ := R.pop hGD R3
  have x12 : Ext W1 { W2 with G := W1.G } := ⟨x2.F, rfl, x2.P⟩
  have rb := R1.back x12 r1 hpl hno
  refine ⟨rb, h1, h2, fun j zs hj hq => ?_⟩
  by_cases hm : j ∈ vs
  · have hp := hpl j hm
    unfold plainAt at hp
    rcases live_of_get hj with z | z
    all_goals
      rw [backE_get, if_pos hm] at z
      split at z
      · cases q2 : en1[j]? with
        | none => rw [q2] at z; cases z
        | some w =>
          rw [q2] at z
          cases z
          rw [q2] at hp
          cases hp
      · cases z
  · rw [live_congr (show (backE en1 en2 vs)[j]? = en2[j]? by rw [backE_get, if_neg hm])] at hj
    exact h3 j zs hj (by rw [wipe_get, if_neg hm]; exact hq)
theorem wipe_wipe (σ : St) {vs vs1 : List Nat} (h : ∀ i ∈ vs1, i ∈ vs) : wipe (wipe σ vs1) vs = wipe σ vs := by
  apply List.ext_getElem?
  intro i
  rw [wipe_get, wipe_get, wipe_get, wipe_length]
  by_cases hi : i ∈ vs
  · rw [if_pos hi, if_pos hi]
  · rw [if_neg hi, if_neg hi, if_neg fun e => hi (h i e)]
end
/-! ### [elt for target in iter if .. for target1 in iter1 if ..] -/
def lc2L (g : GF) (tt : TF) (it1 : IF) (g1 : GF) (tt1 : TF) (te : EF) (vs vs1 : List Nat) : List PyData → En → Option (List PyData × En)
  | [], en => some ([], en)
  | x :: xs, en => (g x en).bind fun en1 => (tt en1).bind fun p => if p.1 = true then (it1 p.2).bind fun q => (lcL g1 tt1 te vs1 q.1 (wipeE q.2 vs1)).bind fun u =>
      (lc2L g tt it1 g1 tt1 te vs vs1 xs (wipeE u.2 vs)).bind fun r => some (u.1 ++ r.1, r.2)
    else lc2L g tt it1 g1 tt1 te vs vs1 xs (wipeE p.2 vs)
def fLc2 (it : IF) (g : GF) (tt : TF) (it1 : IF) (g1 : GF) (tt1 : TF) (te : EF) (vs vs1 : List Nat) : LF := fun en => (it en).bind fun p => if vs.all (plainAt p.2) = true then
    (lc2L g tt it1 g1 tt1 te vs vs1 p.1 (wipeE p.2 vs)).bind fun r => if r.1.length ≤ sizeLine then some (r.1, backE p.2 r.2 vs) else none else none
theorem slt_lc2 {K : PySem.W.Frag} {it it1 : IF} {g g1 : GF} {tt tt1 : TF} {te : EF} {vs vs1 ws ws1 : List Nat} (hw : ∀ w ∈ ws, w ∈ vs) (hw1 : ∀ w ∈ ws1, w ∈ vs1) (hv : ∀ i ∈ vs1, i ∈ vs) :
    SLt K (tLc2 (canI K it) (canG K g ws) (canT K tt) (canI K it1) (canG K g1 ws1) (canT K tt1) (canE K te) vs vs1) (fLc2 it g tt it1 g1 tt1 te vs vs1) := by
  intro W σ H en zs en' Q hR hf q
  simp only [fLc2, Option.bind_eq_some_iff] at hf
  obtain ⟨⟨xs, en1⟩, e1, hf⟩ := hf
  simp only at hf
  split at hf
  · rename_i hpl
    have hpl' : ∀ v ∈ vs, plainAt en1 v = true := List.all_eq_true.mp hpl
    simp only [Option.bind_eq_some_iff] at hf
    obtain ⟨⟨ys, enE⟩, eE, hf⟩ := hf
    simp only at hf
    split at hf
    · rename_i hz
      simp only [Option.some.injEq, Prod.mk.injEq] at hf
      obtain ⟨rfl, rfl⟩ := hf
      refine ⟨W, en, xs, en1, hR, e1, fun J W1 H1 x1 R1 w D hD => ?_⟩
      have hGD : W1.G D = none := R1.freshG hD
      have hpar := R1.noPar hpl'
      have hpar1 : ∀ q ∈ W1.P, q.1 ∉ vs1 := fun q hq hm => hpar q hq (hv _ hm)
      have R1w := R1.wipes hpar
      have R2 : R K { W1 with G := upd W1.G D (.lst []) } (wipe σ vs) (upd H1 D (.lst [])) (wipeE en1 vs) := (R1w.laid (.lst []) hD).push upd_same (R1.freshF hD) (R1w.unowned hD)
      have wz : ∀ (e : En) (us : List Nat), ∀ v ∈ us, ∀ s, (wipeE e us)[v]? ≠ some (some s) := fun e us v hv s q => by
        rw [wipeE_get, if_pos hv] at q
        split at q <;> cases q
      let Inv0 : Nat → Hp → Prop := fun i H' => ∃ (W2 : Wd) (en2 : En) (acc : List V) (ps rs : List PyData), Ext W1 W2 ∧ R K { W2 with G := upd W1.G D (.lst acc) } (wipe σ vs) H' en2 ∧ DqAll K W2.F acc ps ∧
          lc2L g tt it1 g1 tt1 te vs vs1 (xs.drop i) en2 = some (rs, enE) ∧ ps ++ rs = ys ∧ (∀ v ∈ vs, ∀ s, en2[v]? ≠ some (some s))
      refine ⟨fun i m H' => m = xs.length - i ∧ i ≤ xs.length ∧ Inv0 i H', ⟨xs.length, by simp, Nat.zero_le _, W1, wipeE en1 vs, [], [], ys, Ext.refl _, R2, .nil, by simpa using eE, rfl, wz _ _⟩, ?_⟩
      rintro i m H3 ⟨rfl, hi, W2, en2, acc, ps, rs, x2, R3, hacc, hlc, hys, hno⟩
      by_cases hlt : i < xs.length
      · have ex : xs[i]? = some xs[i] := List.getElem?_eq_getElem hlt
        have ed : xs.drop i = xs[i] :: xs.drop (i + 1) := List.drop_eq_getElem_cons hlt
        rw [ed] at hlc
        simp only [lc2L, Option.bind_eq_some_iff] at hlc
        obtain ⟨en3, e3, ⟨b, en4⟩, e4, hlc⟩ := hlc
        obtain ⟨hgo, hy⟩ := w.go i _ ex { W2 with G := upd W1.G D (.lst acc) } _ H3 en2 x2.F R3
        refine .inr ⟨hgo, Inv0 (i + 1), fun H' h => ⟨xs.length - (i + 1), by omega, rfl, hlt, h⟩, fun v H4 y => ?_⟩
        obtain ⟨W4, x4, R4, hd⟩ := hy v H4 y
        refine ⟨W4, en2, _, en3, R4, hd, e3, fun σ2 R5 l5 k5 => ?_⟩
        have hws : wipe σ2 vs = wipe σ vs := by
          have := wipe_same (σ := wipe σ vs) (σ' := σ2) (vs := vs) l5 fun j hj => k5 j fun hm => hj (hw j hm)
          rw [this]
          exact wipe_wipe σ fun _ h => h
        refine ⟨hws, W4, en3, b, en4, R5, e4, fun W6 H6 x6 R6 => ?_⟩
        have x46 : Ext { W2 with G := upd W1.G D (.lst acc) } W6 := x4.trans x6
        have pW : ∀ {W' : Wd}, Ext { W2 with G := upd W1.G D (.lst acc) } W' → W'.P = W1.P := fun x' => x'.P.trans x2.P
        have asG : ∀ {W' : Wd}, Ext { W2 with G := upd W1.G D (.lst acc) } W' → W' = { W' with G := upd W1.G D (.lst acc) } := fun {W'} x' => by
          have hg := x'.G
          cases W'
          simp only at hg
          rw [hg]
        cases b with
        | true =>
          simp only [if_true, Option.bind_eq_some_iff] at hlc ⊢
          obtain ⟨⟨us, en7⟩, e7, ⟨zs1, en8⟩, e8, ⟨zs2, en9⟩, e9, hlc⟩ := hlc
          simp only [Option.some.injEq, Prod.mk.injEq] at hlc
          obtain ⟨h9, rfl⟩ := hlc
          refine ⟨W6, en4, us, en7, R6, e7, fun J1 W7 H7 x7 R7 w7 => ?_⟩
          have x47 := x46.trans x7
          have R7w := R7.wipes (vs := vs1) (by rw [pW x47]; exact hpar1)
          rw [asG x47] at R7w
          let Inv1 : Nat → Hp → Prop := fun j H' => ∃ (W8 : Wd) (enJ : En) (ac : List V) (pj rj : List PyData), Ext W1 W8 ∧ Same W7.F W8.F ∧ R K { W8 with G := upd W1.G D (.lst ac) } (wipe σ2 vs1) H' enJ ∧ DqAll K W8.F ac pj ∧
              lcL g1 tt1 te vs1 (us.drop j) enJ = some (rj, en8) ∧ pj ++ rj = ps ++ zs1 ∧ (∀ v ∈ vs1, ∀ s, enJ[v]? ≠ some (some s))
          refine ⟨fun j k H' => k = us.length - j ∧ j ≤ us.length ∧ Inv1 j H', ⟨us.length, by simp, Nat.zero_le _, { W7 with G := W1.G }, wipeE en7 vs1, acc, ps, zs1, ⟨x2.F.trans x47.F, rfl, x47.P.trans x2.P⟩, Same.refl _, R7w, dpa_mono x47.F _ _ hacc, by simpa using e8, rfl, wz _ _⟩, ?_⟩
          rintro j k H8 ⟨rfl, hj, W8, enJ, ac, pj, rj, x8, s8, R8, hac, hlj, hpj, hnj⟩
          by_cases hjt : j < us.length
          · have uex : us[j]? = some us[j] := List.getElem?_eq_getElem hjt
            have ued : us.drop j = us[j] :: us.drop (j + 1) := List.drop_eq_getElem_cons hjt
            rw [ued] at hlj
            simp only [lcL, Option.bind_eq_some_iff] at hlj
            obtain ⟨f3, g3, ⟨b1, f4⟩, g4, hlj⟩ := hlj
            obtain ⟨hgo1, hy1⟩ := w7.go j _ uex { W8 with G := upd W1.G D (.lst ac) } _ H8 enJ s8 R8
            refine .inr ⟨hgo1, Inv1 (j + 1), fun H' h => ⟨us.length - (j + 1), by omega, rfl, hjt, h⟩, fun v1 H9 y1 => ?_⟩
            obtain ⟨W9, x9, R9, hd9⟩ := hy1 v1 H9 y1
            refine ⟨W9, enJ, _, f3, R9, hd9, g3, fun σ3 R10 l10 k10 => ?_⟩
            have hws1 : wipe σ3 vs1 = wipe σ2 vs1 := by
              have := wipe_same (σ := wipe σ2 vs1) (σ' := σ3) (vs := vs1) l10 fun a ha => k10 a fun hm => ha (hw1 a hm)
              rw [this]
              exact wipe_wipe σ2 fun _ h => h
            refine ⟨hws1, W9, f3, b1, f4, R10, g4, fun W11 H11 x11 R11 => ?_⟩
            have x911 : Ext { W8 with G := upd W1.G D (.lst ac) } W11 := x9.trans x11
            have asG1 : ∀ {W' : Wd}, Ext { W8 with G := upd W1.G D (.lst ac) } W' → W' = { W' with G := upd W1.G D (.lst ac) } := fun {W'} x' => by
              have hg := x'.G
              cases W'
              simp only at hg
              rw [hg]
            have back1 : ∀ {W' : Wd} {H' : Hp} {e' : En}, Ext { W8 with G := upd W1.G D (.lst ac) } W' → R K W' σ3 H' e' → R K W' (wipe σ2 vs1) H' (wipeE e' vs1) := fun {W' H' e'} x' R' => by
              have := R'.wipes (vs := vs1) (by rw [show W'.P = W1.P from x'.P.trans x8.P]; exact hpar1)
              rwa [hws1] at this
            cases b1 with
            | true =>
              simp only [if_true, Option.bind_eq_some_iff] at hlj ⊢
              obtain ⟨⟨c, f7⟩, g7, hlj⟩ := hlj
              simp only at hlj
              split at hlj
              · rename_i yv
                simp only [Option.bind_eq_some_iff] at hlj
                obtain ⟨⟨r8, f8⟩, g8, hlj⟩ := hlj
                simp only [Option.some.injEq, Prod.mk.injEq] at hlj
                obtain ⟨h8, rfl⟩ := hlj
                refine ⟨W11, f4, _, f7, R11, g7, fun vy W12 H12 x12 R12 v12 => ?_⟩
                have x812 := x911.trans x12
                have R12w := back1 x812 R12
                rw [asG1 x812] at R12w
                have hDl : H12 D = some (.lst ac) := (R.pop hGD R12w).2.1
                have hlen : ac.length < sizeLine := by
                  have l1 := dpa_length hac
                  have l2 : (pj ++ rj).length = (ps ++ zs1).length := by rw [hpj]
                  have l3 : (ps ++ rs).length ≤ sizeLine := by rw [hys]; exact hz
                  rw [← h9] at l3
                  rw [← h8] at l2
                  simp only [List.length_append, List.length_cons] at l2 l3
                  omega
                refine ⟨ac, hDl, hlen, { W12 with G := W1.G }, wipeE f7 vs1, ac ++ [vy], pj ++ [yv], r8, ⟨x8.F.trans x812.F, rfl, x812.P.trans x8.P⟩, s8.trans x812.F, R.grow hGD R12w, dpa_app (dpa_mono x812.F _ _ hac) (dqa_one v12), g8, ?_, wz _ _⟩
                rw [List.append_assoc, List.singleton_append, h8]
                exact hpj
              · cases hlj
            | false =>
              simp only [Bool.false_eq_true, if_false] at hlj ⊢
              have R11w := back1 x911 R11
              rw [asG1 x911] at R11w
              exact ⟨{ W11 with G := W1.G }, wipeE f4 vs1, ac, pj, rj, ⟨x8.F.trans x911.F, rfl, x911.P.trans x8.P⟩, s8.trans x911.F, R11w, dpa_mono x911.F _ _ hac, hlj, hpj, wz _ _⟩
          · have ej : j = us.length := by omega
            subst ej
            rw [List.drop_length] at hlj
            simp only [lcL, Option.some.injEq, Prod.mk.injEq] at hlj
            obtain ⟨rfl, rfl⟩ := hlj
            rw [List.append_nil] at hpj
            subst hpj
            refine .inl ⟨w7.stop { W8 with G := upd W1.G D (.lst ac) } _ H8 enJ s8 R8, ?_⟩
            have Rw := R8.wipes (vs := vs) (by rw [show W8.P = W1.P from x8.P]; exact hpar)
            rw [wipe_wipe σ2 hv, hws] at Rw
            refine ⟨W8, wipeE enJ vs, ac, ps ++ zs1, zs2, x8, Rw, hac, e9, ?_, wz _ _⟩
            rw [List.append_assoc, h9]
            exact hys
        | false =>
          simp only [Bool.false_eq_true, if_false] at hlc ⊢
          have R6w : R K W6 (wipe σ vs) H6 (wipeE en4 vs) := by
            have := R6.wipes (vs := vs) (by rw [pW x46]; exact hpar)
            rwa [hws] at this
          rw [asG x46] at R6w
          exact ⟨{ W6 with G := W1.G }, wipeE en4 vs, acc, ps, rs, ⟨x2.F.trans x46.F, rfl, x46.P.trans x2.P⟩, R6w, dpa_mono x46.F _ _ hacc, hlc, hys, wz _ _⟩
      · have ei : i = xs.length := by omega
        subst ei
        rw [List.drop_length] at hlc
        simp only [lc2L, Option.some.injEq, Prod.mk.injEq] at hlc
        obtain ⟨rfl, rfl⟩ := hlc
        rw [List.append_nil] at hys
        subst hys
        obtain ⟨rb, h1, h2, h3⟩ := R.endBlk R1 x2 hGD R3 hpl' hno
        exact .inl ⟨w.stop { W2 with G := upd W1.G D (.lst acc) } _ H3 en2 x2.F R3, q D acc { W2 with G := W1.G } H3 (x1.trans ⟨x2.F, rfl, x2.P⟩) rb h1 hacc h2 hGD h3⟩
    · cases hf
  · cases hf
section
variable {X : Cx}
theorem sl_lc2 {elt tg iter tg1 iter1 : Expr} {ifs ifs1 : List Expr} {scope : Scope} {own : List (Str × Nat)} {pos : Pos} {it it1 : IF} {g g1 : GF} {tt tt1 : TF} {te : EF} {ws ws1 vs1 : List Nat} (hc : X.calm = true) (hN : X.N.Nodup) (hi : SI X tg iter it) (ok : BlkOk X.N X.env.scope scope own) (hv : ∀ i ∈ vs1, i ∈ own.map (·.2))
    (hg : ∀ (s : Shared) (H : Hp) (C : Addr) (cl : List (Str × Addr)) (fp : List Addr), SG (X.blk s H scope (compEnvC scope cl C X.env) fp) tg g ws) (ht : ∀ (s : Shared) (H : Hp) (C : Addr) (cl : List (Str × Addr)) (fp : List Addr), STs (X.blk s H scope (compEnvC scope cl C X.env) fp) ifs tt)
    (hi1 : ∀ (s : Shared) (H : Hp) (C : Addr) (cl : List (Str × Addr)) (fp : List Addr), SI (X.blk s H scope (compEnvC scope cl C X.env) fp) tg1 iter1 it1)
    (hg1 : ∀ (s : Shared) (H : Hp) (C : Addr) (cl : List (Str × Addr)) (fp : List Addr), SG (X.blk s H scope (compEnvC scope cl C X.env) fp) tg1 g1 ws1) (ht1 : ∀ (s : Shared) (H : Hp) (C : Addr) (cl : List (Str × Addr)) (fp : List Addr), STs (X.blk s H scope (compEnvC scope cl C X.env) fp) ifs1 tt1)
    (he : ∀ (s : Shared) (H : Hp) (C : Addr) (cl : List (Str × Addr)) (fp : List Addr), SE (X.blk s H scope (compEnvC scope cl C X.env) fp) elt te) (hw : ∀ w ∈ ws, w ∈ own.map (·.2)) (hw1 : ∀ w ∈ ws1, w ∈ vs1) (hs : ∀ x, foldedSetIterable iter X.env x = pure x := by intro _; rfl) (hs1 : ∀ env x, foldedSetIterable iter1 env x = pure x := by intro _ _; rfl) :
    SL X (.ListComp elt [⟨tg, iter, ifs, 0⟩, ⟨tg1, iter1, ifs1, 0⟩] scope pos) (fLc2 it g tt it1 g1 tt1 te (own.map (·.2)) vs1) :=
  ⟨_, pe_lc2 hc hN (g := canG X.K g ws) (tt := canT X.K tt) (te := canE X.K te) (g1 := canG X.K g1 ws1) (tt1 := canT X.K tt1) (wi1 := canI X.K it1) (pi_can hi) ok hv (fun s H C cl fp => pg_can (hg s H C cl fp)) (fun s H C cl fp => (ht s H C cl fp).run) (fun s H C cl fp => pi_can (hi1 s H C cl fp))
    (fun s H C cl fp => pg_can (hg1 s H C cl fp)) (fun s H C cl fp => (ht1 s H C cl fp).run) (fun s H C cl fp => pe_can (he s H C cl fp)) hs hs1, slt_lc2 hw hw1 hv⟩
theorem ss_setLc2 {i : Nat} {y : Str} {py : Pos} {elt tg iter tg1 iter1 : Expr} {ifs ifs1 : List Expr} {scope : Scope} {own : List (Str × Nat)} {pos spos : Pos} {it it1 : IF} {g g1 : GF} {tt tt1 : TF} {te : EF} {ws ws1 vs1 : List Nat} (hc : X.calm = true) (hN : X.N.Nodup) (hi : SI X tg iter it) (ok : BlkOk X.N X.env.scope scope own) (hv : ∀ i ∈ vs1, i ∈ own.map (·.2))
    (hg : ∀ (s : Shared) (H : Hp) (C : Addr) (cl : List (Str × Addr)) (fp : List Addr), SG (X.blk s H scope (compEnvC scope cl C X.env) fp) tg g ws) (ht : ∀ (s : Shared) (H : Hp) (C : Addr) (cl : List (Str × Addr)) (fp : List Addr), STs (X.blk s H scope (compEnvC scope cl C X.env) fp) ifs tt)
    (hi1 : ∀ (s : Shared) (H : Hp) (C : Addr) (cl : List (Str × Addr)) (fp : List Addr), SI (X.blk s H scope (compEnvC scope cl C X.env) fp) tg1 iter1 it1)
    (hg1 : ∀ (s : Shared) (H : Hp) (C : Addr) (cl : List (Str × Addr)) (fp : List Addr), SG (X.blk s H scope (compEnvC scope cl C X.env) fp) tg1 g1 ws1) (ht1 : ∀ (s : Shared) (H : Hp) (C : Addr) (cl : List (Str × Addr)) (fp : List Addr), STs (X.blk s H scope (compEnvC scope cl C X.env) fp) ifs1 tt1)
    (he : ∀ (s : Shared) (H : Hp) (C : Addr) (cl : List (Str × Addr)) (fp : List Addr), SE (X.blk s H scope (compEnvC scope cl C X.env) fp) elt te) (hw : ∀ w ∈ ws, w ∈ own.map (·.2)) (hw1 : ∀ w ∈ ws1, w ∈ vs1)
    (hsw : swapsWith (.ListComp elt [⟨tg, iter, ifs, 0⟩, ⟨tg1, iter1, ifs1, 0⟩] scope pos) (some (.Name y py)) spos.line X.env = pure true) (hy : X.N[i]? = some y := by rfl) (hyl : X.env.scope.names.lookup y = some .local := by rfl) (hs : ∀ x, foldedSetIterable iter X.env x = pure x := by intro _; rfl) (hs1 : ∀ env x, foldedSetIterable iter1 env x = pure x := by intro _ _; rfl) :
    SS X (.Assign [.Name y py] (.ListComp elt [⟨tg, iter, ifs, 0⟩, ⟨tg1, iter1, ifs1, 0⟩] scope pos) spos) (sAsg (gSet i) (fOfL (fLc2 it g tt it1 g1 tt1 te (own.map (·.2)) vs1))) := by
  refine ⟨_, ps_setLc2 hc hN hy hyl hsw (g := canG X.K g ws) (tt := canT X.K tt) (te := canE X.K te) (g1 := canG X.K g1 ws1) (tt1 := canT X.K tt1) (wi1 := canI X.K it1) (pi_can hi) ok hv (fun s H C cl fp => pg_can (hg s H C cl fp)) (fun s H C cl fp => (ht s H C cl fp).run) (fun s H C cl fp => pi_can (hi1 s H C cl fp))
    (fun s H C cl fp => pg_can (hg1 s H C cl fp)) (fun s H C cl fp => (ht1 s H C cl fp).run) (fun s H C cl fp => pe_can (he s H C cl fp)) hs hs1, sst_asg (fun W σ H en r en' Q hR hf q => ?_) sgt_name⟩
  simp only [fOfL, Option.bind_eq_some_iff] at hf
  obtain ⟨⟨xs, en1⟩, e1, hf⟩ := hf
  cases hf
  refine slt_lc2 hw hw1 hv W σ H en xs _ Q hR e1 fun a vs W' H' hx hR' h1 h2 h3 h4 h5 => ?_
  exact q _ _ H' (hx.trans (ext_new hR' _ h3)) (hR'.keep h1 h3 h4 h5) (.lst (.of upd_same) (dpa_mono (same_new h3) _ _ h2))
end
end L2.FL
set_option Elab.async false
set_option linter.all false
set_option maxRecDepth 100000
set_option maxHeartbeats 2000000
/-! FL14: l.index(x); range by steps. -/
namespace L2.FL
open PySem PySem.Spec PyProof.Rows L2

/-! ### methods of lists that are read -/
def SM (K : PySem.W.Frag) (r : V → List V → Hp → VK → Prop) (o : PyData → PyData → Option PyData) : Prop := ∀ (F H : Hp) (v w : V) (x y z : PyData) (Q : VK), Same F H → DpR K F H v x → DpR K F H w y → o x y = some z →
  (∀ u, Dq K F u z → Q u H) → r v [w] H Q
def isLst : PyData → Bool
  | .list _ => true
  | _ => false
def fMethL (o : PyData → PyData → Option PyData) (f g : EF) : EF := fun en => (f en).bind fun p => (res p.2 p.1).bind fun x0 => if isLst x0 = true then (g p.2).bind fun q => (res q.2 p.1).bind fun x => (res q.2 q.1).bind fun y => (o x y).bind fun z => some (.d z, q.2) else none
def oIndex (c x : PyData) : Option PyData := match c with
  | .list ds => if SeqAt.shaped (.list ds) && SeqAt.shaped x then (ds.findIdx? fun z => PyData.eqv z x).map fun j => .int (j : Nat) else none
  | _ => none
theorem s_index {K : PySem.W.Frag} : SM K (rIndexD K) oIndex := by
  intro F H v w x y z Q s dx dy e k
  unfold oIndex at e
  split at e
  · rename_i ds
    split at e
    · rename_i hk
      simp only [Bool.and_eq_true] at hk
      obtain ⟨j, e1, e2⟩ := Option.map_eq_some_iff.mp e
      subst e2
      obtain ⟨hj, h1, h2⟩ := List.findIdx?_eq_some_iff_getElem.mp e1
      have hv := dq_dp _ _ (dx.now s)
      obtain ⟨a, vs, rfl, _⟩ := dx.list s
      exact ⟨a, w, y, ds, j, ds[j], rfl, rfl, hv, dq_dp _ _ (dy.now s), hk.1, hk.2, List.getElem?_eq_getElem hj, h1, fun m z' hm hz => by
        obtain ⟨hm', rfl⟩ := List.getElem?_eq_some_iff.mp hz
        simpa using h2 m hm, k _ (.int _)⟩
    · cases e
  · cases e
section
variable {X : Cx}
theorem se_index {o e : Expr} {f g : EF} {apos cpos : Pos} (hu : X.A.units + 200 < cLine) (ho : SE X o f) (ha : SE X e g) (hbase : attributeBase o "index" X.env (eval o X.env) = eval o X.env := by rfl)
    (hfew : ((backTo cpos (starEach [e] X.env)).all (fun x => !x.1) && (backToKw cpos (keywordEach [] X.env)).all (fun x => x.1.isSome) && decide ([e].length + ([] : List Keyword).length + (if ([] : List Keyword).isEmpty then 0 else 1) < 30)) = true := by rfl)
    (hline : (apos.endLine == cpos.line) = true := by rfl) (hs : starEach [e] X.env = (false, eval e X.env) :: starEach [] X.env := by rfl) (hpl : (backTo cpos (starEach [] X.env)).any (·.1) = false := by rfl) :
    SE X (.Call (.Attribute o "index" apos) [e] [] cpos) (fMethL oIndex f g) := by
  obtain ⟨t, hp, ht⟩ := ho.run
  obtain ⟨u, hq, hu'⟩ := ha.run
  refine ⟨_, pe_bm PySem.F.plainAttrs_list PySem.F.slot_list_index PySem.F.type_list_index (mt_indexD (by omega)) hp (pa_cons hq pa_nil hs) hbase hfew hline hs hpl, fun W σ H en r en' Q hR hf q => ?_⟩
  simp only [fMethL, Option.bind_eq_some_iff] at hf
  obtain ⟨⟨q1, en1⟩, e1, x0, e0, hf⟩ := hf
  simp only at hf
  split at hf
  · rename_i hl
    simp only [Option.bind_eq_some_iff] at hf
    obtain ⟨⟨q2, en2⟩, e2, x, e3, y, e4, z, e5, hf⟩ := hf
    cases hf
    refine ht W σ H en q1 en1 _ hR e1 fun v W1 H1 x1 R1 v1 => ?_
    have d0 := R1.res v1 e0
    have ty : tyV X.K "list" v H1 := by
      cases x0 with
      | list ds =>
        obtain ⟨a, vs, rfl, h1, _⟩ := d0.list R1.subF
        exact .inl ⟨rfl, vs, h1⟩
      | _ => cases hl
    refine ⟨ty, hu' W1 σ H1 en1 q2 en2 _ R1 e2 fun w W2 H2 x2 R2' v2 => ?_⟩
    exact s_index W2.F H2 v w x y z Q R2'.subF (R2'.res (v1.mono x2.F) e3) (R2'.res v2 e4) e5 fun u hu => q u W2 H2 (x1.trans x2) R2' hu
  · cases hf
end
/-! ### range(a, b, c) -/
def rngC (lo c : Int) (n : Nat) : List PyData := (List.range n).map fun (i : Nat) => .int (lo + (i : Int) * c)
theorem walk_rngC {K : PySem.W.Frag} {F : Hp} (lo c : Int) (n : Nat) : WalkD K (Itc lo c n) F (rngC lo c n) := by
  refine ⟨fun W σ H en s r => ?_, fun i x e W σ H en s r => ?_⟩
  · show n ≤ (rngC lo c n).length
    simp [rngC]
  · have hi : i < n := by
      have := (List.getElem?_eq_some_iff.mp e).1
      simpa [rngC] using this
    refine ⟨hi, fun u H' y => ?_⟩
    obtain ⟨rfl, rfl⟩ := y
    have e' : x = .int (lo + i * c) := by
      unfold rngC at e
      rw [List.getElem?_map, List.getElem?_range hi] at e
      cases e
      rfl
    subst e'
    exact ⟨W, Ext.refl _, r, .int _⟩
/-- the number of items -/
def rngN (a b c : Int) : Nat := (Builtin.Range.rangeSize a b c).toNat
def rngOk (a b c : Int) : Bool := decide (c ≠ 0) && decide (c.natAbs < 1073741824) && Builtin.Range.small a b c && decide (0 ≤ Builtin.Range.rangeSize a b c)
def fRng3 (f g h : EF) : IF := fun en => (f en).bind fun p => (asInt p.1).bind fun a => (g p.2).bind fun q => (asInt q.1).bind fun b => (h q.2).bind fun u => (asInt u.1).bind fun c =>
  if rngOk a b c = true then some (rngC a c (rngN a b c), u.2) else none
theorem si_range3 {X : Cx} {tg a b c : Expr} {f g h : EF} {p pos : Pos} (hg : Gl X "range") (hm : X.mg "range" = none) (ha : SE X a f) (hb : SE X b g) (hc : SE X c h)
    (hs : starEach [a, b, c] X.env = (false, eval a X.env) :: starEach [b, c] X.env := by rfl) (hs2 : starEach [b, c] X.env = (false, eval b X.env) :: starEach [c] X.env := by rfl) (hs3 : starEach [c] X.env = (false, eval c X.env) :: starEach [] X.env := by rfl)
    (hpl : (backTo pos (starEach [b, c] X.env)).any (·.1) = false := by rfl) : SI X tg (.Call (.Name "range" p) [a, b, c] [] pos) (fRng3 f g h) := by
  obtain ⟨t, hp, ht⟩ := ha.run
  obtain ⟨u, hq, hu⟩ := hb.run
  obtain ⟨y, hr, hy⟩ := hc.run
  refine ⟨_, pi_range3 hg hm (pa_cons hp (pa_cons hq (pa_cons hr pa_nil hs3) hs2) hs) hs hpl, fun W σ H en xs en' Q hR hf q => ?_⟩
  simp only [fRng3, Option.bind_eq_some_iff] at hf
  obtain ⟨⟨c1, en1⟩, e1, i, e2, ⟨c2, en2⟩, e3, j, e4, ⟨c3, en3⟩, e5, k, e6, hf⟩ := hf
  cases asInt_eq e2
  cases asInt_eq e4
  cases asInt_eq e6
  split at hf
  · rename_i hn
    cases hf
    unfold rngOk at hn
    simp only [Bool.and_eq_true, decide_eq_true_eq] at hn
    obtain ⟨⟨⟨n1, n2⟩, n3⟩, n4⟩ := hn
    refine ht W σ H en _ _ _ hR e1 fun v W1 H1 x1 R1 v1 => ?_
    cases rint v1
    refine hu W1 σ H1 _ _ _ _ R1 e3 fun w W2 H2 x2 R2' w2 => ?_
    cases rint w2
    refine hy W2 σ H2 _ _ _ _ R2' e5 fun z W3 H3 x3 R3 w3 => ?_
    cases rint w3
    exact ⟨i, j, k, rngN i j k, rfl, ⟨n1, n2, n3, by unfold rngN; omega⟩, q _ W3 H3 ((x1.trans x2).trans x3) R3 (walk_rngC i k _)⟩
  · cases hf
end L2.FL
set_option Elab.async false
set_option linter.all false
set_option maxRecDepth 100000
set_option maxHeartbeats 2000000
/-! FL15: not, or, and by truth; defs with defaults. -/
namespace L2.FL
open PySem PySem.Spec PyProof.Rows L2

theorem DpR.truth {K : PySem.W.Frag} {F H : Hp} {v : V} {x : PyData} {b : Bool} (s : Same F H) (hd : DpR K F H v x) (e3 : tru x = some b) : TruV K v H b := by
  cases x with
  | none => cases hd.none; cases e3; rfl
  | bool b => cases hd.bool; cases e3; rfl
  | int i => cases hd.int; cases e3; rfl
  | str s =>
    cases hd.str
    simp only [tru] at e3
    split at e3
    · rename_i hs
      cases e3
      exact ⟨hs, rfl⟩
    · cases e3
  | list xs =>
    obtain ⟨a, vs, rfl, h1, h2⟩ := hd.list s
    cases e3
    refine .inl ⟨vs, h1, ?_⟩
    cases h2 <;> rfl
  | tuple xs =>
    obtain ⟨a, vs, rfl, h1, h2⟩ := hd.tuple s
    cases e3
    refine .inr (.inl ⟨vs, h1, ?_⟩)
    cases h2 <;> rfl
  | dict kvs => cases e3
def fNotT (f : EF) : EF := fun en => (f en).bind fun p => (res p.2 p.1).bind fun x => (tru x).bind fun b => some (.d (.bool !b), p.2)
def fOrT (f g : EF) : EF := fun en => (f en).bind fun p => (res p.2 p.1).bind fun x => (tru x).bind fun b => if b = true then some p else g p.2
def fAndT (f g : EF) : EF := fun en => (f en).bind fun p => (res p.2 p.1).bind fun x => (tru x).bind fun b => if b = true then g p.2 else some p
section
variable {X : Cx}
theorem se_notT {a : Expr} {f : EF} {pos : Pos} (h : SE X a f) : SE X (.UnaryOp .Not a pos) (fNotT f) := by
  obtain ⟨t, hp, ht⟩ := h.run
  refine ⟨_, pe_notT hp, fun W σ H en r en' Q hR hf q => ?_⟩
  simp only [fNotT, Option.bind_eq_some_iff] at hf
  obtain ⟨⟨c, en1⟩, e1, x, e2, b, e3, hf⟩ := hf
  cases hf
  exact ht W σ H en c en1 _ hR e1 fun v W1 H1 x1 R1 v1 => ⟨b, (R1.res v1 e2).truth R1.subF e3, q _ W1 H1 x1 R1 (.bl _)⟩
theorem se_orT {a b : Expr} {rest : List Expr} {f g : EF} {pos : Pos} (h : SE X a f) (k : SE X (.BoolOp .Or (b :: rest) pos) g) : SE X (.BoolOp .Or (a :: b :: rest) pos) (fOrT f g) := by
  obtain ⟨t, hp, ht⟩ := h.run
  obtain ⟨u, hq, hu⟩ := k.run
  refine ⟨_, pe_orT hp hq, fun W σ H en r en' Q hR hf q => ?_⟩
  simp only [fOrT, Option.bind_eq_some_iff] at hf
  obtain ⟨⟨c, en1⟩, e1, x, e2, b, e3, hf⟩ := hf
  refine ht W σ H en c en1 _ hR e1 fun v W1 H1 x1 R1 v1 => ⟨b, (R1.res v1 e2).truth R1.subF e3, ?_⟩
  cases b with
  | true =>
    cases hf
    exact q _ W1 H1 x1 R1 v1
  | false => exact hu W1 σ H1 en1 r en' Q R1 hf fun w W2 H2 x2 R2' w2 => q w W2 H2 (x1.trans x2) R2' w2
theorem se_andT {a b : Expr} {rest : List Expr} {f g : EF} {pos : Pos} (h : SE X a f) (k : SE X (.BoolOp .And (b :: rest) pos) g) : SE X (.BoolOp .And (a :: b :: rest) pos) (fAndT f g) := by
  obtain ⟨t, hp, ht⟩ := h.run
  obtain ⟨u, hq, hu⟩ := k.run
  refine ⟨_, pe_andT hp hq, fun W σ H en r en' Q hR hf q => ?_⟩
  simp only [fAndT, Option.bind_eq_some_iff] at hf
  obtain ⟨⟨c, en1⟩, e1, x, e2, b, e3, hf⟩ := hf
  refine ht W σ H en c en1 _ hR e1 fun v W1 H1 x1 R1 v1 => ⟨b, (R1.res v1 e2).truth R1.subF e3, ?_⟩
  cases b with
  | false =>
    cases hf
    exact q _ W1 H1 x1 R1 v1
  | true => exact hu W1 σ H1 en1 r en' Q R1 hf fun w W2 H2 x2 R2' w2 => q w W2 H2 (x1.trans x2) R2' w2
end
/-! ### defs, with or without defaults -/
section
variable {P : Program} {w : World} {K : PySem.W.Frag} {mg : Str → Option Value} {base : Heap}
theorem runs_body {X : Cx} {N ps : List Str} {body : List Stmt} {g : SF} {n : Nat} {vs : List V} {H : Hp} {Q : VK} {E : XK} (hN : N.length = ps.length + n) (hb : SSs X body g) (hq : spF X.K g ps.length n vs H Q E) : ∃ t, PSs X body t ∧ t { nx := fun _ H' => Q .non H', rt := Q } (start N vs) H := by
  obtain ⟨W, as, y, as', hl, hP, hL, hR, hf, q⟩ := hq
  obtain ⟨t, ht, hs⟩ := hb.run
  refine ⟨t, ht, ?_⟩
  have hlen := hR.len
  simp only [List.length_map] at hlen
  have e0 : start N vs = vs.map some ++ List.replicate n none := by
    unfold start
    rw [show N.length - vs.length = n by omega]
  rw [e0]
  simp only [fcall, Option.bind_eq_some_iff] at hf
  obtain ⟨⟨o, en'⟩, e1, hf⟩ := hf
  refine hs W _ H _ o en' _ (hR.more n) e1 fun W' σ' H' x' R' => ?_
  cases o with
  | rt z =>
    simp only [Option.some.injEq, Prod.mk.injEq] at hf
    obtain ⟨rfl, rfl⟩ := hf
    exact fun v hv => q v W' H' x' (hR.params hP hL x' R') hv
  | nx =>
    simp only [Option.some.injEq, Prod.mk.injEq] at hf
    obtain ⟨rfl, rfl⟩ := hf
    exact q .non W' H' x' (hR.params hP hL x' R') .non
  | bk => cases hf
  | ct => cases hf
theorem okD_def {x qual : Str} {params : Arguments} {body : List Stmt} {scope : Scope} {dvs : List V} {kws : List (Str × V)} {f : Addr} {fd : FuncData} {N ps : List Str} {k : Nat} {g : SF} {n : Nat} (F : FunD K x qual params body scope dvs kws f fd) (S : FnScope N ps scope) (hn : N.length = ps.length + n)
    (hbody : ∀ (cdv : Value) (A : Around) (outer : List Env) (s : Shared) (H : Hp) (E : XK), Room k (A.deeper (envOfC qual scope s.heap.objs.size f cdv)) → (A.deeper (envOfC qual scope s.heap.objs.size f cdv)).guards = some [] →
      SSs (cxOf CX0 P w K mg base N qual scope f cdv A outer s H E).nox body g) : FnG P w K mg base (k + 1) f fd ps (spF K g ps.length n) := by
  obtain ⟨oc, od, dV, kV, doc, pm, an, cdv, ct, osl, rfl, lk, hcd, _, _⟩ := F.ex
  refine fn_ofG lk hcd S (fun vs H Q E h => ?_) fun A outer s H vs Q E hr hg hsp => ?_
  · obtain ⟨W, as, y, as', hl, _, _, hR, _⟩ := h
    have := hR.len
    simp only [List.length_map] at this
    omega
  · obtain ⟨t, ht, q⟩ := runs_body hn (hbody cdv A outer s H E hr hg) hsp
    exact ⟨t, ht.nox, q⟩
end
end L2.FL
set_option Elab.async false
set_option linter.all false
set_option maxRecDepth 100000
set_option maxHeartbeats 2000000
/-! FL16: targets that change lists; several stores at once; defs by name. -/
namespace L2.FL
open PySem PySem.Spec PyProof.Rows L2

/-! ### targets that may change lists -/
structure SHt (K : PySem.W.Frag) (t : TG) (f : GF) : Prop where
  go : ∀ (W : Wd) (σ : St) (H : Hp) (en : En) (v : V) (x : PyData) (en' : En) (Q : St → Hp → Prop), R K W σ H en → Dq K W.F v x → f x en = some en' → (∀ W' σ' H', Ext W W' → R K W' σ' H' en' → Q σ' H') → t v σ H Q
structure SH (X : Cx) (tg : Expr) (f : GF) : Prop where
  run : ∃ t, PG X tg t ∧ SHt X.K t f
structure SHst (K : PySem.W.Frag) (t : TGs) (f : GsF) : Prop where
  go : ∀ (W : Wd) (σ : St) (H : Hp) (en : En) (vs : List V) (xs : List PyData) (en' : En) (Q : St → Hp → Prop), R K W σ H en → DqAll K W.F vs xs → f xs en = some en' → (∀ W' σ' H', Ext W W' → R K W' σ' H' en' → Q σ' H') → t vs σ H Q
structure SHs (X : Cx) (ts : List Expr) (f : GsF) : Prop where
  run : ∃ t, PGs X ts t ∧ SHst X.K t f
/-- xs[i] = .. as a target -/
def gIx (i : Nat) (fi : EF) : GF := fun y en => (live en i).bind fun _ => (fi en).bind fun q => (asInt q.1).bind fun k => (live q.2 i).bind fun xs => (ixN xs.length k).bind fun j => some (putL q.2 i (xs.set j y))
section
variable {X : Cx}
theorem sh_of {tg : Expr} {f : GF} {ws : List Nat} (h : SG X tg f ws) : SH X tg f := by
  obtain ⟨t, hp, ht⟩ := h.run
  exact ⟨t, hp, ⟨fun W σ H en v x en' Q hR hd hf q => ht.go W σ H en v x en' Q hR hd hf fun σ' r _ _ => q W σ' H (Ext.refl _) r⟩⟩
theorem sh_ix (i : Nat) {x : Str} {ei : Expr} {fi : EF} {p p2 : Pos} (hi : SE X ei fi) (hN : X.N[i]? = some x := by rfl) (hv : Vis X.env.scope x := by first | exact Or.inl rfl | exact Or.inr (Or.inl rfl) | exact Or.inr (Or.inr rfl)) (hd : (x == ("__debug__" : Str)) = false := by decide)
    (hcd : (x == ("__classdict__" : Str)) = false := by decide) (ha : ∀ v, assign (.Subscript (.Name x p) ei p2) X.env v = (do
      let ov ← holding [v] (eval (.Name x p) X.env)
      let iv ← holding [v, ov] (eval ei X.env)
      standAt p2
      holding [v, ov, iv] (setItem ov iv v)
      release [v, ov, iv] []) := by intro _; rfl) : SH X (.Subscript (.Name x p) ei p2) (gIx i fi) := by
  obtain ⟨u, hq, hu⟩ := hi.run
  refine ⟨_, pg_sub (pe_var hN hv hd hcd) hq set_list ha, ⟨fun W σ H en v y en' Q hR hdq hf q => ?_⟩⟩
  simp only [gIx, Option.bind_eq_some_iff] at hf
  obtain ⟨xs0, e0, ⟨c2, en2⟩, e2, k, e3, xs, e4, j, e5, hf⟩ := hf
  cases hf
  cases asInt_eq e3
  obtain ⟨a, vs0, g1, g2, _⟩ := hR.liv i xs0 e0
  refine ⟨.ref a, g1, hu W σ H en _ _ _ hR e2 fun w W2 H2 x2 R2' w2 => ?_⟩
  cases rint w2
  obtain ⟨a', vs, k1, k2, k3, _⟩ := R2'.liv i xs e4
  rw [g1] at k1
  cases k1
  exact ⟨a, vs, k, j, rfl, rfl, k2, by rw [dpa_length k3]; exact e5, q W2 σ _ x2 (R2'.put e4 g1 (dpa_set (dp_mono x2.F _ _ hdq) j k3))⟩
theorem shs_nil : SHs X [] gNil' := by
  refine ⟨_, pgs_nil, ⟨fun W σ H en vs xs en' Q hR hd he q => ?_⟩⟩
  unfold gNil' at he
  split at he
  · cases he
    cases hd
    exact ⟨rfl, q W σ H (Ext.refl _) hR⟩
  · cases he
theorem shs_cons {e : Expr} {es : List Expr} {f : GF} {g : GsF} (h : SH X e f) (k : SHs X es g) (hs : (assignEach (e :: es) X.env).map (·.2) = assign e X.env :: (assignEach es X.env).map (·.2) := by rfl) : SHs X (e :: es) (gCons' f g) := by
  obtain ⟨t, hp, ht⟩ := h.run
  obtain ⟨u, hq, hu⟩ := k.run
  refine ⟨_, pgs_cons hp hq hs, ⟨fun W σ H en vs xs en' Q hR hd he q => ?_⟩⟩
  unfold gCons' at he
  split at he
  · simp only [Option.bind_eq_some_iff] at he
    obtain ⟨en1, e1, he⟩ := he
    cases hd with
    | cons h1 h2 =>
      exact ⟨_, _, rfl, ht.go W σ H en _ _ en1 _ hR h1 e1 fun W1 σ1 H1 x1 R1 => hu.go W1 σ1 H1 en1 _ _ en' Q R1 (dpa_mono x1.F _ _ h2) he fun W2 σ2 H2 x2 R2' => q W2 σ2 H2 (x1.trans x2) R2'⟩
  · cases he
theorem sh_tup {es : List Expr} {k : Nat} {f : GsF} {n : Nat} {pos : Pos} (hc : X.calm = true) (h : SHs X es f) (hn : (assignEach es X.env).length = n := by rfl) (hst : (assignEach es X.env).findIdx? (·.1) = none := by rfl)
    (hl : ∀ xs en en', f xs en = some en' → xs.length = n) : SH X (.Tuple es k pos) (gTup' f) := by
  obtain ⟨t, hp, ht⟩ := h.run
  refine ⟨_, pg_tup hc hp hn hst, ⟨fun W σ H en v x en' Q hR hd he q => ?_⟩⟩
  unfold gTup' at he
  split at he
  · rename_i xs
    cases hd with
    | tup h1 h2 =>
      exact ⟨_, _, rfl, same_sqt hR.subF h1, by rw [dpa_length h2]; exact hl _ _ _ he, ht.go W σ H en _ _ en' Q hR h2 he q⟩
  · cases he
theorem ss_asgH {tg e : Expr} {f : EF} {g : GF} {pos : Pos} (he : SE X e f) (hg : SH X tg g) (hs : swapsWithSole [tg] e pos.line X.env = pure false := by rfl) (hw : swappedStores [tg] e X.env = pure none := by rfl)
    (h1 : (assignEach [tg] X.env).map (·.2) = [assign tg X.env] := by rfl) : SS X (.Assign [tg] e pos) (sAsg g f) := by
  obtain ⟨t, hp, ht⟩ := he.run
  obtain ⟨u, hq, hu⟩ := hg.run
  refine ⟨_, ps_asg hp hq hs hw h1, fun W σ H en o en' D hR hf q => ?_⟩
  simp only [sAsg, Option.bind_eq_some_iff] at hf
  obtain ⟨⟨c, en1⟩, e1, hf⟩ := hf
  refine ht W σ H en c en1 _ hR e1 fun v W1 H1 x1 R1 v1 => ?_
  simp only at hf
  split at hf
  · simp only [Option.bind_eq_some_iff] at hf
    obtain ⟨en2, e2, hf⟩ := hf
    cases hf
    exact hu.go W1 σ H1 en1 v _ _ _ R1 v1 e2 fun W2 σ' H2 x2 R2' => q W2 σ' H2 (x1.trans x2) R2'
  · cases hf
end

/-! ### several values at once, new lists among them -/
inductive PV where
  | d (x : PyData)
  | l (xs : List PyData)
abbrev PF := En → Option (List PV × En)
def lr : List V → List PV → List Addr
  | .ref a :: vs, .l _ :: r => a :: lr vs r
  | _ :: vs, _ :: r => lr vs r
  | _, _ => []
inductive Held (K : PySem.W.Frag) (W : Wd) (H : Hp) (σ : St) (en : En) : List V → List PV → Prop
  | nil : Held K W H σ en [] []
  | d {v : V} {vs : List V} {x : PyData} {r : List PV} : Dq K W.F v x → Held K W H σ en vs r → Held K W H σ en (v :: vs) (.d x :: r)
  | l {a : Addr} {ws vs : List V} {xs : List PyData} {r : List PV} : H a = some (.lst ws) → DqAll K W.F ws xs → W.F a = none → W.G a = none → Unowned σ en a → a ∉ lr vs r → Held K W H σ en vs r → Held K W H σ en (.ref a :: vs) (.l xs :: r)
theorem Held.length {K : PySem.W.Frag} {W : Wd} {H : Hp} {σ : St} {en : En} : ∀ {vs : List V} {r : List PV}, Held K W H σ en vs r → vs.length = r.length
  | _, _, .nil => rfl
  | _, _, .d _ h => by simp [h.length]
  | _, _, .l _ _ _ _ _ _ h => by simp [h.length]
theorem Held.pop {K : PySem.W.Frag} {W : Wd} {G : Hp} {D : Addr} {o : HO} {H : Hp} {σ : St} {en : En} (hG : G D = none) : ∀ {vs : List V} {r : List PV}, Held K { W with G := upd G D o } H σ en vs r → Held K { W with G := G } H σ en vs r ∧ D ∉ lr vs r
  | _, _, .nil => ⟨.nil, by simp [lr]⟩
  | _, _, .d (v := v) hd h => by
    obtain ⟨h1, h2⟩ := Held.pop hG h
    refine ⟨.d hd h1, ?_⟩
    cases v <;> simpa [lr] using h2
  | _, _, .l (a := a) e1 e2 e3 e4 e5 e6 h => by
    obtain ⟨h1, h2⟩ := Held.pop hG h
    have e4' : (upd G D o) a = none := e4
    have hne : a ≠ D := fun z => by
      subst z
      rw [upd_same] at e4'
      cases e4'
    rw [upd_ne hne] at e4'
    refine ⟨.l e1 e2 e3 e4' e5 e6 h1, ?_⟩
    simp only [lr, List.mem_cons, not_or]
    exact ⟨fun z => hne z.symm, h2⟩
theorem Held.set {K : PySem.W.Frag} {W : Wd} {H : Hp} {σ σ' : St} {en en' : En} : ∀ {vs : List V} {r : List PV}, Held K W H σ en vs r → (∀ a ∈ lr vs r, Unowned σ en a → Unowned σ' en' a) → Held K W H σ' en' vs r
  | _, _, .nil, _ => .nil
  | _, _, .d (v := v) hd h, k => .d hd (h.set fun a ha => k a (by cases v <;> simpa [lr] using ha))
  | _, _, .l e1 e2 e3 e4 e5 e6 h, k => .l e1 e2 e3 e4 (k _ (by simp [lr]) e5) e6 (h.set fun a ha => k a (by simp [lr, ha]))
theorem Held.laid {K : PySem.W.Frag} {W : Wd} {H : Hp} {σ : St} {en : En} {p : Addr} {o : HO} (hp : H p = none) : ∀ {vs : List V} {r : List PV}, Held K W H σ en vs r → Held K W (upd H p o) σ en vs r
  | _, _, .nil => .nil
  | _, _, .d hd h => .d hd (Held.laid hp h)
  | _, _, .l h1 h2 h3 h4 h5 h6 h => .l (by rw [upd_ne (ne_of_none h1 hp)]; exact h1) h2 h3 h4 h5 h6 (Held.laid hp h)
def SPt (K : PySem.W.Frag) (t : TA) (f : PF) : Prop := ∀ (W : Wd) (σ : St) (H : Hp) (en : En) (r : List PV) (en' : En) (Q : List V → Hp → Prop), R K W σ H en → f en = some (r, en') →
  (∀ vs W' H', Ext W W' → R K W' σ H' en' → Held K W' H' σ en' vs r → Q vs H') → t σ H Q
structure SP (X : Cx) (es : List Expr) (f : PF) : Prop where
  run : ∃ t, PA X es t ∧ SPt X.K t f
def pNil : PF := fun en => some ([], en)
def pE (f : EF) (g : PF) : PF := fun en => (f en).bind fun p => match p.1 with
  | .d x => (g p.2).bind fun q => some (.d x :: q.1, q.2)
  | _ => none
def pL (f : LF) (g : PF) : PF := fun en => (f en).bind fun p => (g p.2).bind fun q => some (.l p.1 :: q.1, q.2)
section
variable {X : Cx}
theorem sp_nil : SP X [] pNil := ⟨_, pa_nil, fun W σ H en r en' Q hR hf q => by cases hf; exact q [] W H (Ext.refl _) hR .nil⟩
theorem sp_e {e : Expr} {es : List Expr} {f : EF} {g : PF} (h : SE X e f) (k : SP X es g) (hs : starEach (e :: es) X.env = (false, eval e X.env) :: starEach es X.env := by rfl) : SP X (e :: es) (pE f g) := by
  obtain ⟨t, hp, ht⟩ := h.run
  obtain ⟨u, hq, hu⟩ := k.run
  refine ⟨_, pa_cons hp hq hs, fun W σ H en r en' Q hR hf q => ?_⟩
  simp only [pE, Option.bind_eq_some_iff] at hf
  obtain ⟨⟨c, en1⟩, e1, hf⟩ := hf
  simp only at hf
  split at hf
  · simp only [Option.bind_eq_some_iff] at hf
    obtain ⟨⟨r2, en2⟩, e2, hf⟩ := hf
    cases hf
    exact ht W σ H en _ en1 _ hR e1 fun v W1 H1 x1 R1 v1 => hu W1 σ H1 en1 r2 _ _ R1 e2 fun vs W2 H2 x2 R2' hh => q _ W2 H2 (x1.trans x2) R2' (.d (dp_mono x2.F _ _ v1) hh)
  · cases hf
theorem sp_l {e : Expr} {es : List Expr} {f : LF} {g : PF} (h : SL X e f) (k : SP X es g) (hs : starEach (e :: es) X.env = (false, eval e X.env) :: starEach es X.env := by rfl) : SP X (e :: es) (pL f g) := by
  obtain ⟨t, hp, ht⟩ := h.run
  obtain ⟨u, hq, hu⟩ := k.run
  refine ⟨_, pa_cons hp hq hs, fun W σ H en r en' Q hR hf q => ?_⟩
  simp only [pL, Option.bind_eq_some_iff] at hf
  obtain ⟨⟨c, en1⟩, e1, ⟨r2, en2⟩, e2, hf⟩ := hf
  cases hf
  refine ht W σ H en _ en1 _ hR e1 fun a ws W1 H1 x1 R1 h1 h2 h3 h4 h5 => ?_
  have Rp := R1.push h1 h3 h5
  refine hu { W1 with G := upd W1.G a (.lst ws) } σ H1 en1 r2 _ _ Rp e2 fun vs W2 H2 x2 R2' hh => ?_
  have eW : W2 = { W2 with G := upd W1.G a (.lst ws) } := by
    have hg := x2.G
    cases W2
    simp only at hg
    rw [hg]
  rw [eW] at R2' hh
  obtain ⟨r1, k1, k2, k3⟩ := R.pop h4 R2'
  obtain ⟨hh1, hh2⟩ := Held.pop h4 hh
  exact q _ { W2 with G := W1.G } H2 (x1.trans ⟨x2.F, rfl, x2.P⟩) r1 (.l k1 (dpa_mono x2.F _ _ h2) k2 h4 k3 hh2 hh1)
end
def parSet : List Nat → List PV → En → Option En
  | [], [], en => some en
  | i :: is, .d x :: r, en => if open_ en i then parSet is r (en.set i (some (.d x))) else none
  | i :: is, .l xs :: r, en => if open_ en i then parSet is r (en.set i (some (.l xs))) else none
  | _, _, _ => none
def setAll : List Nat → List V → St → St
  | i :: is, v :: vs, σ => setAll is vs (σ.set i (some v))
  | _, _, σ => σ
def sPar (is : List Nat) (f : PF) : SF := fun en => (f en).bind fun p => (parSet is p.1 p.2).bind fun en' => some (.nx, en')
theorem unowned_d {σ : St} {en : En} {a : Addr} {i : Nat} {v : V} {x : PyData} (h : Unowned σ en a) : Unowned (σ.set i (some v)) (en.set i (some (.d x))) a := fun k xs hk hq => by
  by_cases e : k = i
  · subst e
    rw [live_set_d] at hk
    cases hk
  · rw [live_set_ne e] at hk
    rw [List.getElem?_set_ne (fun z => e z.symm)] at hq
    exact h k xs hk hq
theorem unowned_l {σ : St} {en : En} {a b : Addr} {i : Nat} {ys : List PyData} (h : Unowned σ en a) (hne : a ≠ b) : Unowned (σ.set i (some (.ref b))) (en.set i (some (.l ys))) a := fun k xs hk hq => by
  by_cases e : k = i
  · subst e
    rw [List.getElem?_set] at hq
    rw [if_pos rfl] at hq
    split at hq
    · cases hq; exact hne rfl
    · cases hq
  · rw [live_set_ne e] at hk
    rw [List.getElem?_set_ne (fun z => e z.symm)] at hq
    exact h k xs hk hq
theorem par_set {K : PySem.W.Frag} {W : Wd} {H : Hp} : ∀ {is : List Nat} {r : List PV} {vs : List V} {σ : St} {en en' : En}, R K W σ H en → Held K W H σ en vs r → parSet is r en = some en' → R K W (setAll is vs σ) H en'
  | [], [], _, σ, en, en', hR, .nil, e => by cases e; exact hR
  | [], _ :: _, _, σ, en, en', _, _, e => by simp [parSet] at e
  | i :: is, [], _, σ, en, en', _, _, e => by simp [parSet] at e
  | i :: is, _, _, σ, en, en', hR, .d (v := v) (x := x) hd h, e => by
    simp only [parSet] at e
    split at e
    · rename_i ho
      have q := par_set (hR.setD ho hd) (h.set fun a _ hu => unowned_d hu) e
      exact q
    · cases e
  | i :: is, _, _, σ, en, en', hR, .l (a := a) e1 e2 e3 e4 e5 e6 h, e => by
    simp only [parSet] at e
    split at e
    · rename_i ho
      have q := par_set (hR.setL ho e1 e2 e3 e4 e5) (h.set fun b hb hu => unowned_l hu fun z => e6 (by rw [← z]; exact hb)) e
      exact q
    · cases e
theorem parSet_length : ∀ {is : List Nat} {r : List PV} {en en' : En}, parSet is r en = some en' → is.length = r.length
  | [], [], en, en', e => rfl
  | [], _ :: _, en, en', e => by simp [parSet] at e
  | i :: is, [], en, en', e => by simp [parSet] at e
  | i :: is, .d x :: r, en, en', e => by
    simp only [parSet] at e
    split at e
    · simp [parSet_length e]
    · cases e
  | i :: is, .l x :: r, en, en', e => by
    simp only [parSet] at e
    split at e
    · simp [parSet_length e]
    · cases e
section
variable {X : Cx}
/-- a, b = e1, e2: plain local names on one line -/
theorem ss_par {i j : Nat} {x y : Str} {a b : Expr} {f : PF} {px py pt pos : Pos} {kt k2 pt2} (hc : X.calm = true) (hN : X.N.Nodup) (h : SP X [a, b] f) (hij : i ≠ j) (hi : X.N[i]? = some x := by rfl) (hj : X.N[j]? = some y := by rfl)
    (hx : X.env.scope.names.lookup x = some .local := by rfl) (hy : X.env.scope.names.lookup y = some .local := by rfl)
    (hw : swappedStores [.Tuple [.Name x px, .Name y py] kt pt] (.Tuple [a, b] k2 pt2) X.env = pure (some [x, y]) := by rfl)
    (hs : swapsWithSole [.Tuple [.Name x px, .Name y py] kt pt] (.Tuple [a, b] k2 pt2) pos.line X.env = pure false := by rfl) :
    SS X (.Assign [.Tuple [.Name x px, .Name y py] kt pt] (.Tuple [a, b] k2 pt2) pos) (sPar [i, j] f) := by
  obtain ⟨t, hp, ht⟩ := h.run
  refine ⟨_, ps_par hc hN hi hj hij hx hy hp hw hs, fun W σ H en o en' D hR hf q => ?_⟩
  simp only [sPar, Option.bind_eq_some_iff] at hf
  obtain ⟨⟨r, en1⟩, e1, en2, e2, hf⟩ := hf
  cases hf
  refine ht W σ H en r en1 _ hR e1 fun vs W1 H1 x1 R1 hh => ?_
  have l := hh.length
  have l2 := parSet_length e2
  match vs, l, hh with
  | [v, w], _, hh => exact ⟨v, w, rfl, q W1 _ H1 x1 (par_set R1 hh e2)⟩
  | [], l, _ => simp at l l2; omega
  | [_], l, _ => simp at l l2; omega
  | _ :: _ :: _ :: _, l, _ => simp at l l2; omega
theorem ss_par3 {i j l : Nat} {x y z : Str} {a b c : Expr} {f : PF} {px py pz pt pos : Pos} {kt k2 pt2} (hc : X.calm = true) (hN : X.N.Nodup) (h : SP X [a, b, c] f) (hij : i ≠ j) (hil : i ≠ l) (hjl : j ≠ l) (hi : X.N[i]? = some x := by rfl) (hj : X.N[j]? = some y := by rfl) (hl : X.N[l]? = some z := by rfl)
    (hx : X.env.scope.names.lookup x = some .local := by rfl) (hy : X.env.scope.names.lookup y = some .local := by rfl) (hz : X.env.scope.names.lookup z = some .local := by rfl)
    (hw : swappedStores [.Tuple [.Name x px, .Name y py, .Name z pz] kt pt] (.Tuple [a, b, c] k2 pt2) X.env = pure (some [x, y, z]) := by rfl)
    (hs : swapsWithSole [.Tuple [.Name x px, .Name y py, .Name z pz] kt pt] (.Tuple [a, b, c] k2 pt2) pos.line X.env = pure false := by rfl) :
    SS X (.Assign [.Tuple [.Name x px, .Name y py, .Name z pz] kt pt] (.Tuple [a, b, c] k2 pt2) pos) (sPar [i, j, l] f) := by
  obtain ⟨t, hp, ht⟩ := h.run
  refine ⟨_, ps_par3 hc hN hi hj hl hij hil hjl hx hy hz hp hw hs, fun W σ H en o en' D hR hf q => ?_⟩
  simp only [sPar, Option.bind_eq_some_iff] at hf
  obtain ⟨⟨r, en1⟩, e1, en2, e2, hf⟩ := hf
  cases hf
  refine ht W σ H en r en1 _ hR e1 fun vs W1 H1 x1 R1 hh => ?_
  have l := hh.length
  have l2 := parSet_length e2
  match vs, l, hh with
  | [v, w, u], _, hh => exact ⟨v, w, u, rfl, q W1 _ H1 x1 (par_set R1 hh e2)⟩
  | [], l, _ => simp at l l2; omega
  | [_], l, _ => simp at l l2; omega
  | [_, _], l, _ => simp at l l2; omega
  | _ :: _ :: _ :: _ :: _, l, _ => simp at l l2; omega
end
/-! the same through the tuple itself (names that comprehensions read, more than three, ..) -/
def gNames : List Nat → TGs
  | [] => gNil
  | i :: is => gCons (gName i) (gNames is)
theorem gNames_run : ∀ {is : List Nat} {vs : List V} {σ : St} {H : Hp} {Q : St → Hp → Prop}, is.length = vs.length → Q (setAll is vs σ) H → gNames is vs σ H Q
  | [], [], σ, H, Q, _, q => ⟨rfl, q⟩
  | [], _ :: _, σ, H, Q, h, _ => by simp at h
  | _ :: _, [], σ, H, Q, h, _ => by simp at h
  | i :: is, v :: vs, σ, H, Q, h, q => ⟨v, vs, rfl, gNames_run (by simpa using h) q⟩
structure SN (X : Cx) (ts : List Expr) (is : List Nat) : Prop where
  run : PGs X ts (gNames is)
theorem setAll_unowned {σ : St} {is : List Nat} {vs : List V} : (setAll is vs σ).length = σ.length := by
  induction is generalizing vs σ with
  | nil => simp [setAll]
  | cons i is ih =>
    cases vs with
    | nil => simp [setAll]
    | cons v vs => simp [setAll, ih]
section
variable {X : Cx}
theorem sn_nil : SN X [] [] := ⟨pgs_nil⟩
theorem sn_cons {i : Nat} {x : Str} {pos : Pos} {es : List Expr} {is : List Nat} (hN : X.N.Nodup) (k : SN X es is) (hi : X.N[i]? = some x := by rfl) (hx : Loc X.env.scope x := by first | exact Or.inl rfl | exact Or.inr rfl) (hf : X.fn x = true ∨ X.env.scope.names.lookup x = some .local := by first | exact .inl rfl | exact .inr rfl)
    (hs : (assignEach (.Name x pos :: es) X.env).map (·.2) = assign (.Name x pos) X.env :: (assignEach es X.env).map (·.2) := by rfl) : SN X (.Name x pos :: es) (i :: is) := ⟨pgs_cons (pg_name hN hi hx hf) k.run hs⟩
theorem ss_parT {ts es : List Expr} {is : List Nat} {f : PF} {n : Nat} {kt k2 : Nat} {pt pt2 pos : Pos} (hc : X.calm = true) (hg : SN X ts is) (h : SP X es f) (hlen : is.length = n) (hz : n ≤ sizeLine) (hn : (assignEach ts X.env).length = n := by rfl) (hst : (assignEach ts X.env).findIdx? (·.1) = none := by rfl)
    (hs : swapsWithSole [.Tuple ts kt pt] (.Tuple es k2 pt2) pos.line X.env = pure false := by rfl) (hw : swappedStores [.Tuple ts kt pt] (.Tuple es k2 pt2) X.env = pure none := by rfl) (h1 : (assignEach [.Tuple ts kt pt] X.env).map (·.2) = [assign (.Tuple ts kt pt) X.env] := by rfl) :
    SS X (.Assign [.Tuple ts kt pt] (.Tuple es k2 pt2) pos) (sPar is f) := by
  obtain ⟨t, hp, ht⟩ := h.run
  refine ⟨_, ps_asg (pe_tup hp) (pg_tup hc hg.run hn hst) hs hw h1, fun W σ H en o en' D hR hf q => ?_⟩
  simp only [sPar, Option.bind_eq_some_iff] at hf
  obtain ⟨⟨r, en1⟩, e1, en2, e2, hf⟩ := hf
  cases hf
  refine ht W σ H en r en1 _ hR e1 fun vs W1 H1 x1 R1 hh => ?_
  have l := hh.length
  have l2 := parSet_length e2
  refine ⟨by rw [l]; simp at l2; omega, fun p hp' => ⟨p, vs, rfl, .of upd_same, by rw [l]; simp at l2; omega, ?_⟩⟩
  refine gNames_run (by simp at l2; omega) ?_
  have R2' : R X.K W1 σ (upd H1 p (.tup vs)) en1 := R1.laid _ hp'
  have hh2 : Held X.K W1 (upd H1 p (.tup vs)) σ en1 vs r := hh.laid hp'
  exact q W1 _ _ x1 (par_set R2' hh2 e2)
end

/-! ### a def by its name -/
structure Cal (P : Program) (w : World) (K : PySem.W.Frag) (mg : Str → Option Value) (base : Heap) (k : Nat) (x : Str) (g : SF) (m n : Nat) (dd : List PyData) : Prop where
  ex : ∃ (f : Addr) (fd : FuncData) (ps : List Str) (ds : List Value) (dvs : List V), ps.length = m ∧ FnG P w K mg base k f fd ps (spF K g ps.length n) ∧ mg x = some (.ref f) ∧ PySem.W.keepIn K (.ref f) = true ∧ Binds K fd ps ds ∧ Vals dvs ds ∧ ∀ F : Hp, DqAll K F dvs dd
theorem se_c {X : Cx} {j k : Nat} {x : Str} {p pos : Pos} {e : Expr} {es : List Expr} {g : SF} {m n : Nat} {dd : List PyData} {ff : AF} (c : Cal X.prog X.w X.K X.mg X.base k x g m n dd) (hr : Room j X.A) (hk : k ≤ j) (hgd : X.A.guards = some []) (hg : Gl X x) (ha : SA X (e :: es) ff)
    (hdb : (x == ("__debug__" : Str)) = false := by decide) (he : starEach (e :: es) X.env = (false, eval e X.env) :: starEach es X.env := by rfl) (hpl : (backTo pos (starEach es X.env)).any (·.1) = false := by rfl) : SE X (.Call (.Name x p) (e :: es) [] pos) (fCall g m n dd ff) := by
  obtain ⟨f, fd, ps, ds, dvs, hm, F, h1, h2, h3, h4, h5⟩ := c.ex
  subst hm
  exact se_call F (hr.mono hk) hgd hg h1 h2 h3 h4 h5 ha hdb he hpl
/-- a def of the text behind the top: its object, its name -/
structure Df (K : PySem.W.Frag) (mg : Str → Option Value) (x : Str) (st : Stmt) (dvs : List V) (f : Addr) (fd : FuncData) : Prop where
  fn : FunD K x x (defArgs st) (defBody st) (defScope st) dvs [] f fd
  mgf : mg x = some (.ref f)
theorem cal_of {P : Program} {w : World} {K : PySem.W.Frag} {mg : Str → Option Value} {base : Heap} {x : Str} {st : Stmt} {f : Addr} {fd : FuncData} {k n m : Nat} {ps : List Str} {g : SF} (D : Df K mg x st [] f fd) (G : FnG P w K mg base k f fd ps (spF K g ps.length n)) (hm : ps.length = m)
    (h : ∀ (kV doc pm : Value) (an : Option Addr) (cdv ct : Value) (us : List Value), us.length = ps.length → bindArgs (PySem.W.fnOf x x (defArgs st) (defBody st) (defScope st) .none kV doc pm an cdv ct) ⟨us, []⟩ = pure (ps.zip us)) : Cal P w K mg base k x g m n [] :=
  ⟨f, fd, ps, [], [], hm, G, D.mgf, D.fn.kp, D.fn.bindsN h, .nil, fun _ => .nil⟩
theorem calD_of {P : Program} {w : World} {K : PySem.W.Frag} {mg : Str → Option Value} {base : Heap} {x : Str} {st : Stmt} {f : Addr} {fd : FuncData} {k n m c j : Nat} {ps : List Str} {g : SF} {dvs : List V} {dd : List PyData} (D : Df K mg x st dvs f fd) (G : FnG P w K mg base k f fd ps (spF K g ps.length n)) (hm : ps.length = m)
    (hd : dvs ≠ []) (hn : c + (dvs.length - j) = ps.length) (hdd : ∀ F : Hp, DqAll K F (dvs.drop j) dd)
    (h : ∀ (T : Addr) (kV doc pm : Value) (an : Option Addr) (cdv ct : Value) (us its : List Value), us.length = c → its.length = dvs.length →
      ∃ k, bindArgs (PySem.W.fnOf x x (defArgs st) (defBody st) (defScope st) (.ref T) kV doc pm an cdv ct) ⟨us, []⟩ = seqItems? (.ref T) >>= k ∧ k (some its.toArray) = pure (ps.zip (us ++ its.drop j))) : Cal P w K mg base k x g m n dd := by
  obtain ⟨ds, h1, h2⟩ := D.fn.binds1 c j hd hn h
  exact ⟨f, fd, ps, ds, _, hm, G, D.mgf, D.fn.kp, h2, h1, hdd⟩
end L2.FL
set_option Elab.async false
set_option linter.all false
set_option maxRecDepth 100000
set_option maxHeartbeats 2000000
/-! FL17: a list unpacked; defs that give a list of their own. -/
namespace L2.FL
open PySem PySem.Spec PyProof.Rows L2

def gUnl' (f : GsF) : GF := fun x en => match x with
  | .list xs => f xs en
  | _ => none
section
variable {X : Cx}
theorem sg_unl {es : List Expr} {k : Nat} {f : GsF} {ws : List Nat} {n : Nat} {pos : Pos} (hc : X.calm = true) (h : SGs X es f ws) (hn : (assignEach es X.env).length = n := by rfl) (hst : (assignEach es X.env).findIdx? (·.1) = none := by rfl)
    (hl : ∀ xs en en', f xs en = some en' → xs.length = n) : SG X (.Tuple es k pos) (gUnl' f) ws := by
  obtain ⟨t, hp, ht⟩ := h.run
  refine ⟨_, pg_unl hc hp hn hst, ⟨fun W σ H en v x en' Q hR hd he q => ?_⟩⟩
  unfold gUnl' at he
  split at he
  · rename_i xs
    cases hd with
    | lst h1 h2 => exact ⟨_, _, rfl, same_rd hR.subF h1, by rw [dpa_length h2]; exact hl _ _ _ he, ht.go W σ H en _ xs en' _ hR h2 he q⟩
  · cases he
end
/-! ### a body that gives a list of its own -/
def SSLt (K : PySem.W.Frag) (t : TS) (h : LF) : Prop := ∀ (W : Wd) (σ : St) (H : Hp) (en : En) (xs : List PyData) (en' : En) (D : Ends), R K W σ H en → h en = some (xs, en') →
  (∀ a ws W' σ' H', Ext W W' → R K W' σ' H' en' → H' a = some (.lst ws) → DqAll K W'.F ws xs → W'.F a = none → W'.G a = none → D.rt (.ref a) H') → t D σ H
structure SSL (X : Cx) (sts : List Stmt) (h : LF) : Prop where
  run : ∃ t, PSs X sts t ∧ SSLt X.K t h
def hSeq (f : SF) (h : LF) : LF := fun en => (f en).bind fun p => match p.1 with
  | .nx => h p.2
  | _ => none
section
variable {X : Cx}
theorem ssl_ret {e : Expr} {f : LF} {pos : Pos} (h : SL X e f) : SSL X [.Return (some e) pos] f := by
  obtain ⟨t, hp, ht⟩ := h.run
  exact ⟨_, pss_one (ps_ret hp), fun W σ H en xs en' D hR hf q => ht W σ H en xs en' _ hR hf fun a ws W1 H1 x1 R1 h1 h2 h3 h4 _ => q a ws W1 σ H1 x1 R1 h1 h2 h3 h4⟩
theorem ssl_cons {st : Stmt} {rest : List Stmt} {f : SF} {h : LF} (a : SS X st f) (b : SSL X rest h) : SSL X (st :: rest) (hSeq f h) := by
  obtain ⟨t, hp, ht⟩ := a.run
  obtain ⟨u, hq, hu⟩ := b.run
  refine ⟨_, pss_cons hp hq, fun W σ H en xs en' D hR hf q => ?_⟩
  simp only [hSeq, Option.bind_eq_some_iff] at hf
  obtain ⟨⟨o, en1⟩, e1, hf⟩ := hf
  simp only at hf
  split at hf
  · exact ht W σ H en _ en1 _ hR e1 fun W1 σ1 H1 x1 R1 => hu W1 σ1 H1 en1 xs en' D R1 hf fun a ws W2 σ2 H2 x2 R2' => q a ws W2 σ2 H2 (x1.trans x2) R2'
  · cases hf
end
def datS (xs : List PyData) : List SV := xs.map .d
theorem outP_dat : ∀ (xs : List PyData) (en : En), outP (datS xs) en = datS xs
  | [], _ => rfl
  | x :: r, en => by
    have := outP_dat r en.tail
    simp only [datS, List.map_cons, outP] at this ⊢
    rw [this]
theorem parsOf_dat : ∀ (xs : List PyData) (vs : List V) (i : Nat), parsOf i (datS xs) vs = []
  | [], vs, i => by cases vs <;> rfl
  | x :: r, [], i => rfl
  | x :: r, v :: vs, i => by
    show parsOf (i + 1) (datS r) vs = []
    exact parsOf_dat r vs (i + 1)
theorem noL_dat : ∀ (xs : List PyData), noL (datS xs) = true
  | [] => rfl
  | x :: r => by
    show noL (datS r) = true
    exact noL_dat r
def spFL (K : PySem.W.Frag) (h : LF) (m n : Nat) : Sp := fun vs H Q _ => ∃ (W : Wd) (args : List PyData) (xs : List PyData) (en' : En), args.length = m ∧ W.P = [] ∧ R K W (vs.map some) H ((datS args).map some) ∧ h ((datS args).map some ++ List.replicate n none) = some (xs, en') ∧
  ∀ a ws W' H', Ext W W' → R K W' (vs.map some) H' ((datS args).map some) → H' a = some (.lst ws) → DqAll K W'.F ws xs → W'.F a = none → W'.G a = none → Q (.ref a) H'
structure CalL (P : Program) (w : World) (K : PySem.W.Frag) (mg : Str → Option Value) (base : Heap) (k : Nat) (x : Str) (h : LF) (m n : Nat) : Prop where
  ex : ∃ (f : Addr) (fd : FuncData) (ps : List Str), ps.length = m ∧ FnG P w K mg base k f fd ps (spFL K h ps.length n) ∧ mg x = some (.ref f) ∧ PySem.W.keepIn K (.ref f) = true ∧ Binds K fd ps []
section
variable {P : Program} {w : World} {K : PySem.W.Frag} {mg : Str → Option Value} {base : Heap}
theorem okL_def {x qual : Str} {params : Arguments} {body : List Stmt} {scope : Scope} {dvs : List V} {kws : List (Str × V)} {f : Addr} {fd : FuncData} {N ps : List Str} {k : Nat} {g : LF} {n : Nat} (F : FunD K x qual params body scope dvs kws f fd) (S : FnScope N ps scope) (hn : N.length = ps.length + n)
    (hbody : ∀ (cdv : Value) (A : Around) (outer : List Env) (s : Shared) (H : Hp) (E : XK), Room k (A.deeper (envOfC qual scope s.heap.objs.size f cdv)) → (A.deeper (envOfC qual scope s.heap.objs.size f cdv)).guards = some [] →
      SSL (cxOf CX0 P w K mg base N qual scope f cdv A outer s H E).nox body g) : FnG P w K mg base (k + 1) f fd ps (spFL K g ps.length n) := by
  obtain ⟨oc, od, dV, kV, doc, pm, an, cdv, ct, osl, rfl, lk, hcd, _, _⟩ := F.ex
  refine fn_ofG lk hcd S (fun vs H Q E h => ?_) fun A outer s H vs Q E hr hg hsp => ?_
  · obtain ⟨W, as, y, as', hl, _, hR, _⟩ := h
    have := hR.len
    simp only [List.length_map, datS] at this
    omega
  · obtain ⟨W, as, xs, en', hl, hP, hR, hf, q⟩ := hsp
    obtain ⟨t, ht, hs⟩ := (hbody cdv A outer s H E hr hg).run
    refine ⟨t, ht.nox, ?_⟩
    have hlen := hR.len
    simp only [List.length_map, datS] at hlen
    have e0 : start N vs = vs.map some ++ List.replicate n none := by
      unfold start
      rw [show N.length - vs.length = n by omega]
    rw [e0]
    refine hs W _ H _ xs en' _ (hR.more n) hf fun a ws W' σ' H' x' R' h1 h2 h3 h4 => ?_
    have Rp := hR.params (by rw [hP, parsOf_dat]) (noL_dat as) x' R'
    rw [outP_dat] at Rp
    exact q a ws W' H' x' Rp h1 h2 h3 h4
theorem calL_of {x : Str} {st : Stmt} {f : Addr} {fd : FuncData} {k n m : Nat} {ps : List Str} {g : LF} (D : Df K mg x st [] f fd) (G : FnG P w K mg base k f fd ps (spFL K g ps.length n)) (hm : ps.length = m)
    (h : ∀ (kV doc pm : Value) (an : Option Addr) (cdv ct : Value) (us : List Value), us.length = ps.length → bindArgs (PySem.W.fnOf x x (defArgs st) (defBody st) (defScope st) .none kV doc pm an cdv ct) ⟨us, []⟩ = pure (ps.zip us)) : CalL P w K mg base k x g m n :=
  ⟨f, fd, ps, hm, G, D.mgf, D.fn.kp, D.fn.bindsN h⟩
end
def noLv (en : En) : Bool := en.all fun o => match o with
  | some (.l _) => false
  | some (.p _) => false
  | _ => true
theorem noLv_live {en : En} (h : noLv en = true) {i : Nat} {xs : List PyData} : live en i ≠ some xs := fun e => by
  have go : ∀ o, en[i]? = some o → (match o with | some (.l _) => false | some (.p _) => false | _ => true) = true := fun o ho => List.all_eq_true.mp h o (List.mem_of_getElem? ho)
  rcases live_of_get e with z | z
  · exact absurd (go _ z) Bool.false_ne_true
  · exact absurd (go _ z) Bool.false_ne_true
def fCallL (h : LF) (m n : Nat) (f : AF) : LF := fun en => (f en).bind fun p => (datL p.1).bind fun xs => if noLv p.2 = true ∧ xs.length = m then (h ((datS xs).map some ++ List.replicate n none)).bind fun r => some (r.1, p.2) else none
theorem dats {K : PySem.W.Frag} {F : Hp} {σ : St} : ∀ {vs : List V} {rs : List RV} {xs : List PyData}, RVals K F σ vs rs → datL rs = some xs → DqAll K F vs xs
  | _, _, _, .nil, e => by cases e; exact .nil
  | _, .d x :: rs, _, .cons h t, e => by
    simp only [datL, Option.bind_eq_some_iff] at e
    obtain ⟨ys, e1, e⟩ := e
    cases e
    exact .cons h (dats t e1)
  | _, .b i :: rs, _, .cons h t, e => by simp [datL] at e
theorem sl_call0 {X : Cx} {j k : Nat} {x : Str} {p pos : Pos} {e : Expr} {es : List Expr} {g : LF} {m n : Nat} {ff : AF} (c : CalL X.prog X.w X.K X.mg X.base k x g m n) (hr : Room j X.A) (hk : k ≤ j) (hgd : X.A.guards = some []) (hg : Gl X x) (ha : SA X (e :: es) ff)
    (hdb : (x == ("__debug__" : Str)) = false := by decide) (he : starEach (e :: es) X.env = (false, eval e X.env) :: starEach es X.env := by rfl) (hpl : (backTo pos (starEach es X.env)).any (·.1) = false := by rfl) : SL X (.Call (.Name x p) (e :: es) [] pos) (fCallL g m n ff) := by
  obtain ⟨f, fd, ps, hm, F, h1, h2, h3⟩ := c.ex
  subst hm
  obtain ⟨t, hp, ht⟩ := ha.run
  refine ⟨_, pe_callG F (hr.mono hk) hgd hg h1 h2 h3 .nil hp hdb he hpl, fun W σ H en zs en' Q hR hf q => ?_⟩
  simp only [fCallL, Option.bind_eq_some_iff] at hf
  obtain ⟨⟨rs, en1⟩, e1, xs, e2, hf⟩ := hf
  simp only at hf
  split at hf
  · rename_i hk2
    obtain ⟨hnl, hlen⟩ := hk2
    simp only [Option.bind_eq_some_iff] at hf
    obtain ⟨⟨ys, en2⟩, e3, hf⟩ := hf
    simp only [Option.some.injEq, Prod.mk.injEq] at hf
    obtain ⟨rfl, rfl⟩ := hf
    refine ht W σ H en rs en1 _ hR e1 fun vs W1 H1 x1 R1 v1 => ?_
    have hd := dats v1 e2
    have ge : ∀ {i : Nat} {s : SV}, ((datS xs).map some)[i]? = some (some s) → ∃ y, s = .d y ∧ xs[i]? = some y := fun {i s} hh => by
      simp only [datS, List.map_map, List.getElem?_map, Option.map_eq_some_iff] at hh
      obtain ⟨y, hy, hz⟩ := hh
      simp only [Function.comp, Option.some.injEq] at hz
      exact ⟨y, hz.symm, hy⟩
    have nol : ∀ {i : Nat} {ws : List PyData}, live ((datS xs).map some) i ≠ some ws := fun {i ws} hh => by
      rcases live_of_get hh with z | z
      · obtain ⟨_, q1, _⟩ := ge z; cases q1
      · obtain ⟨_, q1, _⟩ := ge z; cases q1
    have Rc : R X.K { F := W1.F, G := W1.G, P := [] } ((vs ++ []).map some) H1 ((datS xs).map some) := by
      rw [List.append_nil]
      refine ⟨by simp [datS, dpa_length hd], R1.subF, R1.subG, R1.dis, fun i y hh => ?_, fun i ws hh => absurd hh nol, fun i j a ws us hh => absurd hh nol, (fun q hq => by cases hq)⟩
      obtain ⟨y', q1, q2⟩ := ge hh
      cases q1
      obtain ⟨v, k1, k2⟩ := dpa_get hd q2
      exact ⟨v, by rw [List.getElem?_map, k1]; rfl, k2⟩
    refine ⟨_, xs, ys, en2, hlen, rfl, Rc, e3, fun a ws W2 H2 x2 R2' k1 k2 k3 k4 => ?_⟩
    have Rf : R X.K { F := W2.F, G := W1.G, P := W1.P } σ H2 en1 := by
      refine ⟨R1.len, R2'.subF, fun a o h => R2'.subG a o (by rw [x2.G]; exact h), fun a o h => by have := R2'.dis a o h; rw [x2.G] at this; exact this, fun i y hh => ?_, fun i us hh => absurd hh (noLv_live hnl), fun i j a us ws hh => absurd hh (noLv_live hnl), fun u hu => ?_⟩
      · obtain ⟨v, g1, g2⟩ := R1.dat i y hh
        exact ⟨v, g1, dp_mono x2.F _ _ g2⟩
      · obtain ⟨_, us, hh⟩ := R1.par u hu
        exact absurd (live_p hh) (noLv_live hnl)
    exact q a ws { F := W2.F, G := W1.G, P := W1.P } H2 (x1.trans ⟨x2.F, rfl, rfl⟩) Rf k1 k2 k3 (by rw [x2.G] at k4; exact k4) fun i us hh => absurd hh (noLv_live hnl)
  · cases hf
end L2.FL
set_option Elab.async false
set_option linter.all false
set_option maxRecDepth 100000
set_option maxHeartbeats 2000000
/-! FL18: how the readings reckon. -/
namespace L2.FL
open PySem PySem.Spec PyProof.Rows L2

section
variable {i m n : Nat} {en : En} {x y : PyData} {xs ys : List PyData} {f g h : EF} {l l' : LF} {c c' : TF} {a b : SF} {q : AF} {o o' : PyData → PyData → Option PyData} {o1 : PyData → Option PyData} {oL : List PyData → Option PyData} {p : PF} {w : OF} {t : GF} {ts : GsF} {it : IF}
@[simp] theorem x_fVar : fVar i en = (match en[i]? with
  | some (some (.d x)) => some (.d x, en)
  | some (some (.l _)) => some (.b i, en)
  | some (some (.p _)) => some (.b i, en)
  | _ => none) := rfl
@[simp] theorem x_fFrz : fFrz i en = (match en[i]? with
  | some (some (.l xs)) => some (.d (.list xs), en.set i (some (.d (.list xs))))
  | some (some (.d x)) => some (.d x, en)
  | _ => none) := rfl
@[simp] theorem x_fC : fC x en = some (.d x, en) := rfl
@[simp] theorem x_fOfL : fOfL l en = (l en).bind fun p => some (.d (.list p.1), p.2) := rfl
@[simp] theorem x_f1 : f1 o1 f en = (f en).bind fun p => (res p.2 p.1).bind fun x => (o1 x).bind fun z => some (.d z, p.2) := rfl
@[simp] theorem x_f2 : f2 o f g en = (f en).bind fun p => (g p.2).bind fun q => (res q.2 p.1).bind fun x => (res q.2 q.1).bind fun y => (o x y).bind fun z => some (.d z, q.2) := rfl
@[simp] theorem x_fNil : fNil en = some ([], en) := rfl
@[simp] theorem x_fCons : fCons f q en = (f en).bind fun p => (q p.2).bind fun q => some (p.1 :: q.1, q.2) := rfl
@[simp] theorem x_fB : fB oL q en = (q en).bind fun p => (resL p.2 p.1).bind fun xs => (oL xs).bind fun z => some (.d z, p.2) := rfl
@[simp] theorem x_fTup : fTup q en = (q en).bind fun p => (datL p.1).bind fun xs => if xs.length ≤ sizeLine then some (.d (.tuple xs), p.2) else none := rfl
@[simp] theorem x_fLst : fLst q en = (q en).bind fun p => (datL p.1).bind fun xs => if xs.length ≤ sizeLine then some (xs, p.2) else none := rfl
@[simp] theorem x_fBool : fBool f en = (f en).bind fun p => (res p.2 p.1).bind fun x => match x with
  | .bool b => some (b, p.2)
  | _ => none := rfl
@[simp] theorem x_fTru : fTru f en = (f en).bind fun p => (res p.2 p.1).bind fun x => (tru x).bind fun b => some (b, p.2) := rfl
@[simp] theorem x_fAnd : fAnd c c' en = (c en).bind fun p => if p.1 = true then c' p.2 else some (false, p.2) := rfl
@[simp] theorem x_fOr : fOr c c' en = (c en).bind fun p => if p.1 = true then some (true, p.2) else c' p.2 := rfl
@[simp] theorem x_fNot : fNot c en = (c en).bind fun p => some (!p.1, p.2) := rfl
@[simp] theorem x_fIfE : fIfE c f g en = (c en).bind fun p => if p.1 = true then f p.2 else g p.2 := rfl
@[simp] theorem x_fNotT : fNotT f en = (f en).bind fun p => (res p.2 p.1).bind fun x => (tru x).bind fun b => some (.d (.bool !b), p.2) := rfl
@[simp] theorem x_fOrT : fOrT f g en = (f en).bind fun p => (res p.2 p.1).bind fun x => (tru x).bind fun b => if b = true then some p else g p.2 := rfl
@[simp] theorem x_fAndT : fAndT f g en = (f en).bind fun p => (res p.2 p.1).bind fun x => (tru x).bind fun b => if b = true then g p.2 else some p := rfl
@[simp] theorem x_fIsN : fIsN f en = (f en).bind fun p => (res p.2 p.1).bind fun x => some (.d (.bool (isN x)), p.2) := rfl
@[simp] theorem x_fNotN : fNotN f en = (f en).bind fun p => (res p.2 p.1).bind fun x => some (.d (.bool (!isN x)), p.2) := rfl
@[simp] theorem x_fChain : fChain o o' f g h en = (f en).bind fun p => (g p.2).bind fun q => (res q.2 p.1).bind fun x => (res q.2 q.1).bind fun y => (o x y).bind fun z => match z with
  | .bool true => (h q.2).bind fun s => (res s.2 q.1).bind fun y' => (res s.2 s.1).bind fun u => (o' y' u).bind fun t => some (.d t, s.2)
  | .bool false => some (.d (.bool false), q.2)
  | _ => none := rfl
@[simp] theorem x_fYes : fYes en = some (true, en) := rfl
@[simp] theorem x_fNoPart : fNoPart en = some (none, en) := rfl
@[simp] theorem x_fPart : fPart f en = (f en).bind fun p => match p.1 with
  | .d (.int i) => some (some i, p.2)
  | _ => none := rfl
@[simp] theorem x_fSl {w w' : OF} : fSl f w w' en = (f en).bind fun p => (w p.2).bind fun q => (w' q.2).bind fun r => (res r.2 p.1).bind fun x => match x with
  | .tuple xs => some (.d (.tuple (cutD xs q.1 r.1)), r.2)
  | .list xs => some (.d (.list (cutD xs q.1 r.1)), r.2)
  | .str z => if z.length ≤ sizeLine then some (.d (.str (cutS z q.1 r.1)), r.2) else none
  | _ => none := rfl
@[simp] theorem x_fBL {oo : List PyData → Option (List PyData)} : fBL oo q en = (q en).bind fun p => (resL p.2 p.1).bind fun xs => (oo xs).bind fun zs => some (zs, p.2) := rfl
@[simp] theorem x_fMethL : fMethL o f g en = (f en).bind fun p => (res p.2 p.1).bind fun x0 => if isLst x0 = true then (g p.2).bind fun q => (res q.2 p.1).bind fun x => (res q.2 q.1).bind fun y => (o x y).bind fun z => some (.d z, q.2) else none := rfl
@[simp] theorem x_gSet : gSet i x en = if open_ en i then some (en.set i (some (.d x))) else none := rfl
@[simp] theorem x_gNil : gNil' [] en = some en := rfl
@[simp] theorem x_gCons : gCons' t ts (x :: xs) en = (t x en).bind fun en1 => ts xs en1 := rfl
@[simp] theorem x_gTup : gTup' ts (.tuple xs) en = ts xs en := rfl
@[simp] theorem x_gUnl : gUnl' ts (.list xs) en = ts xs en := rfl
@[simp] theorem x_gIx : gIx i f y en = (live en i).bind fun _ => (f en).bind fun q => (asInt q.1).bind fun k => (live q.2 i).bind fun xs => (ixN xs.length k).bind fun j => some (putL q.2 i (xs.set j y)) := rfl
@[simp] theorem x_sNil : sNil en = some (.nx, en) := rfl
@[simp] theorem x_sSeq : sSeq a b en = (a en).bind fun p => match p.1 with
  | .nx => b p.2
  | o => some (o, p.2) := rfl
@[simp] theorem x_sIf : sIf c a b en = (c en).bind fun p => if p.1 = true then a p.2 else b p.2 := rfl
@[simp] theorem x_sRet : sRet f en = (f en).bind fun p => match p.1 with
  | .d x => some (.rt x, p.2)
  | _ => none := rfl
@[simp] theorem x_sRetN : sRetN en = some (.rt .none, en) := rfl
@[simp] theorem x_sDrop : sDrop f en = (f en).bind fun p => some (.nx, p.2) := rfl
@[simp] theorem x_sAsg : sAsg t f en = (f en).bind fun p => match p.1 with
  | .d x => (t x p.2).bind fun en' => some (.nx, en')
  | _ => none := rfl
@[simp] theorem x_sAsgL : sAsgL i l en = (l en).bind fun p => if open_ p.2 i then some (.nx, p.2.set i (some (.l p.1))) else none := rfl
@[simp] theorem x_sNever : sNever en = none := rfl
@[simp] theorem x_sBreak : sBreak en = some (.bk, en) := rfl
@[simp] theorem x_sCont : sCont en = some (.ct, en) := rfl
@[simp] theorem x_sAug : sAug i o f en = (match en[i]? with
  | some (some (.d x)) => (f en).bind fun p => (res p.2 p.1).bind fun y => (o x y).bind fun z => if open_ p.2 i then some (.nx, p.2.set i (some (.d z))) else none
  | _ => none) := rfl
@[simp] theorem x_sFor : sFor it t b en = (it en).bind fun p => forL t b p.1 p.2 := rfl
@[simp] theorem x_sApp : sApp i f en = (live en i).bind fun _ => (f en).bind fun p => match p.1 with
  | .d y => (live p.2 i).bind fun xs => if xs.length < sizeLine then some (.nx, putL p.2 i (xs ++ [y])) else none
  | _ => none := rfl
@[simp] theorem x_sSetIx : sSetIx i f g en = (g en).bind fun p => match p.1 with
  | .d y => (live p.2 i).bind fun _ => (f p.2).bind fun q => (asInt q.1).bind fun k => (live q.2 i).bind fun xs => (ixN xs.length k).bind fun j => some (.nx, putL q.2 i (xs.set j y))
  | _ => none := rfl
@[simp] theorem x_pNil : pNil en = some ([], en) := rfl
@[simp] theorem x_pE : pE f p en = (f en).bind fun u => match u.1 with
  | .d x => (p u.2).bind fun q => some (.d x :: q.1, q.2)
  | _ => none := rfl
@[simp] theorem x_pL : pL l p en = (l en).bind fun u => (p u.2).bind fun q => some (.l u.1 :: q.1, q.2) := rfl
@[simp] theorem x_sPar {is : List Nat} : sPar is p en = (p en).bind fun u => (parSet is u.1 u.2).bind fun en' => some (.nx, en') := rfl
@[simp] theorem x_fSeq : fSeq f en = (f en).bind fun p => match p.1 with
  | .d x => (itSeq x).bind fun xs => some (xs, p.2)
  | _ => none := rfl
@[simp] theorem x_fEnum : fEnum f en = (f en).bind fun p => (itLT p.1).bind fun q => some (enumD 0 q.2, p.2) := rfl
@[simp] theorem x_fZip : fZip f g en = (f en).bind fun p => (g p.2).bind fun q => (itLT p.1).bind fun a => (itLT q.1).bind fun b => if a.1 = b.1 then some (zipD a.2 b.2, q.2) else none := rfl
@[simp] theorem x_fRng1 : fRng1 f en = (f en).bind fun p => (asInt p.1).bind fun n => if RngOk n then some (rngL 0 n.toNat, p.2) else none := rfl
@[simp] theorem x_fRng2 : fRng2 f g en = (f en).bind fun p => (asInt p.1).bind fun a => (g p.2).bind fun q => (asInt q.1).bind fun b =>
  if RngOk a ∧ RngOk b then some (rngL a (b - a).toNat, q.2) else none := rfl
@[simp] theorem x_fCall {gg : SF} {dd : List PyData} : fCall gg m n dd q en = (q en).bind fun p => (argsOf p.2 p.1).bind fun as => if (bors p.1).Nodup ∧ as.length + dd.length = m then
    (fcall gg n (as ++ dd.map .d)).bind fun r => some (.d r.1, putBack p.2 p.1 r.2) else none := rfl
@[simp] theorem x_fCallL : fCallL l m n q en = (q en).bind fun p => (datL p.1).bind fun xs => if noLv p.2 = true ∧ xs.length = m then (l ((datS xs).map some ++ List.replicate n none)).bind fun r => some (r.1, p.2) else none := rfl
@[simp] theorem x_hSeq : hSeq a l en = (a en).bind fun p => match p.1 with
  | .nx => l p.2
  | _ => none := rfl
@[simp] theorem x_sWhile : sWhile c a en = whileF c a fuel en := rfl
@[simp] theorem x_resd : res en (.d x) = some x := rfl
@[simp] theorem x_resb : res en (.b i) = (live en i).map .list := rfl
@[simp] theorem x_resL0 : resL en [] = some [] := rfl
@[simp] theorem x_datL0 : datL [] = some [] := rfl
@[simp] theorem x_datL1 {rs : List RV} : datL (.d x :: rs) = (datL rs).bind fun xs => some (x :: xs) := rfl
@[simp] theorem x_argsOf0 : argsOf en [] = some [] := rfl
@[simp] theorem x_argsOf1 {rs : List RV} : argsOf en (.d x :: rs) = (argsOf en rs).bind fun as => some (.d x :: as) := rfl
@[simp] theorem x_argsOf2 {rs : List RV} : argsOf en (.b i :: rs) = (live en i).bind fun xs => (argsOf en rs).bind fun as => some (.p xs :: as) := rfl
@[simp] theorem x_bors0 : bors [] = [] := rfl
@[simp] theorem x_bors1 {rs : List RV} : bors (.d x :: rs) = bors rs := rfl
@[simp] theorem x_bors2 {rs : List RV} : bors (.b i :: rs) = i :: bors rs := rfl
@[simp] theorem x_putBack0 {as : List SV} : putBack en [] as = en := rfl
theorem x_putBackN {rs : List RV} : putBack en rs [] = en := by
  cases rs with
  | nil => rfl
  | cons r rs => cases r <;> rfl
@[simp] theorem x_putBack1 {rs : List RV} {as : List SV} : putBack en (.d x :: rs) as = putBack en rs as.tail := by
  cases as with
  | nil => rw [List.tail_nil, x_putBackN, x_putBackN]
  | cons s as => cases s <;> rfl
@[simp] theorem x_putBack2 {rs : List RV} {as : List SV} : putBack en (.b i :: rs) (.p ys :: as) = putBack (putL en i ys) rs as := rfl
@[simp] theorem x_outP0 : outP [] en = [] := rfl
@[simp] theorem x_outP1 {r : List SV} : outP (.d x :: r) en = .d x :: outP r en.tail := rfl
@[simp] theorem x_outP2 {r : List SV} {s : En} : outP (.p xs :: r) (some (.p ys) :: s) = .p ys :: outP r s := rfl
@[simp] theorem x_asInt {k : Int} : asInt (.d (.int k)) = some k := rfl
@[simp] theorem x_itL : itLT (.d (.list xs)) = some (false, xs) := rfl
@[simp] theorem x_itT : itLT (.d (.tuple xs)) = some (true, xs) := rfl
@[simp] theorem x_itS1 : itSeq (.list xs) = some xs := rfl
@[simp] theorem x_itS2 : itSeq (.tuple xs) = some xs := rfl
@[simp] theorem x_parSet0 : parSet [] [] en = some en := rfl
@[simp] theorem x_parSet1 {is : List Nat} {r : List PV} : parSet (i :: is) (.d x :: r) en = if open_ en i then parSet is r (en.set i (some (.d x))) else none := rfl
@[simp] theorem x_parSet2 {is : List Nat} {r : List PV} : parSet (i :: is) (.l xs :: r) en = if open_ en i then parSet is r (en.set i (some (.l xs))) else none := rfl
@[simp] theorem x_forL0 : forL t b [] en = some (.nx, en) := rfl
@[simp] theorem x_forL1 : forL t b (x :: xs) en = (t x en).bind fun en1 => (b en1).bind fun p => match p.1 with
    | .nx => forL t b xs p.2
    | .ct => forL t b xs p.2
    | .bk => some (.nx, p.2)
    | .rt y => some (.rt y, p.2) := rfl
@[simp] theorem x_backE0 {e e' : En} : backE e e' [] = e' := rfl
@[simp] theorem x_backE1 {e e' : En} {v : Nat} {vs : List Nat} : backE e e' (v :: vs) = (backE e e' vs).set v ((e[v]?).getD none) := rfl
@[simp] theorem x_wipeE0 : wipeE en [] = en := rfl
@[simp] theorem x_wipeE1 {v : Nat} {vs : List Nat} : wipeE en (v :: vs) = (wipeE en vs).set v none := rfl
end
@[simp] theorem x_resL1 {en : En} {r : RV} {rs : List RV} : resL en (r :: rs) = (res en r).bind fun x => (resL en rs).bind fun xs => some (x :: xs) := rfl
theorem small_size {n : Nat} (h : n ≤ 1000000) : n ≤ sizeLine := by
  have := sizeLine_eq
  omega
theorem small_size' {n : Nat} (h : n < 1000000) : n < sizeLine := by
  have := sizeLine_eq
  omega
/-- abs -/
def ab (x : Int) : Int := if x < 0 then -x else x
theorem ab_nonneg (x : Int) : 0 ≤ ab x := by unfold ab; split <;> omega
theorem ab_of (x : Int) : (0 ≤ x ∧ ab x = x) ∨ (x < 0 ∧ ab x = -x) := by unfold ab; split <;> omega
@[simp] theorem sz_eq : sizeLine = 16777216 := sizeLine_eq
/-! operators over numbers -/
section
variable {i j : Int}
@[simp] theorem o_add : oAdd (.int i) (.int j) = some (.int (i + j)) := rfl
@[simp] theorem o_sub : oSub (.int i) (.int j) = some (.int (i - j)) := rfl
@[simp] theorem o_neg : oNeg (.int i) = some (.int (-i)) := rfl
theorem o_mulR (h : -18446744073709551616 < j) (h2 : j < 18446744073709551616) : oMul (.int i) (.int j) = some (.int (i * j)) := if_pos (MulOk.r h h2)
theorem o_mulL (h : -18446744073709551616 < i) (h2 : i < 18446744073709551616) : oMul (.int i) (.int j) = some (.int (i * j)) := if_pos (MulOk.l h h2)
theorem o_div (h : 0 < j) (h2 : j < 18446744073709551616) : oDiv (.int i) (.int j) = some (.int (i / j)) := if_pos (DivOk.of h h2)
theorem o_mod (h : 0 < j) : oMod (.int i) (.int j) = some (.int (i % j)) := if_pos h
@[simp] theorem o_lt : oLt (.int i) (.int j) = some (.bool (decide (i < j))) := rfl
@[simp] theorem o_gt : oGt (.int i) (.int j) = some (.bool (decide (j < i))) := rfl
@[simp] theorem o_le : oLe (.int i) (.int j) = some (.bool (decide (i ≤ j))) := rfl
@[simp] theorem o_ge : oGe (.int i) (.int j) = some (.bool (decide (j ≤ i))) := rfl
@[simp] theorem o_eq : oEq (.int i) (.int j) = some (.bool (decide (i = j))) := by
  simp only [oEq, okd, PyData.plain, PyData.depth, PyData.eqv]
  rfl
@[simp] theorem o_ne : oNe (.int i) (.int j) = some (.bool (decide (i ≠ j))) := by
  simp only [oNe, okd, PyData.plain, PyData.depth, PyData.eqv]
  simp
  rfl
@[simp] theorem o_len1 {xs : List PyData} : oLen [.list xs] = some (.int xs.length) := rfl
@[simp] theorem o_len2 {xs : List PyData} : oLen [.tuple xs] = some (.int xs.length) := rfl
@[simp] theorem o_abs : oAbs [.int i] = some (.int (ab i)) := rfl
@[simp] theorem o_int : oInt [.int i] = some (.int i) := rfl
@[simp] theorem o_tuple1 {xs : List PyData} : oTuple [.list xs] = some (.tuple xs) := rfl
@[simp] theorem o_tuple2 {xs : List PyData} : oTuple [.tuple xs] = some (.tuple xs) := rfl
@[simp] theorem o_list1 {xs : List PyData} : oListOf [.list xs] = some xs := rfl
@[simp] theorem o_list2 {xs : List PyData} : oListOf [.tuple xs] = some xs := rfl
@[simp] theorem o_min2 : oMin [.int i, .int j] = some (.int (min i j)) := by
  show some (PyData.int (if j < i then j else i)) = _
  split
  · rw [Int.min_eq_right (by omega)]
  · rw [Int.min_eq_left (by omega)]
@[simp] theorem o_max2 : oMax [.int i, .int j] = some (.int (max i j)) := by
  show some (PyData.int (if j > i then j else i)) = _
  split
  · rw [Int.max_eq_right (by omega)]
  · rw [Int.max_eq_left (by omega)]
@[simp] theorem o_tru1 {b : Bool} : tru (.bool b) = some b := rfl
@[simp] theorem o_tru2 : tru (.int i) = some (i != 0) := rfl
@[simp] theorem o_tru3 {xs : List PyData} : tru (.list xs) = some (!xs.isEmpty) := rfl
@[simp] theorem o_tru4 {xs : List PyData} : tru (.tuple xs) = some (!xs.isEmpty) := rfl
@[simp] theorem o_tru5 : tru .none = some false := rfl
@[simp] theorem o_isN1 : isN .none = true := rfl
@[simp] theorem o_isN2 {b : Bool} : isN (.bool b) = false := rfl
@[simp] theorem o_isN3 : isN (.int i) = false := rfl
@[simp] theorem o_isN4 {xs : List PyData} : isN (.list xs) = false := rfl
@[simp] theorem o_isN5 {xs : List PyData} : isN (.tuple xs) = false := rfl
@[simp] theorem o_isLst {xs : List PyData} : isLst (.list xs) = true := rfl
theorem kind_of {T : String} {x : PyData} {b : Bool} (h : kitB (tyOf x) T = some b) : isKind T x = some (.bool b) := by
  unfold isKind
  rw [h]
@[simp] theorem k_int1 : isKind "int" (.int i) = some (.bool true) := kind_of (show kitB "int" "int" = some true by decide +kernel)
@[simp] theorem k_int2 : isKind "bool" (.int i) = some (.bool false) := kind_of (show kitB "int" "bool" = some false by decide +kernel)
@[simp] theorem k_int3 : isKind "tuple" (.int i) = some (.bool false) := kind_of (show kitB "int" "tuple" = some false by decide +kernel)
@[simp] theorem k_tup1 {xs : List PyData} : isKind "tuple" (.tuple xs) = some (.bool true) := kind_of (show kitB "tuple" "tuple" = some true by decide +kernel)
@[simp] theorem k_tup2 {xs : List PyData} : isKind "int" (.tuple xs) = some (.bool false) := kind_of (show kitB "tuple" "int" = some false by decide +kernel)
@[simp] theorem k_lst1 {xs : List PyData} : isKind "list" (.list xs) = some (.bool true) := kind_of (show kitB "list" "list" = some true by decide +kernel)
@[simp] theorem o_ix1 {xs : List PyData} : oIx (.list xs) (.int i) = atI xs i := rfl
@[simp] theorem o_ix2 {xs : List PyData} : oIx (.tuple xs) (.int i) = atI xs i := rfl
theorem o_cat {xs ys : List PyData} (h : xs.length + ys.length ≤ 1000000) : oAdd (.tuple xs) (.tuple ys) = some (.tuple (xs ++ ys)) := if_pos (small_size h)
theorem o_catL {xs ys : List PyData} (h : xs.length + ys.length ≤ 1000000) : oAdd (.list xs) (.list ys) = some (.list (xs ++ ys)) := if_pos (small_size h)
end
@[simp] theorem at0 {α : Type} {a : α} {l : List α} : atI (a :: l) 0 = some a := by
  unfold atI ixN
  rw [if_pos (by decide), if_pos (by simp only [List.length_cons]; omega)]
  rfl
@[simp] theorem at1 {α : Type} {a b : α} {l : List α} : atI (a :: b :: l) 1 = some b := by
  unfold atI ixN
  rw [if_pos (by decide), if_pos (by simp only [List.length_cons]; omega)]
  rfl
@[simp] theorem at2 {α : Type} {a b c : α} {l : List α} : atI (a :: b :: c :: l) 2 = some c := by
  unfold atI ixN
  rw [if_pos (by decide), if_pos (by simp only [List.length_cons]; omega)]
  rfl
@[simp] theorem at3 {α : Type} {a b c d : α} {l : List α} : atI (a :: b :: c :: d :: l) 3 = some d := by
  unfold atI ixN
  rw [if_pos (by decide), if_pos (by simp only [List.length_cons]; omega)]
  rfl
@[simp] theorem at4 {α : Type} {a b c d e : α} {l : List α} : atI (a :: b :: c :: d :: e :: l) 4 = some e := by
  unfold atI ixN
  rw [if_pos (by decide), if_pos (by simp only [List.length_cons]; omega)]
  rfl
@[simp] theorem at5 {α : Type} {a b c d e f : α} {l : List α} : atI (a :: b :: c :: d :: e :: f :: l) 5 = some f := by
  unfold atI ixN
  rw [if_pos (by decide), if_pos (by simp only [List.length_cons]; omega)]
  rfl
@[simp] theorem at6 {α : Type} {a b c d e f g : α} {l : List α} : atI (a :: b :: c :: d :: e :: f :: g :: l) 6 = some g := by
  unfold atI ixN
  rw [if_pos (by decide), if_pos (by simp only [List.length_cons]; omega)]
  rfl
/-! ### loops -/
/-- a loop that changes no more than its own names -/
theorem forL_spec {g : GF} {b : SF} (I : En → Prop) (r : PyData → Option PyData) : ∀ {xs : List PyData} {en : En}, (∀ x ∈ xs, ∀ en, I en → ∃ en2, ((g x en).bind b) = some ((match r x with | some y => .rt y | none => .nx), en2) ∧ I en2) → I en →
    ∃ en', forL g b xs en = some ((match xs.findSome? r with | some y => .rt y | none => .nx), en') ∧ I en'
  | [], en, _, hi => ⟨en, rfl, hi⟩
  | x :: xs, en, h, hi => by
    obtain ⟨en2, e1, h2⟩ := h x (by simp) en hi
    obtain ⟨en1, e3, e4⟩ := Option.bind_eq_some_iff.mp e1
    rw [x_forL1, e3, Option.bind_some, e4, Option.bind_some, List.findSome?_cons]
    cases hr : r x with
    | some y => exact ⟨en2, rfl, h2⟩
    | none =>
      obtain ⟨en', e5, h5⟩ := forL_spec I r (xs := xs) (en := en2) (fun x hx => h x (by simp [hx])) h2
      exact ⟨en', e5, h5⟩
/-- a loop that goes on to its end, or leaves by a value -/
theorem forL_inv {g : GF} {b : SF} {I : Nat → En → Prop} {Post : Out → En → Prop} : ∀ {xs : List PyData} {k : Nat} {en : En}, (∀ i x en, xs[i]? = some x → I (k + i) en → ∃ o en2, ((g x en).bind b) = some (o, en2) ∧ (((o = .nx ∨ o = .ct) ∧ I (k + i + 1) en2) ∨ (o = .bk ∧ Post .nx en2) ∨ ∃ y, o = .rt y ∧ Post (.rt y) en2)) →
    (∀ en, I (k + xs.length) en → Post .nx en) → I k en → ∃ o en', forL g b xs en = some (o, en') ∧ Post o en'
  | [], k, en, _, hp, hi => ⟨.nx, en, rfl, hp en (by simpa using hi)⟩
  | x :: xs, k, en, h, hp, hi => by
    obtain ⟨o, en2, e1, h2⟩ := h 0 x en rfl (by simpa using hi)
    obtain ⟨en1, e3, e4⟩ := Option.bind_eq_some_iff.mp e1
    rw [x_forL1, e3, Option.bind_some, e4, Option.bind_some]
    have rest : I (k + 1) en2 → ∃ o en', forL g b xs en2 = some (o, en') ∧ Post o en' := fun hi2 =>
      forL_inv (k := k + 1) (fun i y en hy hI => by
        have := h (i + 1) y en (by simpa using hy) (by rw [show k + (i + 1) = k + 1 + i by omega]; exact hI)
        rwa [show k + (i + 1) + 1 = k + 1 + i + 1 by omega] at this) (fun en he => hp en (by rw [List.length_cons, show k + (xs.length + 1) = k + 1 + xs.length by omega]; exact he)) hi2
    rcases h2 with ⟨rfl | rfl, h2⟩ | ⟨rfl, h2⟩ | ⟨y, rfl, h2⟩
    · exact rest (by simpa using h2)
    · exact rest (by simpa using h2)
    · exact ⟨_, _, rfl, h2⟩
    · exact ⟨_, _, rfl, h2⟩
theorem whileF_inv {c : TF} {b : SF} {I : Nat → En → Prop} {Post : Out → En → Prop} (h : ∀ m en, I m en → ∃ t en1, c en = some (t, en1) ∧ if t = true then ∃ o en2, b en1 = some (o, en2) ∧ (((o = .nx ∨ o = .ct) ∧ ∃ m', m' < m ∧ I m' en2) ∨ (o = .bk ∧ Post .nx en2) ∨ ∃ y, o = .rt y ∧ Post (.rt y) en2) else Post .nx en1) :
    ∀ (n m : Nat) (en : En), m < n → I m en → ∃ o en', whileF c b n en = some (o, en') ∧ Post o en'
  | 0, m, en, hm, _ => absurd hm (Nat.not_lt_zero _)
  | n + 1, m, en, hm, hi => by
    obtain ⟨t, en1, e1, h1⟩ := h m en hi
    show ∃ o en', ((c en).bind fun p => if p.1 = true then (b p.2).bind fun q => match q.1 with
      | .nx => whileF c b n q.2
      | .ct => whileF c b n q.2
      | .bk => some (.nx, q.2)
      | .rt y => some (.rt y, q.2)
      else some (.nx, p.2)) = some (o, en') ∧ Post o en'
    rw [e1, Option.bind_some]
    cases t with
    | false => exact ⟨_, _, rfl, h1⟩
    | true =>
      simp only [if_true] at h1 ⊢
      obtain ⟨o, en2, e2, h2⟩ := h1
      rw [e2, Option.bind_some]
      rcases h2 with ⟨rfl | rfl, m', hm', h2⟩ | ⟨rfl, h2⟩ | ⟨y, rfl, h2⟩
      · exact whileF_inv h n m' en2 (by omega) h2
      · exact whileF_inv h n m' en2 (by omega) h2
      · exact ⟨_, _, rfl, h2⟩
      · exact ⟨_, _, rfl, h2⟩
/-! ### comprehensions -/
def lcStep (g : GF) (tt : TF) (te : EF) (vs : List Nat) (x : PyData) (en : En) : Option (Option PyData × En) := (g x en).bind fun en1 => (tt en1).bind fun p => if p.1 = true then (te p.2).bind fun q => match q.1 with
      | .d y => some (some y, wipeE q.2 vs)
      | _ => none
    else some (none, wipeE p.2 vs)
theorem lcL_step {g : GF} {tt : TF} {te : EF} {vs : List Nat} {x : PyData} {xs : List PyData} {en en1 : En} {o : Option PyData} (h : lcStep g tt te vs x en = some (o, en1)) :
    lcL g tt te vs (x :: xs) en = (lcL g tt te vs xs en1).bind fun r => some (o.toList ++ r.1, r.2) := by
  simp only [lcStep, Option.bind_eq_some_iff] at h
  obtain ⟨e1, h1, ⟨b, e2⟩, h2, h⟩ := h
  simp only [lcL, h1, h2, Option.bind_some]
  cases b with
  | true =>
    simp only [if_true, Option.bind_eq_some_iff] at h ⊢
    obtain ⟨⟨c, e3⟩, h3, h⟩ := h
    rw [h3, Option.bind_some]
    cases c with
    | d y => cases h; rfl
    | b i => cases h
  | false =>
    simp only [Bool.false_eq_true, if_false] at h ⊢
    cases h
    cases lcL g tt te vs xs (wipeE e2 vs) with
    | none => rfl
    | some r => rfl
theorem lcL_pure {g : GF} {tt : TF} {te : EF} {vs : List Nat} (F : PyData → Option PyData) : ∀ {xs : List PyData} {en : En}, (∀ x ∈ xs, lcStep g tt te vs x en = some (F x, en)) → lcL g tt te vs xs en = some (xs.filterMap F, en)
  | [], en, _ => rfl
  | x :: xs, en, h => by
    rw [lcL_step (h x (by simp)), lcL_pure F (fun y hy => h y (by simp [hy]))]
    cases hF : F x with
    | none => simp [hF]
    | some y => simp [hF]
theorem fLc_pure {it : IF} {g : GF} {tt : TF} {te : EF} {vs : List Nat} {en en1 : En} {xs : List PyData} (F : PyData → Option PyData) (h1 : it en = some (xs, en1)) (h2 : xs.length ≤ 1000000) (h3 : vs.all (plainAt en1) = true) (h : ∀ x ∈ xs, lcStep g tt te vs x (wipeE en1 vs) = some (F x, wipeE en1 vs)) :
    fLc it g tt te vs en = some (xs.filterMap F, backE en1 (wipeE en1 vs) vs) := by
  simp only [fLc, h1, Option.bind_some, lcL_pure F h]
  rw [if_pos ⟨small_size h2, h3⟩]
theorem fmap_ints {p : Int → Bool} {f : Int → PyData} {F : PyData → Option PyData} : ∀ {ns : List Int}, (∀ n ∈ ns, F (.int n) = if p n = true then some (f n) else none) → (ns.map PyData.int).filterMap F = (ns.filter p).map f
  | [], _ => rfl
  | n :: ns, h => by
    have ih := fmap_ints (p := p) (f := f) (F := F) (ns := ns) fun m hm => h m (by simp [hm])
    rw [List.map_cons, List.filterMap_cons, h n (by simp), List.filter_cons]
    by_cases hp : p n = true
    · simp [hp, ih]
    · simp [hp, ih]
/-- over numbers: those with p, through f -/
theorem fLc_ints {it : IF} {g : GF} {tt : TF} {te : EF} {vs : List Nat} {en en1 : En} {ns : List Int} (p : Int → Bool) (f : Int → PyData) (h1 : it en = some (ns.map .int, en1)) (h2 : ns.length ≤ 1000000) (h3 : vs.all (plainAt en1) = true)
    (h : ∀ n ∈ ns, lcStep g tt te vs (.int n) (wipeE en1 vs) = some (if p n = true then some (f n) else none, wipeE en1 vs)) :
    fLc it g tt te vs en = some ((ns.filter p).map f, backE en1 (wipeE en1 vs) vs) := by
  rw [fLc_pure (fun x => match x with | .int n => if p n = true then some (f n) else none | _ => none) h1 (by simpa using h2) h3 (fun x hx => ?_)]
  · rw [fmap_ints fun n _ => rfl]
  · obtain ⟨n, hn, rfl⟩ := List.mem_map.mp hx
    exact h n hn
/-- over numbers: all of them, through f -/
theorem fLc_imap {it : IF} {g : GF} {tt : TF} {te : EF} {vs : List Nat} {en en1 : En} {ns : List Int} (f : Int → PyData) (h1 : it en = some (ns.map .int, en1)) (h2 : ns.length ≤ 1000000) (h3 : vs.all (plainAt en1) = true)
    (h : ∀ n ∈ ns, lcStep g tt te vs (.int n) (wipeE en1 vs) = some (some (f n), wipeE en1 vs)) :
    fLc it g tt te vs en = some (ns.map f, backE en1 (wipeE en1 vs) vs) := by
  rw [fLc_ints (fun _ => true) f h1 h2 h3 fun n hn => h n hn, List.filter_eq_self.mpr fun _ _ => rfl]
/-! two clauses -/
def lc2Step (g : GF) (tt : TF) (it1 : IF) (g1 : GF) (tt1 : TF) (te : EF) (vs vs1 : List Nat) (x : PyData) (en : En) : Option (List PyData × En) := (g x en).bind fun en1 => (tt en1).bind fun p => if p.1 = true then (it1 p.2).bind fun q => (lcL g1 tt1 te vs1 q.1 (wipeE q.2 vs1)).bind fun u => some (u.1, wipeE u.2 vs) else some ([], wipeE p.2 vs)
theorem lc2L_pure {g g1 : GF} {tt tt1 : TF} {it1 : IF} {te : EF} {vs vs1 : List Nat} (F : PyData → List PyData) : ∀ {xs : List PyData} {en : En}, (∀ x ∈ xs, lc2Step g tt it1 g1 tt1 te vs vs1 x en = some (F x, en)) → lc2L g tt it1 g1 tt1 te vs vs1 xs en = some (xs.flatMap F, en)
  | [], en, _ => rfl
  | x :: xs, en, h => by
    have h0 := h x (by simp)
    have ih := lc2L_pure F (xs := xs) (en := en) fun y hy => h y (by simp [hy])
    simp only [lc2Step, Option.bind_eq_some_iff] at h0
    obtain ⟨e1, h1, ⟨b, e2⟩, h2, h0⟩ := h0
    simp only [lc2L, h1, h2, Option.bind_some]
    cases b with
    | true =>
      simp only [if_true, Option.bind_eq_some_iff] at h0 ⊢
      obtain ⟨⟨ys, e3⟩, h3, ⟨zs, e4⟩, h4, h0⟩ := h0
      simp only [Option.some.injEq, Prod.mk.injEq] at h0
      obtain ⟨rfl, h5⟩ := h0
      exact ⟨_, h3, _, h4, _, by rw [h5]; exact ih, by simp⟩
    | false =>
      simp only [Bool.false_eq_true, if_false, Option.some.injEq, Prod.mk.injEq] at h0 ⊢
      obtain ⟨h4, h5⟩ := h0
      rw [h5, ih, List.flatMap_cons, ← h4]
      rfl
theorem fLc2_pure {it it1 : IF} {g g1 : GF} {tt tt1 : TF} {te : EF} {vs vs1 : List Nat} {en en1 : En} {xs : List PyData} (F : PyData → List PyData) (h1 : it en = some (xs, en1)) (h2 : (xs.flatMap F).length ≤ 1000000) (h3 : vs.all (plainAt en1) = true) (h : ∀ x ∈ xs, lc2Step g tt it1 g1 tt1 te vs vs1 x (wipeE en1 vs) = some (F x, wipeE en1 vs)) :
    fLc2 it g tt it1 g1 tt1 te vs vs1 en = some (xs.flatMap F, backE en1 (wipeE en1 vs) vs) := by
  simp only [fLc2, h1, Option.bind_some, lc2L_pure F h]
  rw [if_pos h3, if_pos (small_size h2)]
theorem rngIn {n : Int} (h : -1000000000 ≤ n) (h2 : n ≤ 1000000000) : RngOk n := by
  unfold RngOk
  omega
@[simp] theorem rngIn_0 : RngOk 0 := rngIn (by decide) (by decide)
@[simp] theorem rngIn_1 : RngOk 1 := rngIn (by decide) (by decide)
@[simp] theorem rngIn_2 : RngOk 2 := rngIn (by decide) (by decide)
@[simp] theorem rngIn_3 : RngOk 3 := rngIn (by decide) (by decide)
@[simp] theorem rngIn_4 : RngOk 4 := rngIn (by decide) (by decide)
@[simp] theorem rngIn_5 : RngOk 5 := rngIn (by decide) (by decide)
@[simp] theorem rngIn_6 : RngOk 6 := rngIn (by decide) (by decide)
@[simp] theorem rngIn_61 : RngOk 61 := rngIn (by decide) (by decide)
/-- lo, lo + 1, .. -/
def rng (lo hi : Int) : List Int := (List.range (hi - lo).toNat).map fun (i : Nat) => lo + (i : Int)
theorem rngL_rng (lo hi : Int) : rngL lo (hi - lo).toNat = (rng lo hi).map .int := by
  simp [rngL, rng, Function.comp_def]
theorem mem_rng {lo hi n : Int} : n ∈ rng lo hi ↔ lo ≤ n ∧ n < hi := by
  simp only [rng, List.mem_map, List.mem_range]
  constructor
  · rintro ⟨i, h1, rfl⟩
    omega
  · rintro ⟨h1, h2⟩
    exact ⟨(n - lo).toNat, by omega, by omega⟩
theorem rng_length (lo hi : Int) : (rng lo hi).length = (hi - lo).toNat := by simp [rng]
end L2.FL
set_option Elab.async false
set_option linter.all false
set_option maxRecDepth 100000
set_option maxHeartbeats 4000000
/-! FL19: the laws' own draws: _law_start, _law_draw. -/
namespace L2.FL
open PySem PySem.Spec PyProof.Rows L2

noncomputable def rStart : LF := (hSeq (sAsg (gSet 1) (fC (.int 7)))
  (hSeq (sFor (fSeq (fSl (fVar 0) fNoPart (fPart (fC (.int 63))))) (gSet 2) (sAsg (gSet 1) (f2 oAdd (f2 oMod (fB oInt (fCons (f2 oAdd (f2 oMul (fVar 1) (fC (.int 48271))) (fVar 2)) fNil)) (fC (.int 2147483629))) (fC (.int 1)))))
  (fLst (fCons (fOfL (fLc (fSeq (fSl (fVar 0) fNoPart (fPart (fC (.int 63))))) (gSet 2) fYes (fB oAbs (fCons (fB oInt (fCons (fVar 2) fNil)) fNil)) [2])) (fCons (fC (.int 0)) (fCons (fC (.int 0)) (fCons (fC (.int 0)) (fCons (fVar 1) (fCons (fC (.int 0)) fNil)))))))))
noncomputable def rDraw : SF := (sSeq (sIf (fAnd (fBool (f2 oEq (f2 oIx (fVar 0) (fC (.int 3))) (fC (.int 0)))) (fBool (f2 oLt (f2 oIx (fVar 0) (fC (.int 1))) (fB oLen (fCons (f2 oIx (fVar 0) (fC (.int 0))) fNil))))) (sAsg (gTup' (gCons' (gIx 0 (fC (.int 2))) (gCons' (gIx 0 (fC (.int 3))) (gCons' (gIx 0 (fC (.int 1))) gNil')))) (fTup (fCons (f2 oIx (f2 oIx (fVar 0) (fC (.int 0))) (f2 oIx (fVar 0) (fC (.int 1)))) (fCons (fC (.int 60)) (fCons (f2 oAdd (f2 oIx (fVar 0) (fC (.int 1))) (fC (.int 1))) fNil))))) sNil)
  (sSeq (sIf (fBool (f2 oGt (f2 oIx (fVar 0) (fC (.int 3))) (fC (.int 0)))) (sSeq (sAsg (gSet 2) (f2 oMod (fB oInt (fCons (f2 oIx (fVar 0) (fC (.int 2))) fNil)) (fVar 1)))
  (sSeq (sSetIx 0 (fC (.int 2)) (f2 oDiv (f2 oIx (fVar 0) (fC (.int 2))) (fVar 1)))
  (sSeq (sSetIx 0 (fC (.int 3)) (fIfE (fBool (f2 oGt (f2 oIx (fVar 0) (fC (.int 2))) (fC (.int 0)))) (f2 oSub (f2 oIx (fVar 0) (fC (.int 3))) (fC (.int 1))) (fC (.int 0))))
  (sRet (fVar 2))))) sNil)
  (sSeq (sSetIx 0 (fC (.int 5)) (f2 oAdd (f2 oIx (fVar 0) (fC (.int 5))) (fC (.int 1))))
  (sSeq (sSetIx 0 (fC (.int 4)) (f2 oMod (fB oInt (fCons (f2 oAdd (f2 oAdd (f2 oMul (f2 oIx (fVar 0) (fC (.int 4))) (fC (.int 48271))) (f2 oMul (f2 oMul (f2 oIx (fVar 0) (fC (.int 5))) (f2 oIx (fVar 0) (fC (.int 5)))) (fC (.int 69621)))) (fC (.int 11))) fNil)) (fC (.int 2147483647))))
  (sRet (f2 oMod (fB oInt (fCons (f2 oDiv (f2 oIx (fVar 0) (fC (.int 4))) (fC (.int 13))) fNil)) (fVar 1)))))))
/-- a state of draws; b: no more draws than that have been made by reckoning -/
def Drawn (b : Nat) (S : List PyData) : Prop := ∃ (ns : List Int) (p c k s : Int) (n : Nat), S = [.list (ns.map .int), .int p, .int c, .int k, .int s, .int n] ∧ (∀ x ∈ ns, 0 ≤ x) ∧ 0 ≤ p ∧ 0 ≤ c ∧ 0 ≤ s ∧ s < 2147483648 ∧ n ≤ b
theorem Drawn.mono {b b' : Nat} {S : List PyData} (h : Drawn b S) (hb : b ≤ b') : Drawn b' S := by
  obtain ⟨ns, p, c, k, s, n, h1, h2, h3, h4, h5, h6, h7⟩ := h
  exact ⟨ns, p, c, k, s, n, h1, h2, h3, h4, h5, h6, by omega⟩
theorem atI_ints {ns : List Int} {p : Int} (h0 : 0 ≤ p) (h1 : p < ns.length) : ∃ x ∈ ns, atI (ns.map PyData.int) p = some (.int x) := by
  have hl : p.toNat < ns.length := by omega
  refine ⟨ns[p.toNat], List.getElem_mem hl, ?_⟩
  unfold atI ixN
  rw [if_pos h0, if_pos (by simpa using h1)]
  simp [hl]
theorem ev_rDraw {S : List PyData} {b : Nat} {m : Int} (h : Drawn b S) (hb : b < 4611686018427387904) (hm : 1 ≤ m) (hm2 : m < 4611686018427387904) :
    ∃ r S', 0 ≤ r ∧ r < m ∧ Drawn (b + 1) S' ∧ fcall rDraw 1 [.p S, .d (.int m)] = some (.int r, [.p S', .d (.int m)]) := by
  obtain ⟨ns, p, c, k, s, n, rfl, h2, h3, h4, h5, h6, h7⟩ := h
  have hm0 : (0 : Int) < m := by omega
  have dv : ∀ i, oDiv (.int i) (.int m) = some (.int (i / m)) := fun i => o_div hm0 (by omega)
  have dv13 : ∀ i, oDiv (.int i) (.int 13) = some (.int (i / 13)) := fun i => o_div (by decide) (by decide)
  have md : ∀ i, oMod (.int i) (.int m) = some (.int (i % m)) := fun i => o_mod hm0
  have mdP : ∀ i, oMod (.int i) (.int 2147483647) = some (.int (i % 2147483647)) := fun i => o_mod (by decide)
  have ml1 : ∀ i, oMul (.int i) (.int 48271) = some (.int (i * 48271)) := fun i => o_mulR (by decide) (by decide)
  have ml2 : ∀ i, oMul (.int i) (.int 69621) = some (.int (i * 69621)) := fun i => o_mulR (by decide) (by decide)
  have ml3 : oMul (.int ((n : Int) + 1)) (.int ((n : Int) + 1)) = some (.int (((n : Int) + 1) * ((n : Int) + 1))) := o_mulR (by omega) (by omega)
  have em : ∀ y : Int, 0 ≤ y % m ∧ y % m < m := fun y => ⟨Int.emod_nonneg _ (by omega), Int.emod_lt_of_pos _ hm0⟩
  have dp : ∀ y : Int, 0 ≤ y → 0 ≤ y / m := fun y hy => Int.ediv_nonneg hy (by omega)
  have eP : ∀ y : Int, 0 ≤ y % 2147483647 ∧ y % 2147483647 < 2147483648 := fun y => ⟨Int.emod_nonneg _ (by decide), by have := Int.emod_lt_of_pos y (show (0 : Int) < 2147483647 by decide); omega⟩
  by_cases c1 : k = 0 ∧ p < ns.length
  · obtain ⟨rfl, hp⟩ := c1
    obtain ⟨x, hx, e⟩ := atI_ints h3 hp
    have hx0 := h2 x hx
    by_cases c2 : 0 < x / m
    · refine ⟨x % m, _, (em x).1, (em x).2, ⟨ns, p + 1, x / m, 59, s, n, rfl, h2, by omega, dp x hx0, h5, h6, by omega⟩, ?_⟩
      simp [fcall, rDraw, live, putL, ixN, open_, hp, dv, md, c2, e]
    · refine ⟨x % m, _, (em x).1, (em x).2, ⟨ns, p + 1, x / m, 0, s, n, rfl, h2, by omega, dp x hx0, h5, h6, by omega⟩, ?_⟩
      simp [fcall, rDraw, live, putL, ixN, open_, hp, dv, md, c2, e]
  · by_cases c2 : 0 < k
    · have k0 : k ≠ 0 := by omega
      by_cases c3 : 0 < c / m
      · refine ⟨c % m, _, (em c).1, (em c).2, ⟨ns, p, c / m, k - 1, s, n, rfl, h2, h3, dp c h4, h5, h6, by omega⟩, ?_⟩
        simp [fcall, rDraw, live, putL, ixN, open_, dv, md, c2, c3, k0]
      · refine ⟨c % m, _, (em c).1, (em c).2, ⟨ns, p, c / m, 0, s, n, rfl, h2, h3, dp c h4, h5, h6, by omega⟩, ?_⟩
        simp [fcall, rDraw, live, putL, ixN, open_, dv, md, c2, c3, k0]
    · refine ⟨((s * 48271 + ((n : Int) + 1) * ((n : Int) + 1) * 69621 + 11) % 2147483647) / 13 % m, _, (em _).1, (em _).2, ⟨ns, p, c, k, (s * 48271 + ((n : Int) + 1) * ((n : Int) + 1) * 69621 + 11) % 2147483647, n + 1, rfl, h2, h3, h4, (eP _).1, (eP _).2, by omega⟩, ?_⟩
      by_cases k0 : k = 0
      · subst k0
        have hp : ¬ p < ns.length := fun q => c1 ⟨rfl, q⟩
        simp [fcall, rDraw, live, putL, ixN, open_, dv13, md, mdP, ml1, ml2, ml3, hp]
      · simp [fcall, rDraw, live, putL, ixN, open_, dv13, md, mdP, ml1, ml2, ml3, c2, k0]
theorem cut63 (xs : List PyData) (h : xs.length ≤ 63) : cutD xs none (some 63) = xs := cut_whole ⟨rfl, by
  have := HT.sIx_nat xs.length xs.length 63
  rw [show ((63 : Nat) : Int) = (63 : Int) from rfl] at this
  rw [this]
  omega⟩
theorem start_loop {L : PyData} : ∀ {xs : List Int} {s : Int} {o : Option SV}, 0 ≤ s → s < 2147483648 → (o = none ∨ ∃ y, o = some (.d y)) →
    ∃ s' o', 0 ≤ s' ∧ s' < 2147483648 ∧ (o' = none ∨ ∃ y, o' = some (.d y)) ∧ forL (gSet 2) (sAsg (gSet 1) (f2 oAdd (f2 oMod (fB oInt (fCons (f2 oAdd (f2 oMul (fVar 1) (fC (.int 48271))) (fVar 2)) fNil)) (fC (.int 2147483629))) (fC (.int 1)))) (xs.map .int) [some (.d L), some (.d (.int s)), o] = some (.nx, [some (.d L), some (.d (.int s')), o'])
  | [], s, o, h1, h2, h3 => ⟨s, o, h1, h2, h3, rfl⟩
  | x :: xs, s, o, h1, h2, h3 => by
    have g1 := Int.emod_nonneg (s * 48271 + x) (show (2147483629 : Int) ≠ 0 by decide)
    have g2 := Int.emod_lt_of_pos (s * 48271 + x) (show (0 : Int) < 2147483629 by decide)
    obtain ⟨s', o', k1, k2, k3, k4⟩ := start_loop (L := L) (xs := xs) (s := (s * 48271 + x) % 2147483629 + 1) (o := some (.d (.int x))) (by omega) (by omega) (.inr ⟨_, rfl⟩)
    refine ⟨s', o', k1, k2, k3, ?_⟩
    have ml : ∀ i, oMul (.int i) (.int 48271) = some (.int (i * 48271)) := fun i => o_mulR (by decide) (by decide)
    have md : ∀ i, oMod (.int i) (.int 2147483629) = some (.int (i % 2147483629)) := fun i => o_mod (by decide)
    rw [List.map_cons, x_forL1]
    rcases h3 with rfl | ⟨y, rfl⟩
    · simp [open_, ml, md, k4]
    · simp [open_, ml, md, k4]
theorem ev_rStart {ns : List Int} (h : ns.length ≤ 63) : ∃ S en, Drawn 0 S ∧ rStart [some (.d (.list (ns.map .int))), none, none] = some (S, en) := by
  obtain ⟨s, o, h1, h2, h3, h4⟩ := start_loop (L := .list (ns.map .int)) (xs := ns) (s := 7) (o := none) (by decide) (by decide) (.inl rfl)
  have hc := cut63 (ns.map .int) (by simpa using h)
  have hp : List.all [2] (plainAt [some (.d (.list (ns.map .int))), some (.d (.int s)), o]) = true := by rcases h3 with rfl | ⟨y, rfl⟩ <;> rfl
  have hl : fLc (fSeq (fSl (fVar 0) fNoPart (fPart (fC (.int 63))))) (gSet 2) fYes (fB oAbs (fCons (fB oInt (fCons (fVar 2) fNil)) fNil)) [2] [some (.d (.list (ns.map .int))), some (.d (.int s)), o] =
      some (ns.map (fun n => .int (ab n)), backE [some (.d (.list (ns.map .int))), some (.d (.int s)), o] (wipeE [some (.d (.list (ns.map .int))), some (.d (.int s)), o] [2]) [2]) := by
    refine fLc_imap (fun n => .int (ab n)) (by simp [hc]) (by omega) hp fun n hn => ?_
    simp [lcStep, open_]
  refine ⟨[.list ((ns.map ab).map .int), .int 0, .int 0, .int 0, .int s, .int 0], [some (.d (.list (ns.map .int))), some (.d (.int s)), o], ⟨ns.map ab, 0, 0, 0, s, 0, rfl, fun x hx => ?_, by omega, by omega, h1, h2, by omega⟩, ?_⟩
  · obtain ⟨n, _, rfl⟩ := List.mem_map.mp hx
    exact ab_nonneg n
  · simp [rStart, open_, hc, h4, hl, Function.comp_def]
end L2.FL
set_option Elab.async false
set_option linter.all false
set_option maxRecDepth 100000
set_option maxHeartbeats 4000000
/-! FL20: rows of numbers: ==, in, min, max, repr. -/
namespace L2.FL
open PySem PySem.Spec PyProof.Rows L2

theorem plainI : ∀ ns : List Int, PyData.plainAll (ns.map .int) = true
  | [] => rfl
  | n :: ns => by simp [PyData.plainAll, PyData.plain, plainI ns]
theorem depthI : ∀ ns : List Int, PyData.depthAll (ns.map .int) = 0
  | [] => rfl
  | n :: ns => by simp [PyData.depthAll, PyData.depth, depthI ns]
theorem eqvI : ∀ a b : List Int, PyData.eqvAll (a.map .int) (b.map .int) = decide (a = b)
  | [], [] => by simp [PyData.eqvAll]
  | [], _ :: _ => by simp [PyData.eqvAll]
  | _ :: _, [] => by simp [PyData.eqvAll]
  | x :: xs, y :: ys => by
    simp only [List.map_cons, PyData.eqvAll, PyData.eqv, eqvI xs ys]
    by_cases h : x = y
    · subst h; simp
    · simp [h]
@[simp] theorem okdAllI (ns : List Int) : okdAll (ns.map .int) = true := by simp [okdAll, plainI, depthI]
@[simp] theorem okdI (n : Int) : okd (.int n) = true := by simp [okd, PyData.plain, PyData.depth]
@[simp] theorem okdT (ns : List Int) : okd (.tuple (ns.map .int)) = true := by simp [okd, PyData.plain, PyData.depth, plainI, depthI]
@[simp] theorem okdL (ns : List Int) : okd (.list (ns.map .int)) = true := by simp [okd, PyData.plain, PyData.depth, plainI, depthI]
theorem eqT (a b : List Int) : oEq (.tuple (a.map .int)) (.tuple (b.map .int)) = some (.bool (decide (a = b))) := by simp [oEq, PyData.eqv, eqvI]
theorem neT (a b : List Int) : oNe (.tuple (a.map .int)) (.tuple (b.map .int)) = some (.bool (!decide (a = b))) := by simp [oNe, PyData.eqv, eqvI]
theorem eqL (a b : List Int) : oEq (.list (a.map .int)) (.list (b.map .int)) = some (.bool (decide (a = b))) := by simp [oEq, PyData.eqv, eqvI]
theorem neL (a b : List Int) : oNe (.list (a.map .int)) (.list (b.map .int)) = some (.bool (!decide (a = b))) := by simp [oNe, PyData.eqv, eqvI]
theorem anyI (ns : List Int) (n : Int) : anyEq (ns.map .int) (.int n) = decide (n ∈ ns) := by
  induction ns with
  | nil => simp [anyEq]
  | cons x r ih =>
    unfold anyEq at ih ⊢
    rw [List.map_cons, List.any_cons, ih]
    simp only [PyData.eqv]
    by_cases h : x = n
    · subst h; simp
    · have h' : n ≠ x := fun e => h e.symm
      simp [h, h']
theorem inT (ns : List Int) (n : Int) : oIn (.int n) (.tuple (ns.map .int)) = some (.bool (decide (n ∈ ns))) := by simp [oIn, anyI]
theorem notInT (ns : List Int) (n : Int) : oNotIn (.int n) (.tuple (ns.map .int)) = some (.bool (!decide (n ∈ ns))) := by simp [oNotIn, anyI]
theorem inL (ns : List Int) (n : Int) : oIn (.int n) (.list (ns.map .int)) = some (.bool (decide (n ∈ ns))) := by simp [oIn, anyI]
theorem notInL (ns : List Int) (n : Int) : oNotIn (.int n) (.list (ns.map .int)) = some (.bool (!decide (n ∈ ns))) := by simp [oNotIn, anyI]
theorem alikeI (ns : List Int) : alikeB (ns.map .int) = true := by
  simp [alikeB, List.all_eq_true, PySem.W.alike]
/-- the greatest, the least -/
def mx : List Int → Int
  | [] => 0
  | n :: ns => ns.foldl max n
def mn : List Int → Int
  | [] => 0
  | n :: ns => ns.foldl min n
theorem foldl_max : ∀ (ns : List Int) (n : Int), (ns.foldl max n = n ∨ ns.foldl max n ∈ ns) ∧ n ≤ ns.foldl max n ∧ ∀ m ∈ ns, m ≤ ns.foldl max n
  | [], n => ⟨.inl rfl, Int.le_refl _, by simp⟩
  | x :: r, n => by
    obtain ⟨h1, h2, h3⟩ := foldl_max r (max n x)
    refine ⟨?_, by show n ≤ r.foldl max (max n x); omega, fun m hm => ?_⟩
    · show r.foldl max (max n x) = n ∨ _
      rcases h1 with h1 | h1
      · rw [h1]
        by_cases q : n ≤ x
        · exact .inr (by show r.foldl max (max n x) ∈ _; rw [h1, Int.max_eq_right q]; simp)
        · exact .inl (Int.max_eq_left (by omega))
      · exact .inr (by show r.foldl max (max n x) ∈ _; simp [h1])
    · show m ≤ r.foldl max (max n x)
      rcases List.mem_cons.mp hm with rfl | hm
      · omega
      · exact h3 m hm
theorem foldl_min : ∀ (ns : List Int) (n : Int), (ns.foldl min n = n ∨ ns.foldl min n ∈ ns) ∧ ns.foldl min n ≤ n ∧ ∀ m ∈ ns, ns.foldl min n ≤ m
  | [], n => ⟨.inl rfl, Int.le_refl _, by simp⟩
  | x :: r, n => by
    obtain ⟨h1, h2, h3⟩ := foldl_min r (min n x)
    refine ⟨?_, by show r.foldl min (min n x) ≤ n; omega, fun m hm => ?_⟩
    · show r.foldl min (min n x) = n ∨ _
      rcases h1 with h1 | h1
      · rw [h1]
        by_cases q : n ≤ x
        · exact .inl (Int.min_eq_left q)
        · exact .inr (by show r.foldl min (min n x) ∈ _; rw [h1, Int.min_eq_right (by omega)]; simp)
      · exact .inr (by show r.foldl min (min n x) ∈ _; simp [h1])
    · show r.foldl min (min n x) ≤ m
      rcases List.mem_cons.mp hm with rfl | hm
      · omega
      · exact h3 m hm
theorem mx_mem {ns : List Int} (h : ns ≠ []) : mx ns ∈ ns := by
  cases ns with
  | nil => exact absurd rfl h
  | cons n r =>
    rcases (foldl_max r n).1 with e | e
    · show r.foldl max n ∈ _; rw [e]; simp
    · show r.foldl max n ∈ _; simp [e]
theorem mx_ge {ns : List Int} {m : Int} (h : m ∈ ns) : m ≤ mx ns := by
  cases ns with
  | nil => cases h
  | cons n r =>
    rcases List.mem_cons.mp h with rfl | h
    · exact (foldl_max r m).2.1
    · exact (foldl_max r n).2.2 m h
theorem mn_mem {ns : List Int} (h : ns ≠ []) : mn ns ∈ ns := by
  cases ns with
  | nil => exact absurd rfl h
  | cons n r =>
    rcases (foldl_min r n).1 with e | e
    · show r.foldl min n ∈ _; rw [e]; simp
    · show r.foldl min n ∈ _; simp [e]
theorem mn_le {ns : List Int} {m : Int} (h : m ∈ ns) : mn ns ≤ m := by
  cases ns with
  | nil => cases h
  | cons n r =>
    rcases List.mem_cons.mp h with rfl | h
    · exact (foldl_min r m).2.1
    · exact (foldl_min r n).2.2 m h
theorem maxL {ns : List Int} (h : ns ≠ []) : oMax [.list (ns.map .int)] = some (.int (mx ns)) := by
  cases ns with
  | nil => exact absurd rfl h
  | cons n r =>
    show (if alikeB ((n :: r).map .int) && okdAll ((n :: r).map .int) then some (PySem.W.maxD (.int n) (r.map .int)) else none) = _
    rw [alikeI, okdAllI, PySem.W.maxD_ints]
    rfl
theorem minL {ns : List Int} (h : ns ≠ []) : oMin [.list (ns.map .int)] = some (.int (mn ns)) := by
  cases ns with
  | nil => exact absurd rfl h
  | cons n r =>
    show (if alikeB ((n :: r).map .int) && okdAll ((n :: r).map .int) then some (PySem.W.minD (.int n) (r.map .int)) else none) = _
    rw [alikeI, okdAllI, PySem.W.minD_ints]
    rfl
theorem maxT {ns : List Int} (h : ns ≠ []) : oMax [.tuple (ns.map .int)] = some (.int (mx ns)) := by
  cases ns with
  | nil => exact absurd rfl h
  | cons n r =>
    show (if alikeB ((n :: r).map .int) && okdAll ((n :: r).map .int) then some (PySem.W.maxD (.int n) (r.map .int)) else none) = _
    rw [alikeI, okdAllI, PySem.W.maxD_ints]
    rfl
theorem minT {ns : List Int} (h : ns ≠ []) : oMin [.tuple (ns.map .int)] = some (.int (mn ns)) := by
  cases ns with
  | nil => exact absurd rfl h
  | cons n r =>
    show (if alikeB ((n :: r).map .int) && okdAll ((n :: r).map .int) then some (PySem.W.minD (.int n) (r.map .int)) else none) = _
    rw [alikeI, okdAllI, PySem.W.minD_ints]
    rfl
/-! pairs of numbers -/
def pr (p : Int × Int) : PyData := .tuple [.int p.1, .int p.2]
theorem alikeP (ps : List (Int × Int)) : alikeB (ps.map pr) = true := by
  simp [alikeB, List.all_eq_true, pr, PySem.W.alike, PySem.W.alikeAll]
theorem okdP (ps : List (Int × Int)) : okdAll (ps.map pr) = true := by
  have h : ∀ ps : List (Int × Int), PyData.plainAll (ps.map pr) = true ∧ PyData.depthAll (ps.map pr) ≤ 1 := fun ps => by
    induction ps with
    | nil => exact ⟨rfl, by simp [PyData.depthAll]⟩
    | cons p r ih => exact ⟨by simp [PyData.plainAll, PyData.plain, pr, ih.1], by simp [PyData.depthAll, PyData.depth, pr, ih.2]⟩
  have := (h ps).2
  simp only [okdAll, (h ps).1, Bool.true_and, decide_eq_true_eq]
  omega
theorem minP_fold : ∀ (ps : List (Int × Int)) (p : Int × Int), ∃ q, PySem.W.minD (pr p) (ps.map pr) = pr q ∧ (q = p ∨ q ∈ ps) ∧ ∀ r, (r = p ∨ r ∈ ps) → q.1 < r.1 ∨ (q.1 = r.1 ∧ q.2 ≤ r.2)
  | [], p => ⟨p, rfl, .inl rfl, fun r h => by
    rcases h with rfl | h
    · exact .inr ⟨rfl, Int.le_refl _⟩
    · cases h⟩
  | x :: ps, p => by
    have e : PySem.W.dataLt (pr x) (pr p) = decide (x.1 < p.1 ∨ (x.1 = p.1 ∧ x.2 < p.2)) := PySem.W.dataLt_ii _ _ _ _
    by_cases h : x.1 < p.1 ∨ (x.1 = p.1 ∧ x.2 < p.2)
    · obtain ⟨q, h1, h2, h3⟩ := minP_fold ps x
      refine ⟨q, ?_, ?_, fun r hr => ?_⟩
      · show (ps.map pr).foldl _ (if PySem.W.dataLt (pr x) (pr p) then pr x else pr p) = _
        rw [e, if_pos (by simpa using h)]
        exact h1
      · rcases h2 with h2 | h2
        · exact .inr (by simp [h2])
        · exact .inr (by simp [h2])
      · rcases hr with rfl | hr
        · have := h3 x (.inl rfl)
          omega
        · rcases List.mem_cons.mp hr with rfl | hr
          · exact h3 _ (.inl rfl)
          · exact h3 _ (.inr hr)
    · obtain ⟨q, h1, h2, h3⟩ := minP_fold ps p
      refine ⟨q, ?_, ?_, fun r hr => ?_⟩
      · show (ps.map pr).foldl _ (if PySem.W.dataLt (pr x) (pr p) then pr x else pr p) = _
        rw [e, if_neg (by simpa using h)]
        exact h1
      · rcases h2 with h2 | h2
        · exact .inl h2
        · exact .inr (by simp [h2])
      · rcases hr with rfl | hr
        · exact h3 _ (.inl rfl)
        · rcases List.mem_cons.mp hr with rfl | hr
          · have := h3 p (.inl rfl)
            omega
          · exact h3 _ (.inr hr)
theorem minP {ps : List (Int × Int)} (h : ps ≠ []) : ∃ q ∈ ps, oMin [.list (ps.map pr)] = some (pr q) ∧ ∀ r ∈ ps, q.1 < r.1 ∨ (q.1 = r.1 ∧ q.2 ≤ r.2) := by
  cases ps with
  | nil => exact absurd rfl h
  | cons p r =>
    obtain ⟨q, h1, h2, h3⟩ := minP_fold r p
    refine ⟨q, by rcases h2 with h2 | h2 <;> simp [h2], ?_, fun x hx => h3 x (by simpa using hx)⟩
    show (if alikeB ((p :: r).map pr) && okdAll ((p :: r).map pr) then some (PySem.W.minD (pr p) (r.map pr)) else none) = _
    rw [alikeP, okdP, h1]
    rfl
/-! all -/
theorem toBls_map : ∀ bs : List Bool, toBls (bs.map .bool) = some bs
  | [] => rfl
  | b :: r => by simp [toBls, toBls_map r]
theorem toInts_map : ∀ bs : List Int, toInts (bs.map .int) = some bs
  | [] => rfl
  | b :: r => by simp [toInts, toInts_map r]
theorem allB (bs : List Bool) : oAll [.list (bs.map .bool)] = some (.bool (bs.all id)) := by simp [oAll, toBls_map]
theorem anyB (bs : List Bool) : oAny [.list (bs.map .bool)] = some (.bool (bs.any id)) := by simp [oAny, toBls_map]
theorem sumI (ns : List Int) : oSum [.list (ns.map .int)] = some (.int ns.sum) := by simp [oSum, toInts_map]
/-- repr of a short tuple of numbers -/
theorem int_str_len {n : Int} (h : n.natAbs < 10 ^ 18) : (PySem.Str.ofString (toString n)).length ≤ 19 := by
  have e := int_text_length_le10 (k := 18) (by decide) h
  rw [PySem.ofString_length]
  exact e
theorem piledI : ∀ ns : List Int, (∀ n ∈ ns, n.natAbs < 10 ^ 18) → piled (PyData.shownAll (ns.map .int)) ≤ 21 * ns.length
  | [], _ => by simp [PyData.shownAll, piled]
  | n :: r, h => by
    have ih := piledI r fun m hm => h m (by simp [hm])
    have h1 := int_str_len (h n (by simp))
    rw [List.map_cons, PyData.shownAll, piled_cons, List.length_cons]
    have h2 : (PyData.shown (.int n)).length ≤ 19 := by
      unfold PyData.shown
      exact h1
    omega
theorem shownT_len {ns : List Int} (h : ∀ n ∈ ns, n.natAbs < 10 ^ 18) : (PyData.shown (.tuple (ns.map .int))).length ≤ 21 * ns.length + 3 := by
  have h1 := piledI ns h
  unfold PyData.shown tupleText
  rw [strLen_append, strLen_append]
  have e1 : (("(" : String) : Str).length = 1 := rfl
  have e2 : ((if ((PyData.shownAll (ns.map .int)).length == 1) = true then ",)" else ")" : String) : Str).length ≤ 2 := by
    split
    · exact Nat.le_refl _
    · exact Nat.le_succ _
  by_cases hn : PyData.shownAll (ns.map .int) = []
  · rw [hn] at e2 ⊢
    have e3 : (Str.join ", " []).length = 0 := rfl
    rw [e3]
    rw [hn] at h1
    omega
  · have e3 := join_length_add _ hn
    omega
theorem showableI : ∀ ns : List Int, (∀ n ∈ ns, n.natAbs < 10 ^ 18) → PyData.showableAll (ns.map .int) = true
  | [], _ => rfl
  | n :: r, h => by
    have h1 : n.natAbs.log2 < 1920 := by
      have := h n (by simp)
      by_cases h0 : n.natAbs = 0
      · rw [h0]; decide
      · rw [Nat.log2_lt h0]
        exact Nat.lt_of_lt_of_le this (Nat.le_trans (show 10 ^ 18 ≤ 2 ^ 60 by decide) (Nat.pow_le_pow_right (by decide) (by decide)))
    simp [PyData.showableAll, PyData.showable, h1, showableI r fun m hm => h m (by simp [hm])]
theorem reprT {ns : List Int} (h : ∀ n ∈ ns, n.natAbs < 10 ^ 18) (hl : ns.length ≤ 10000) : oRepr [.tuple (ns.map .int)] = some (.str (PyData.shown (.tuple (ns.map .int)))) := by
  have h1 := shownT_len h
  have h2 : PyData.showable (.tuple (ns.map .int)) = true := by unfold PyData.showable; exact showableI ns h
  simp only [oRepr, h2, okdT, Bool.true_and]
  rw [if_pos (decide_eq_true (small_size (by omega)))]
theorem eqStr (a : Str) : oEq (.str a) (.str a) = some (.bool true) := by
  have : PyData.eqv (.str a) (.str a) = true := by simp [PyData.eqv]
  simp [oEq, okd, PyData.plain, PyData.depth, this]
end L2.FL
namespace L2.FL
open PySem PySem.Spec PyProof.Rows L2
theorem canLayI : ∀ ns : List Int, PyData.canLayAll0 (ns.map .int) = true
  | [] => rfl
  | n :: r => by
    have := canLayI r
    simp [PyData.canLayAll0, PyData.canLay0, this]
theorem findIdxI : ∀ (ns : List Int) (m : Int), m ∈ ns → ∃ j, ((ns.map PyData.int).findIdx? fun z => PyData.eqv z (.int m)) = some j ∧ ns[j]? = some m
  | [], m, h => by cases h
  | n :: r, m, h => by
    by_cases e : n = m
    · subst e
      exact ⟨0, by simp [List.findIdx?_cons, PyData.eqv], rfl⟩
    · have hm : m ∈ r := by
        rcases List.mem_cons.mp h with q | q
        · exact absurd q.symm e
        · exact q
      obtain ⟨j, h1, h2⟩ := findIdxI r m hm
      refine ⟨j + 1, ?_, by simpa using h2⟩
      rw [List.map_cons, List.findIdx?_cons]
      have : PyData.eqv (.int n) (.int m) = false := by simp [PyData.eqv, e]
      rw [this, h1]
      rfl
theorem indexL {ns : List Int} {m : Int} (h : m ∈ ns) : ∃ j : Nat, oIndex (.list (ns.map .int)) (.int m) = some (.int j) ∧ ns[j]? = some m := by
  obtain ⟨j, h1, h2⟩ := findIdxI ns m h
  have s1 : SeqAt.shaped (.list (ns.map .int)) = true := by simp [SeqAt.shaped, PyData.canLay0, canLayI, PyData.depth, depthI]
  have s2 : SeqAt.shaped (.int m) = true := by simp [SeqAt.shaped, PyData.canLay0, PyData.depth]
  refine ⟨j, ?_, h2⟩
  show (if SeqAt.shaped (.list (ns.map .int)) && SeqAt.shaped (.int m) then ((ns.map PyData.int).findIdx? fun z => PyData.eqv z (.int m)).map fun j => PyData.int (j : Nat) else none) = _
  rw [s1, s2, h1]
  rfl
end L2.FL
set_option Elab.async false
set_option linter.all false
set_option maxRecDepth 100000
set_option maxHeartbeats 4000000
/-! FL21: list(range(..)); len of a dict comprehension. -/
namespace L2.FL
open PySem PySem.Spec PyProof.Rows L2

noncomputable instance {a b : Int} : Decidable (L2.RgOk a b) := Classical.propDecidable _
theorem dqa_rg {K : PySem.W.Frag} {F : Hp} (a b : Int) : DqAll K F (rgV a b) (rngL a (b - a).toNat) := by
  have e1 : rgV a b = ((List.range (b - a).toNat).map fun (i : Nat) => a + (i : Int)).map V.int := by simp [rgV, Function.comp_def]
  have e2 : rngL a (b - a).toNat = ((List.range (b - a).toNat).map fun (i : Nat) => a + (i : Int)).map .int := by simp [rngL, Function.comp_def]
  rw [e1, e2]
  exact dpa_of_ints _
noncomputable def fLr1 (f : EF) : LF := fun en => (f en).bind fun p => (asInt p.1).bind fun n => if L2.RgOk 0 n then some (rngL 0 (n - 0).toNat, p.2) else none
noncomputable def fLr2 (f g : EF) : LF := fun en => (f en).bind fun p => (asInt p.1).bind fun a => (g p.2).bind fun q => (asInt q.1).bind fun b => if L2.RgOk a b then some (rngL a (b - a).toNat, q.2) else none
section
variable {X : Cx}
theorem sl_lr1 {a : Expr} {f : EF} {p p2 pos pos2 : Pos} (hc : X.calm = true) (hg : Gl X "list") (hm : X.mg "list" = none) (hg2 : Gl X "range") (hm2 : X.mg "range" = none) (ha : SE X a f) (na : starEach [a] X.env = (false, eval a X.env) :: starEach [] X.env := by rfl)
    (na2 : starEach [.Call (.Name "range" p2) [a] [] pos2] X.env = (false, eval (.Call (.Name "range" p2) [a] [] pos2) X.env) :: starEach [] X.env := by rfl) : SL X (.Call (.Name "list" p) [.Call (.Name "range" p2) [a] [] pos2] [] pos) (fLr1 f) := by
  obtain ⟨t, hp, ht⟩ := ha.run
  refine ⟨_, pe_listRg hc hg hm (prg_1 hg2 hm2 hp na) na2, fun W σ H en xs en' Q hR hf q => ?_⟩
  simp only [fLr1, Option.bind_eq_some_iff] at hf
  obtain ⟨⟨c, en1⟩, e1, n, e2, hf⟩ := hf
  cases asInt_eq e2
  simp only at hf
  split at hf
  · rename_i hn
    cases hf
    refine ht W σ H en _ _ _ hR e1 fun v W1 H1 x1 R1 v1 => ?_
    cases rint v1
    exact ⟨n, rfl, hn, fun l hl => q l _ W1 _ x1 (R1.laid _ hl) upd_same (dqa_rg 0 n) (R1.freshF hl) (R1.freshG hl) (R1.unowned hl)⟩
  · cases hf
theorem sl_lr2 {a b : Expr} {f g : EF} {p p2 pos pos2 : Pos} (hc : X.calm = true) (hg : Gl X "list") (hm : X.mg "list" = none) (hg2 : Gl X "range") (hm2 : X.mg "range" = none) (ha : SE X a f) (hb : SE X b g) (na : starEach [a, b] X.env = (false, eval a X.env) :: starEach [b] X.env := by rfl)
    (nb : starEach [b] X.env = (false, eval b X.env) :: starEach [] X.env := by rfl) (hpp : (backTo pos2 (starEach [b] X.env)).any (·.1) = false := by rfl)
    (na2 : starEach [.Call (.Name "range" p2) [a, b] [] pos2] X.env = (false, eval (.Call (.Name "range" p2) [a, b] [] pos2) X.env) :: starEach [] X.env := by rfl) : SL X (.Call (.Name "list" p) [.Call (.Name "range" p2) [a, b] [] pos2] [] pos) (fLr2 f g) := by
  obtain ⟨t, hp, ht⟩ := ha.run
  obtain ⟨u, hq, hu⟩ := hb.run
  refine ⟨_, pe_listRg hc hg hm (prg_2 hg2 hm2 hp hq na nb hpp) na2, fun W σ H en xs en' Q hR hf q => ?_⟩
  simp only [fLr2, Option.bind_eq_some_iff] at hf
  obtain ⟨⟨c, en1⟩, e1, n, e2, ⟨c2, en2⟩, e3, m, e4, hf⟩ := hf
  cases asInt_eq e2
  cases asInt_eq e4
  simp only at hf
  split at hf
  · rename_i hn
    cases hf
    refine ht W σ H en _ _ _ hR e1 fun v W1 H1 x1 R1 v1 => ?_
    cases rint v1
    refine hu W1 σ H1 _ _ _ _ R1 e3 fun w W2 H2 x2 R2' w2 => ?_
    cases rint w2
    exact ⟨n, m, rfl, rfl, hn, fun l hl => q l _ W2 _ (x1.trans x2) (R2'.laid _ hl) upd_same (dqa_rg n m) (R2'.freshF hl) (R2'.freshG hl) (R2'.unowned hl)⟩
  · cases hf
end
/-! ### len({k: c for ..}) -/
def keyD : PyData → Option Key
  | .int i => some (.inl i)
  | .str x => some (.inr x)
  | _ => none
def keysD : List PyData → Option (List Key)
  | [] => some []
  | x :: r => (keyD x).bind fun k => (keysD r).bind fun ks => some (k :: ks)
noncomputable instance (m : List Key) (k : Key) : Decidable (k ∈ m) := Classical.propDecidable _
noncomputable def addK (m : List Key) (k : Key) : List Key := if k ∈ m then m else m ++ [k]
noncomputable def unlike (m : List Key) (ks : List Key) : List Key := ks.foldl addK m
theorem keyD_kV {K : PySem.W.Frag} {F : Hp} {v : V} {x : PyData} {k : Key} (h : Dq K F v x) (e : keyD x = some k) : v = kV k := by
  unfold keyD at e
  split at e
  · cases e; cases h; rfl
  · cases e; cases h; rfl
  · cases e
theorem putK_keys (kvs : List (Key × V)) (k : Key) (v : V) : (putK kvs k v).map (·.1) = addK (kvs.map (·.1)) k := by
  unfold putK addK
  have e : ((kvs.any fun kv => decide (kv.1 = k)) = true) ↔ k ∈ kvs.map (·.1) := by
    simp only [List.any_eq_true, decide_eq_true_eq, List.mem_map]
  by_cases h : k ∈ kvs.map (·.1)
  · rw [if_pos (e.mpr h), if_pos h, List.map_map]
    apply List.map_congr_left
    intro a _
    simp only [Function.comp]
    split <;> rfl
  · rw [if_neg fun q => h (e.mp q), if_neg h]
    simp
noncomputable def fLenDc (it : IF) (g : GF) (tt : TF) (tk : EF) (vs : List Nat) : EF := fun en => (it en).bind fun p => if p.1.length ≤ sizeLine ∧ vs.all (plainAt p.2) = true then
    (lcL g tt tk vs p.1 (wipeE p.2 vs)).bind fun r => (keysD r.1).bind fun ks => some (.d (.int ((unlike [] ks).length : Nat)), backE p.2 r.2 vs) else none
theorem addK_length (m : List Key) (k : Key) : (addK m k).length ≤ m.length + 1 := by
  unfold addK
  split <;> simp
theorem set_dc {K : PySem.W.Frag} {it : IF} {g : GF} {tt : TF} {tk : EF} {c : PyData} {vs ws : List Nat} (hw : ∀ w ∈ ws, w ∈ vs) : SEt K (fun σ H Q => tDc (canI K it) (canG K g ws) (canT K tt) (canE K tk) (canE K (fC c)) vs σ H fun x H1 => ∃ a kvs, [x] = [V.ref a] ∧ H1 a = some (.dK kvs) ∧ Q (.int kvs.length) H1) (fLenDc it g tt tk vs) := by
  intro W σ H en r en' Q hR hf q
  simp only [fLenDc, Option.bind_eq_some_iff] at hf
  obtain ⟨⟨xs, en1⟩, e1, hf⟩ := hf
  simp only at hf
  split at hf
  · rename_i hz
    obtain ⟨hz, hpl⟩ := hz
    have hpl' : ∀ v ∈ vs, plainAt en1 v = true := List.all_eq_true.mp hpl
    simp only [Option.bind_eq_some_iff] at hf
    obtain ⟨⟨ys, enE⟩, eE, ks, eK, hf⟩ := hf
    simp only [Option.some.injEq, Prod.mk.injEq] at hf
    obtain ⟨rfl, rfl⟩ := hf
    refine ⟨W, en, xs, en1, hR, e1, fun J W1 H1 x1 R1 w D hD => ?_⟩
    have hGD : W1.G D = none := R1.freshG hD
    have hpar := R1.noPar hpl'
    have R1w := R1.wipes hpar
    have R2 : R K { W1 with G := upd W1.G D (.dK []) } (wipe σ vs) (upd H1 D (.dK [])) (wipeE en1 vs) := (R1w.laid (.dK []) hD).push upd_same (R1.freshF hD) (R1w.unowned hD)
    have wz : ∀ e : En, ∀ v ∈ vs, ∀ s, (wipeE e vs)[v]? ≠ some (some s) := fun e v hv s q => by
      rw [wipeE_get, if_pos hv] at q
      split at q <;> cases q
    let Iv : Nat → Hp → Prop := fun i H' => ∃ (W2 : Wd) (en2 : En) (kvs : List (Key × V)) (rs : List PyData) (kr : List Key), Ext W1 W2 ∧ R K { W2 with G := upd W1.G D (.dK kvs) } (wipe σ vs) H' en2 ∧ kvs.length ≤ i ∧
        lcL g tt tk vs (xs.drop i) en2 = some (rs, enE) ∧ keysD rs = some kr ∧ unlike (kvs.map (·.1)) kr = unlike [] ks ∧ (∀ v ∈ vs, ∀ s, en2[v]? ≠ some (some s))
    refine ⟨fun i m H' => m = xs.length - i ∧ i ≤ xs.length ∧ Iv i H', ⟨xs.length, by simp, Nat.zero_le _, W1, wipeE en1 vs, [], ys, ks, Ext.refl _, R2, Nat.zero_le _, by simpa using eE, eK, rfl, wz _⟩, ?_⟩
    rintro i m H3 ⟨rfl, hi, W2, en2, kvs, rs, kr, x2, R3, hlen, hlc, hkr, hun, hno⟩
    by_cases hlt : i < xs.length
    · have ex : xs[i]? = some xs[i] := List.getElem?_eq_getElem hlt
      have ed : xs.drop i = xs[i] :: xs.drop (i + 1) := List.drop_eq_getElem_cons hlt
      rw [ed] at hlc
      simp only [lcL, Option.bind_eq_some_iff] at hlc
      obtain ⟨en3, e3, ⟨b, en4⟩, e4, hlc⟩ := hlc
      obtain ⟨hgo, hy⟩ := w.go i _ ex { W2 with G := upd W1.G D (.dK kvs) } _ H3 en2 x2.F R3
      refine .inr ⟨hgo, Iv (i + 1), fun H' h => ⟨xs.length - (i + 1), by omega, rfl, hlt, h⟩, fun v H4 y => ?_⟩
      obtain ⟨W4, x4, R4, hd⟩ := hy v H4 y
      refine ⟨W4, en2, _, en3, R4, hd, e3, fun σ2 R5 l5 k5 => ?_⟩
      have hws : wipe σ2 vs = wipe σ vs := by
        have := wipe_same (σ := wipe σ vs) (σ' := σ2) (vs := vs) l5 fun j hj => k5 j fun hm => hj (hw j hm)
        rw [this]
        exact wipe_wipe σ fun _ h => h
      refine ⟨hws, W4, en3, b, en4, R5, e4, fun W6 H6 x6 R6 => ?_⟩
      have x46 : Ext { W2 with G := upd W1.G D (.dK kvs) } W6 := x4.trans x6
      have back : ∀ {W' : Wd} {H' : Hp} {e' : En}, Ext { W2 with G := upd W1.G D (.dK kvs) } W' → R K W' σ2 H' e' → R K W' (wipe σ vs) H' (wipeE e' vs) := fun {W' H' e'} x' R' => by
        have := R'.wipes (vs := vs) (by rw [x'.P]; show ∀ q ∈ W2.P, _; rw [x2.P]; exact hpar)
        rwa [hws] at this
      have asG : ∀ {W' : Wd}, Ext { W2 with G := upd W1.G D (.dK kvs) } W' → W' = { W' with G := upd W1.G D (.dK kvs) } := fun {W'} x' => by
        have hg := x'.G
        cases W'
        simp only at hg
        rw [hg]
      cases b with
      | true =>
        simp only [if_true, Option.bind_eq_some_iff] at hlc ⊢
        obtain ⟨⟨c7, en7⟩, e7, hlc⟩ := hlc
        simp only at hlc
        split at hlc
        · rename_i y7
          simp only [Option.bind_eq_some_iff] at hlc
          obtain ⟨⟨ys8, en8⟩, e8, hlc⟩ := hlc
          simp only [Option.some.injEq, Prod.mk.injEq] at hlc
          obtain ⟨rfl, rfl⟩ := hlc
          simp only [keysD, Option.bind_eq_some_iff] at hkr
          obtain ⟨k7, ek7, ks8, ek8, hkr⟩ := hkr
          cases hkr
          refine ⟨W6, en4, _, en7, R6, e7, fun vy W7 H7 x7 R7 v7 => ?_⟩
          refine ⟨W7, en7, _, en7, R7, rfl, fun vz W8 H8 x8 R8 _ => ?_⟩
          have x48 := (x46.trans x7).trans x8
          have R8w := back x48 R8
          rw [asG x48] at R8w
          have hDl : H8 D = some (.dK kvs) := (R.pop hGD R8w).2.1
          have hk : vy = kV k7 := keyD_kV v7 ek7
          refine ⟨kvs, k7, hk, hDl, by omega, { W8 with G := W1.G }, wipeE en7 vs, putK kvs k7 vz, ys8, ks8, ⟨x2.F.trans x48.F, rfl, x48.P.trans x2.P⟩, R.grow hGD R8w, ?_, e8, ek8, ?_, wz _⟩
          · have h1 := congrArg List.length (putK_keys kvs k7 vz)
            have h2 := addK_length (kvs.map (·.1)) k7
            simp only [List.length_map] at h1 h2
            omega
          · rw [putK_keys]
            exact hun
        · cases hlc
      | false =>
        simp only [Bool.false_eq_true, if_false] at hlc ⊢
        have R6w := back x46 R6
        rw [asG x46] at R6w
        exact ⟨{ W6 with G := W1.G }, wipeE en4 vs, kvs, rs, kr, ⟨x2.F.trans x46.F, rfl, x46.P.trans x2.P⟩, R6w, by omega, hlc, hkr, hun, wz _⟩
    · have ei : i = xs.length := by omega
      subst ei
      rw [List.drop_length] at hlc
      simp only [lcL, Option.some.injEq, Prod.mk.injEq] at hlc
      obtain ⟨rfl, rfl⟩ := hlc
      simp only [keysD, Option.some.injEq] at hkr
      subst hkr
      obtain ⟨rb, h1, h2, h3⟩ := R.endBlk R1 x2 hGD R3 hpl' hno
      refine .inl ⟨w.stop { W2 with G := upd W1.G D (.dK kvs) } _ H3 en2 x2.F R3, D, kvs, rfl, h1, ?_⟩
      have e : (unlike [] ks).length = kvs.length := by
        rw [← hun]
        show ((kvs.map (·.1))).length = _
        simp
      rw [e] at q
      exact q _ { W2 with G := W1.G } H3 (x1.trans ⟨x2.F, rfl, x2.P⟩) rb (.int _)
  · cases hf
section
variable {X : Cx}
theorem se_lenDc {kx vx tg iter : Expr} {ifs : List Expr} {scope : Scope} {own : List (Str × Nat)} {p pos pos2 : Pos} {it : IF} {g : GF} {tt : TF} {tk : EF} {c : PyData} {ws : List Nat} (hc : X.calm = true) (hN : X.N.Nodup) (hgl : Gl X "len") (hml : X.mg "len" = none) (hi : SI X tg iter it) (ok : BlkOk X.N X.env.scope scope own)
    (hg : ∀ (s : Shared) (H : Hp) (C : Addr) (cl : List (Str × Addr)) (fp : List Addr), SG (X.blk s H scope (compEnvC scope cl C X.env) fp) tg g ws) (ht : ∀ (s : Shared) (H : Hp) (C : Addr) (cl : List (Str × Addr)) (fp : List Addr), STs (X.blk s H scope (compEnvC scope cl C X.env) fp) ifs tt)
    (hk : ∀ (s : Shared) (H : Hp) (C : Addr) (cl : List (Str × Addr)) (fp : List Addr), SE (X.blk s H scope (compEnvC scope cl C X.env) fp) kx tk) (hv : ∀ (s : Shared) (H : Hp) (C : Addr) (cl : List (Str × Addr)) (fp : List Addr), SE (X.blk s H scope (compEnvC scope cl C X.env) fp) vx (fC c))
    (hw : ∀ w ∈ ws, w ∈ own.map (·.2)) (hs : ∀ x, foldedSetIterable iter X.env x = pure x := by intro _; rfl) (na : starEach [.DictComp kx vx [⟨tg, iter, ifs, 0⟩] scope pos2] X.env = (false, eval (.DictComp kx vx [⟨tg, iter, ifs, 0⟩] scope pos2) X.env) :: starEach [] X.env := by rfl) :
    SE X (.Call (.Name "len" p) [.DictComp kx vx [⟨tg, iter, ifs, 0⟩] scope pos2] [] pos) (fLenDc it g tt tk (own.map (·.2))) := by
  have pd := pe_dc (vx := vx) (pos := pos2) hc hN (g := canG X.K g ws) (tt := canT X.K tt) (tk := canE X.K tk) (tv := canE X.K (fC c)) (pi_can hi) ok (fun s H C cl fp => pg_can (hg s H C cl fp)) (fun s H C cl fp => (ht s H C cl fp).run) (fun s H C cl fp => pe_can (hk s H C cl fp)) (fun s H C cl fp => pe_can (hv s H C cl fp)) hs
  refine ⟨_, pe_callB call_lenD hgl hml PySem.boot_len (pa_cons pd pa_nil na), fun W σ H en r en' Q hR hf q => ?_⟩
  have h := set_dc (c := c) hw W σ H en r en' Q hR hf q
  exact h
end
end L2.FL
set_option Elab.async false
set_option linter.all false
set_option maxRecDepth 100000
set_option maxHeartbeats 4000000
/-! FL22: chains of comparisons of any length. -/
namespace L2.FL
open PySem PySem.Spec PyProof.Rows L2

abbrev CF := RV → En → Option (RV × En)
def cLast (o : PyData → PyData → Option PyData) (g : EF) : CF := fun p en => (g en).bind fun q => (res q.2 p).bind fun x => (res q.2 q.1).bind fun y => (o x y).bind fun z => some (.d z, q.2)
def cLink (o : PyData → PyData → Option PyData) (g : EF) (c : CF) : CF := fun p en => (g en).bind fun q => (res q.2 p).bind fun x => (res q.2 q.1).bind fun y => (o x y).bind fun z => match z with
  | .bool true => c q.1 q.2
  | .bool false => some (.d (.bool false), q.2)
  | _ => none
def fCh (f : EF) (c : CF) : EF := fun en => (f en).bind fun p => c p.1 p.2
def tcLast (r : R2) (u : TE) : V → TE := fun x σ H Q => u σ H fun y H2 => r x y H2 Q
def tcLink (r : R2) (u : TE) (tc : V → TE) : V → TE := fun x σ H Q => u σ H fun y H2 => r x y H2 fun z H3 => ∃ k, z = .bl k ∧ (if k = true then tc y σ H3 Q else Q (.bl false) H3)
structure PCh (X : Cx) (ops : List CmpOp) (es : List Expr) (tc : V → TE) : Prop where
  run : ∀ (pos : Pos) (pins : List (Addr × Obj)) (s : Shared) (σ : St) (H : Hp) (x : V) (v : Value) (Q : VK), Inv X pins σ H s → RelV x v → tc x σ H Q → wpAny (model X.prog X.w) X.A (compareChain pos v ops (evalEach es X.env)) (EP X pins σ Q) X.xe s
  tst : ∀ (pos : Pos) (pins : List (Addr × Obj)) (s : Shared) (σ : St) (H : Hp) (x : V) (v : Value) (Q : Bool → Hp → Prop), Inv X pins σ H s → RelV x v → (tc x σ H fun z H' => ∃ k, z = .bl k ∧ Q k H') → wpAny (model X.prog X.w) X.A (testChain pos v ops (evalEach es X.env)) (TP X pins σ Q) X.xe s
def SCht (K : PySem.W.Frag) (tc : V → TE) (c : CF) : Prop := ∀ (W : Wd) (σ : St) (H : Hp) (en : En) (x : V) (p : RV) (r : RV) (en' : En) (Q : VK), R K W σ H en → RVal K W.F σ x p → c p en = some (r, en') →
  (∀ v W' H', Ext W W' → R K W' σ H' en' → RVal K W'.F σ v r → Q v H') → tc x σ H Q
structure SCh (X : Cx) (ops : List CmpOp) (es : List Expr) (c : CF) : Prop where
  run : ∃ tc, PCh X ops es tc ∧ SCht X.K tc c
section
variable {X : Cx}
theorem sc_last {op : CmpOp} {r : R2} {o : PyData → PyData → Option PyData} {b : Expr} {g : EF} (ho : OpR X (compareOp op) r) (s : S2 X.K r o) (hb : SE X b g) : SCh X [op] [b] (cLast o g) := by
  obtain ⟨u, hq, hu⟩ := hb.run
  refine ⟨tcLast r u, ⟨fun pos pins s σ H x v Q I rv h => ?_, fun pos pins s σ H x v Q I rv h => ?_⟩, fun W σ H en x p r0 en' Q hR hv hf q => ?_⟩
  · exact chain_last (thn (hq.run pins s σ H _ I h) fun w s1 ⟨y, H1, I1, r1, q1⟩ => ho pins s1 σ H1 x y v w Q I1 rv r1 q1)
  · refine test_last (thn (hq.run pins s σ H _ I h) fun w s1 ⟨y, H1, I1, r1, q1⟩ => thn (ho pins s1 σ H1 x y v w _ I1 rv r1 q1) fun d s2 ⟨z, H2, I2, r2, k, e2, q2⟩ => ?_)
    subst e2
    cases r2
    exact wpAny_truthy_bool ⟨H2, I2, q2⟩
  · simp only [cLast, Option.bind_eq_some_iff] at hf
    obtain ⟨⟨q4, en4⟩, e6, y', e7, u', e8, t', e9, hf⟩ := hf
    refine hu W σ H en q4 en4 _ hR e6 fun w' W4 H4 x4 R4 v4 => ?_
    cases hf
    obtain ⟨k1, k2⟩ := two_ends x4 R4 q
    exact s W4.F H4 x w' y' u' t' Q R4.subF (R4.res (hv.mono x4.F) e7) (R4.res v4 e8) e9 k1 k2
theorem sc_link {op op' : CmpOp} {ops : List CmpOp} {r : R2} {o : PyData → PyData → Option PyData} {b b' : Expr} {es : List Expr} {g : EF} {c : CF} (ho : OpR X (compareOp op) r) (s : S2 X.K r o) (hb : SE X b g) (hc : SCh X (op' :: ops) (b' :: es) c) : SCh X (op :: op' :: ops) (b :: b' :: es) (cLink o g c) := by
  obtain ⟨u, hq, hu⟩ := hb.run
  obtain ⟨tc, hp, ht⟩ := hc.run
  refine ⟨tcLink r u tc, ⟨fun pos pins s σ H x v Q I rv h => ?_, fun pos pins s σ H x v Q I rv h => ?_⟩, fun W σ H en x p r0 en' Q hR hv hf q => ?_⟩
  · refine chain_link (thn (hq.run pins s σ H _ I h) fun w s1 ⟨y, H1, I1, r1, q1⟩ => thn (ho pins s1 σ H1 x y v w _ I1 rv r1 q1) fun d s3 ⟨z, H3, I3, r3, k, e, q3⟩ => ?_)
    subst e
    cases r3
    refine wpAny_truthy_bool ?_
    cases k with
    | false => exact ite_ff ⟨.bl false, H3, I3, rfl, q3⟩
    | true => exact ite_tt (hp.run pos pins s3 σ H3 y w Q I3 r1 q3)
  · refine test_link (thn (hq.run pins s σ H _ I h) fun w s1 ⟨y, H1, I1, r1, q1⟩ => thn (ho pins s1 σ H1 x y v w _ I1 rv r1 q1) fun d s3 ⟨z, H3, I3, r3, k, e, q3⟩ => ?_)
    subst e
    cases r3
    refine wpAny_truthy_bool ?_
    cases k with
    | false =>
      obtain ⟨k', e', q'⟩ := q3
      cases e'
      exact ite_ff ⟨H3, I3, q'⟩
    | true => exact ite_tt (hp.tst pos pins s3 σ H3 y w Q I3 r1 q3)
  · simp only [cLink, Option.bind_eq_some_iff] at hf
    obtain ⟨⟨q2, en2⟩, e2, y', e3, u', e4, z, e5, hf⟩ := hf
    refine hu W σ H en q2 en2 _ hR e2 fun w W2 H2 x2 R2' v2 => ?_
    have dx := R2'.res (hv.mono x2.F) e3
    have dy := R2'.res v2 e4
    simp only at hf
    split at hf
    · have fin : ∀ (z' : V) (W3 : Wd) (H3 : Hp), Ext W2 W3 → R X.K W3 σ H3 en2 → RVal X.K W3.F σ z' (.d (.bool true)) → ∃ k, z' = .bl k ∧ (if k = true then tc w σ H3 Q else Q (.bl false) H3) := fun z' W3 H3 x3 R3 v3 => by
        refine ⟨true, rbool v3, ?_⟩
        rw [if_pos rfl]
        exact ht W3 σ H3 en2 w q2 r0 en' Q R3 (v2.mono x3.F) hf fun v W' H' x' R' v' => q v W' H' ((x2.trans x3).trans x') R' v'
      obtain ⟨k1, k2⟩ := two_ends (Ext.refl W2) R2' fin
      exact s W2.F H2 x w _ _ _ _ R2'.subF dx dy e5 k1 k2
    · have fin : ∀ (z' : V) (W3 : Wd) (H3 : Hp), Ext W2 W3 → R X.K W3 σ H3 en2 → RVal X.K W3.F σ z' (.d (.bool false)) → ∃ k, z' = .bl k ∧ (if k = true then tc w σ H3 Q else Q (.bl false) H3) := fun z' W3 H3 x3 R3 v3 => by
        refine ⟨false, rbool v3, ?_⟩
        rw [if_neg Bool.false_ne_true]
        cases hf
        exact q _ W3 H3 (x2.trans x3) R3 (.bl false)
      obtain ⟨k1, k2⟩ := two_ends (Ext.refl W2) R2' fin
      exact s W2.F H2 x w _ _ _ _ R2'.subF dx dy e5 k1 k2
    · cases hf
theorem set_ch {t : TE} {tc : V → TE} {f : EF} {c : CF} (ht : SEt X.K t f) (hc : SCht X.K tc c) : SEt X.K (fun σ H Q => t σ H fun x H1 => tc x σ H1 Q) (fCh f c) := by
  intro W σ H en r en' Q hR hf q
  simp only [fCh, Option.bind_eq_some_iff] at hf
  obtain ⟨⟨q1, en1⟩, e1, hf⟩ := hf
  exact ht W σ H en q1 en1 _ hR e1 fun v W1 H1 x1 R1 v1 => hc W1 σ H1 en1 v q1 r en' Q R1 v1 hf fun w W' H' x' R' v' => q w W' H' (x1.trans x') R' v'
theorem se_ch {op op' : CmpOp} {ops : List CmpOp} {a b b' : Expr} {es : List Expr} {f : EF} {c : CF} {pos : Pos} (ha : SE X a f) (hc : SCh X (op :: op' :: ops) (b :: b' :: es) c)
    (hm : lastMarks (op :: op' :: ops) (b :: b' :: es) = false := by with_unfolding_all rfl) : SE X (.Compare a (op :: op' :: ops) (b :: b' :: es) pos) (fCh f c) := by
  obtain ⟨t, hp, ht⟩ := ha.run
  obtain ⟨tc, pc, hc⟩ := hc.run
  exact ⟨_, ⟨fun pins s σ H Q I h => Compare_chain (thn (hp.run pins s σ H _ I h) fun v s1 ⟨x, H1, I1, r1, q1⟩ => pc.run pos pins s1 σ H1 x v Q I1 r1 q1) hm⟩, set_ch ht hc⟩
theorem st_ch {op op' : CmpOp} {ops : List CmpOp} {a b b' : Expr} {es : List Expr} {f : EF} {c : CF} {pos : Pos} (ha : SE X a f) (hc : SCh X (op :: op' :: ops) (b :: b' :: es) c)
    (hm : lastMarks (op :: op' :: ops) (b :: b' :: es) = false := by with_unfolding_all rfl) : ST X (.Compare a (op :: op' :: ops) (b :: b' :: es) pos) (fBool (fCh f c)) := by
  obtain ⟨t, hp, ht⟩ := ha.run
  obtain ⟨tc, pc, hc⟩ := hc.run
  refine ⟨_, ⟨fun pins s σ H Q I h => ?_⟩, stt_bool (set_ch ht hc)⟩
  exact isTrue_chain (thn (hp.run pins s σ H _ I h) fun v s1 ⟨x, H1, I1, r1, q1⟩ => pc.tst pos pins s1 σ H1 x v Q I1 r1 q1) hm
end
end L2.FL
set_option Elab.async false
set_option linter.all false
set_option maxRecDepth 100000
set_option maxHeartbeats 4000000
/-! FL23: comprehensions over rows that are told by a Lean type; data that are alike; pairs; sorted. -/
namespace L2.FL
open PySem PySem.Spec PyProof.Rows L2

def O (o : Option SV) : Prop := o = none ∨ ∃ y, o = some (.d y)
theorem O.non : O none := .inl rfl
theorem O.dat (x : PyData) : O (some (.d x)) := .inr ⟨x, rfl⟩
/-! ### comprehensions -/
theorem lcL_enc {α : Type} {g : GF} {tt : TF} {te : EF} {vs : List Nat} {e : α → PyData} {en : En} (F : α → Option PyData) : ∀ {as : List α}, (∀ a ∈ as, lcStep g tt te vs (e a) en = some (F a, en)) → lcL g tt te vs (as.map e) en = some (as.filterMap F, en)
  | [], _ => rfl
  | a :: as, h => by
    rw [List.map_cons, lcL_step (h a (by simp)), lcL_enc F (fun y hy => h y (by simp [hy]))]
    cases hF : F a with
    | none => simp [hF]
    | some y => simp [hF]
/-- [f a for a in as], told by e; some are left out -/
theorem fLc_enc {α : Type} {it : IF} {g : GF} {tt : TF} {te : EF} {vs : List Nat} {en en1 : En} {as : List α} (e : α → PyData) (F : α → Option PyData) (h1 : it en = some (as.map e, en1)) (h2 : as.length ≤ 1000000) (h3 : vs.all (plainAt en1) = true)
    (h : ∀ a ∈ as, lcStep g tt te vs (e a) (wipeE en1 vs) = some (F a, wipeE en1 vs)) : fLc it g tt te vs en = some (as.filterMap F, backE en1 (wipeE en1 vs) vs) := by
  simp only [fLc, h1, Option.bind_some, lcL_enc F h]
  rw [if_pos ⟨small_size (by simpa using h2), h3⟩]
/-- all of them -/
theorem fLc_all {α : Type} {it : IF} {g : GF} {tt : TF} {te : EF} {vs : List Nat} {en en1 : En} {as : List α} (e f : α → PyData) (h1 : it en = some (as.map e, en1)) (h2 : as.length ≤ 1000000) (h3 : vs.all (plainAt en1) = true)
    (h : ∀ a ∈ as, lcStep g tt te vs (e a) (wipeE en1 vs) = some (some (f a), wipeE en1 vs)) : fLc it g tt te vs en = some (as.map f, backE en1 (wipeE en1 vs) vs) := by
  rw [fLc_enc e (fun a => some (f a)) h1 h2 h3 h]
  simp
/-- those with p -/
theorem fLc_fil {α : Type} {it : IF} {g : GF} {tt : TF} {te : EF} {vs : List Nat} {en en1 : En} {as : List α} (e : α → PyData) (p : α → Bool) (f : α → PyData) (h1 : it en = some (as.map e, en1)) (h2 : as.length ≤ 1000000) (h3 : vs.all (plainAt en1) = true)
    (h : ∀ a ∈ as, lcStep g tt te vs (e a) (wipeE en1 vs) = some (if p a = true then some (f a) else none, wipeE en1 vs)) : fLc it g tt te vs en = some ((as.filter p).map f, backE en1 (wipeE en1 vs) vs) := by
  rw [fLc_enc e (fun a => if p a = true then some (f a) else none) h1 h2 h3 h]
  have : ∀ l : List α, (l.filterMap fun a => if p a = true then some (f a) else none) = (l.filter p).map f := fun l => by
    induction l with
    | nil => rfl
    | cons a l ih =>
      rw [List.filterMap_cons, List.filter_cons]
      by_cases c : p a = true
      · simp [c, ih]
      · simp [c, ih]
  rw [this]
theorem lc2L_enc {α : Type} {g g1 : GF} {tt tt1 : TF} {it1 : IF} {te : EF} {vs vs1 : List Nat} {e : α → PyData} {en : En} (F : α → List PyData) : ∀ {as : List α}, (∀ a ∈ as, lc2Step g tt it1 g1 tt1 te vs vs1 (e a) en = some (F a, en)) → lc2L g tt it1 g1 tt1 te vs vs1 (as.map e) en = some (as.flatMap F, en)
  | [], _ => rfl
  | a :: as, h => by
    have h0 := h a (by simp)
    have ih := lc2L_enc F (as := as) (en := en) fun y hy => h y (by simp [hy])
    simp only [lc2Step, Option.bind_eq_some_iff] at h0
    obtain ⟨e1, h1, ⟨b, e2⟩, h2, h0⟩ := h0
    rw [List.map_cons]
    simp only [lc2L, h1, h2, Option.bind_some]
    cases b with
    | true =>
      simp only [if_true, Option.bind_eq_some_iff] at h0 ⊢
      obtain ⟨⟨ys, e3⟩, h3, ⟨zs, e4⟩, h4, h0⟩ := h0
      simp only [Option.some.injEq, Prod.mk.injEq] at h0
      obtain ⟨rfl, h5⟩ := h0
      exact ⟨_, h3, _, h4, _, by rw [h5]; exact ih, by simp⟩
    | false =>
      simp only [Bool.false_eq_true, if_false, Option.some.injEq, Prod.mk.injEq] at h0 ⊢
      obtain ⟨h4, h5⟩ := h0
      rw [h5, ih, List.flatMap_cons, ← h4]
      rfl
theorem fLc2_enc {α : Type} {it it1 : IF} {g g1 : GF} {tt tt1 : TF} {te : EF} {vs vs1 : List Nat} {en en1 : En} {as : List α} (e : α → PyData) (F : α → List PyData) (h1 : it en = some (as.map e, en1)) (h2 : (as.flatMap F).length ≤ 1000000) (h3 : vs.all (plainAt en1) = true)
    (h : ∀ a ∈ as, lc2Step g tt it1 g1 tt1 te vs vs1 (e a) (wipeE en1 vs) = some (F a, wipeE en1 vs)) : fLc2 it g tt it1 g1 tt1 te vs vs1 en = some (as.flatMap F, backE en1 (wipeE en1 vs) vs) := by
  simp only [fLc2, h1, Option.bind_some, lc2L_enc F h]
  rw [if_pos h3, if_pos (small_size h2)]
/-! ### places -/
theorem atI_at {xs : List PyData} {i : Nat} {x : PyData} (h : xs[i]? = some x) : atI xs (i : Int) = some x := by
  have hl := (List.getElem?_eq_some_iff.mp h).1
  unfold atI ixN
  rw [if_pos (by omega), if_pos (by omega)]
  simpa using h
theorem atI_last {xs : List PyData} {x : PyData} : atI (xs ++ [x]) (-1) = some x := by
  unfold atI ixN
  rw [if_neg (by decide), if_pos (by simp; omega)]
  rw [show ((-1 : Int) + ((xs ++ [x]).length : Nat)).toNat = xs.length by simp; omega]
  simp
theorem enumD_map {α : Type} (e : α → PyData) : ∀ (as : List α) (k : Nat), enumD k (as.map e) = (as.zipIdx k).map fun q => .tuple [.int (q.2 : Int), e q.1]
  | [], _ => rfl
  | a :: as, k => by rw [List.map_cons, enumD, enumD_map e as (k + 1), List.zipIdx_cons, List.map_cons]
/-! ### data that are alike in all -/
structure Nice (k n : Nat) (d : PyData) : Prop where
  sh : d.showable = true
  pl : d.plain = true
  dp : d.depth ≤ k
  ln : d.shown.length ≤ n
theorem Nice.int {n : Int} (h : n.natAbs < 10 ^ 18) : Nice 0 19 (.int n) := by
  refine ⟨?_, by simp [PyData.plain], by simp [PyData.depth], ?_⟩
  · have := showableI [n] (by simpa using h)
    simpa [PyData.showableAll] using this
  · unfold PyData.shown
    exact int_str_len h
theorem Nice.mono {k n k' n' : Nat} {d : PyData} (h : Nice k n d) (hk : k ≤ k') (hn : n ≤ n') : Nice k' n' d := ⟨h.sh, h.pl, Nat.le_trans h.dp hk, Nat.le_trans h.ln hn⟩
theorem Nice.non : Nice 0 4 .none := ⟨by simp [PyData.showable], by simp [PyData.plain], by simp [PyData.depth], by rw [PyData.shown_none]; decide⟩
theorem Nice.bool (b : Bool) : Nice 0 5 (.bool b) := ⟨by simp [PyData.showable], by simp [PyData.plain], by simp [PyData.depth], by rw [PyData.shown_bool]; cases b <;> decide⟩
theorem Nice.str {s : Str} {n : Nat} (h : (PyData.shown (.str s)).length ≤ n) : Nice 0 n (.str s) := ⟨by simp [PyData.showable], by simp [PyData.plain], by simp [PyData.depth], h⟩
theorem Nice.rows {k n : Nat} : ∀ {xs : List PyData}, (∀ x ∈ xs, Nice k n x) → PyData.showableAll xs = true ∧ PyData.plainAll xs = true ∧ PyData.depthAll xs ≤ k ∧ piled (PyData.shownAll xs) ≤ xs.length * (n + 2)
  | [], _ => ⟨by simp [PyData.showableAll], by simp [PyData.plainAll], by simp [PyData.depthAll], by simp [PyData.shownAll, piled]⟩
  | x :: xs, h => by
    obtain ⟨a, b, c, d⟩ := Nice.rows (xs := xs) fun y hy => h y (by simp [hy])
    have hx := h x (by simp)
    refine ⟨by simp [PyData.showableAll, hx.sh, a], by simp [PyData.plainAll, hx.pl, b], ?_, ?_⟩
    · rw [PyData.depthAll]
      exact Nat.max_le.mpr ⟨hx.dp, c⟩
    · rw [PyData.shownAll, piled_cons, List.length_cons, Nat.add_mul]
      have := hx.ln
      omega
theorem join_le (ts : List Str) : (Str.join ", " ts).length ≤ piled ts := by
  by_cases hn : ts = []
  · subst hn
    exact Nat.zero_le _
  · have := join_length_add ts hn
    omega
theorem Nice.tuple {k n m : Nat} {xs : List PyData} (h : ∀ x ∈ xs, Nice k n x) (hm : xs.length ≤ m) : Nice (k + 1) (m * (n + 2) + 3) (.tuple xs) := by
  obtain ⟨a, b, c, d⟩ := Nice.rows h
  refine ⟨by unfold PyData.showable; exact a, by unfold PyData.plain; exact b, by unfold PyData.depth; omega, ?_⟩
  have e3 := join_le (PyData.shownAll xs)
  have e4 := Nat.mul_le_mul_right (n + 2) hm
  rw [PyData.shown_tuple, strLen_append, strLen_append]
  have e1 : (("(" : String) : Str).length = 1 := rfl
  have e2 : ((if xs.length == 1 then ",)" else ")" : String) : Str).length ≤ 2 := by
    split
    · exact Nat.le_refl _
    · exact Nat.le_succ _
  omega
theorem Nice.list {k n m : Nat} {xs : List PyData} (h : ∀ x ∈ xs, Nice k n x) (hm : xs.length ≤ m) : Nice (k + 1) (m * (n + 2) + 3) (.list xs) := by
  obtain ⟨a, b, c, d⟩ := Nice.rows h
  refine ⟨by unfold PyData.showable; exact a, by unfold PyData.plain; exact b, by unfold PyData.depth; omega, ?_⟩
  have e3 := join_le (PyData.shownAll xs)
  have e4 := Nat.mul_le_mul_right (n + 2) hm
  rw [PyData.shown_list, strLen_append, strLen_append]
  have e1 : (("[" : String) : Str).length = 1 := rfl
  have e2 : (("]" : String) : Str).length = 1 := rfl
  omega
theorem Nice.okd {k n : Nat} {d : PyData} (h : Nice k n d) (hk : k ≤ 64) : okd d = true := by
  have := h.dp
  simp [FL.okd, h.pl]
  omega
theorem Nice.eq {k n : Nat} {d : PyData} (h : Nice k n d) (hk : k ≤ 64) : oEq d d = some (.bool true) := by
  simp [oEq, h.okd hk, PySem.SeqAt.eqv_refl_plain d h.pl]
theorem Nice.ne {k n : Nat} {d : PyData} (h : Nice k n d) (hk : k ≤ 64) : oNe d d = some (.bool false) := by
  simp [oNe, h.okd hk, PySem.SeqAt.eqv_refl_plain d h.pl]
theorem Nice.repr {k n : Nat} {d : PyData} (h : Nice k n d) (hk : k ≤ 64) (hn : n ≤ 1000000) : oRepr [d] = some (.str d.shown) := by
  have := h.ln
  simp only [oRepr, h.sh, h.okd hk, Bool.true_and]
  rw [if_pos (decide_eq_true (small_size (by omega)))]
/-! ### pairs of numbers -/
theorem pr_eqv (p q : Int × Int) : PyData.eqv (pr p) (pr q) = decide (p = q) := by
  obtain ⟨a, b⟩ := p
  obtain ⟨c, d⟩ := q
  have e1 : (a == c) = decide (a = c) := rfl
  have e2 : (b == d) = decide (b = d) := rfl
  simp [pr, PyData.eqv, PyData.eqvAll, e1, e2]
theorem anyP (ps : List (Int × Int)) (p : Int × Int) : anyEq (ps.map pr) (pr p) = decide (p ∈ ps) := by
  rw [Bool.eq_iff_iff]
  simp only [anyEq, List.any_map, List.any_eq_true, Function.comp, pr_eqv, decide_eq_true_eq]
  exact ⟨fun ⟨q, h1, h2⟩ => h2 ▸ h1, fun h => ⟨p, h, rfl⟩⟩
theorem okd_pr (p : Int × Int) : okd (pr p) = true := by simp [okd, pr, PyData.plain, PyData.plainAll, PyData.depth, PyData.depthAll]
theorem inP (ps : List (Int × Int)) (p : Int × Int) : oIn (pr p) (.tuple (ps.map pr)) = some (.bool (decide (p ∈ ps))) := by simp [oIn, okdP, okd_pr, anyP]
theorem notInP (ps : List (Int × Int)) (p : Int × Int) : oNotIn (pr p) (.tuple (ps.map pr)) = some (.bool (!decide (p ∈ ps))) := by simp [oNotIn, okdP, okd_pr, anyP]
/-! ### one row of each kind that is in order -/
theorem ext_lt {α : Type} {lt : α → α → Prop} (as_ : ∀ a b, lt a b → ¬ lt b a) : ∀ {a b : List α}, a.Pairwise lt → b.Pairwise lt → (∀ x, x ∈ a ↔ x ∈ b) → a = b
  | [], [], _, _, _ => rfl
  | [], y :: b, _, _, h => absurd ((h y).mpr (by simp)) (by simp)
  | x :: a, [], _, _, h => absurd ((h x).mp (by simp)) (by simp)
  | x :: a, y :: b, h1, h2, h => by
    rw [List.pairwise_cons] at h1 h2
    have e : x = y := by
      rcases List.mem_cons.mp ((h x).mp (by simp)) with e | e
      · exact e
      · rcases List.mem_cons.mp ((h y).mpr (by simp)) with e' | e'
        · exact e'.symm
        · exact absurd (h1.1 y e') (as_ _ _ (h2.1 x e))
    subst e
    rw [ext_lt as_ h1.2 h2.2 fun z => ?_]
    have hx1 : ¬ x ∈ a := fun q => as_ _ _ (h1.1 x q) (h1.1 x q)
    have hx2 : ¬ x ∈ b := fun q => as_ _ _ (h2.1 x q) (h2.1 x q)
    have hz := h z
    simp only [List.mem_cons] at hz
    constructor
    · intro q
      rcases hz.mp (.inr q) with e | e
      · exact absurd (e ▸ q) hx1
      · exact e
    · intro q
      rcases hz.mpr (.inr q) with e | e
      · exact absurd (e ▸ q) hx2
      · exact e
def ltP (p q : Int × Int) : Prop := p.1 < q.1 ∨ (p.1 = q.1 ∧ p.2 < q.2)
instance (p q : Int × Int) : Decidable (ltP p q) := inferInstanceAs (Decidable (_ ∨ _))
theorem ltP_asymm (p q : Int × Int) (h : ltP p q) : ¬ ltP q p := by unfold ltP at *; omega
def leP (p q : Int × Int) : Bool := !decide (ltP q p)
theorem leP_iff (p q : Int × Int) : leP p q = true ↔ (p.1 < q.1 ∨ (p.1 = q.1 ∧ p.2 ≤ q.2)) := by
  unfold leP
  rw [Bool.not_eq_true', decide_eq_false_iff_not]
  unfold ltP
  omega
theorem leP_trans (a b c : Int × Int) (h1 : leP a b = true) (h2 : leP b c = true) : leP a c = true := by
  rw [leP_iff] at *
  omega
theorem leP_total (a b : Int × Int) : (leP a b || leP b a) = true := by
  rw [Bool.or_eq_true, leP_iff, leP_iff]
  omega
theorem dataLe_pr (p q : Int × Int) : PySem.W.dataLe false id (pr p) (pr q) = leP p q := by
  have e : PySem.W.dataLt (pr q) (pr p) = decide (ltP q p) := PySem.W.dataLt_ii _ _ _ _
  unfold leP
  rw [← e]
  rfl
theorem sortD_pr (ps : List (Int × Int)) : sortD (ps.map pr) = (ps.mergeSort leP).map pr := by
  unfold sortD
  rw [List.map_mergeSort]
  intro a _ b _
  exact (dataLe_pr a b).symm
theorem sortOk_pr {ps : List (Int × Int)} (h : ps.length ≤ 1000000) : sortOk (ps.map pr) = true := by
  have h2 : ps.length ≤ sizeLine := small_size h
  simp only [sortOk, Bool.and_eq_true, okdP, List.all_eq_true, decide_eq_true_eq, List.length_map, Bool.or_eq_true]
  refine ⟨⟨⟨?_, trivial⟩, h2⟩, .inl ?_⟩
  · intro x hx y hy
    obtain ⟨p, _, rfl⟩ := List.mem_map.mp hx
    obtain ⟨q, _, rfl⟩ := List.mem_map.mp hy
    simp [pr, PySem.W.alike, PySem.W.alikeAll]
  · intro x hx
    obtain ⟨p, _, rfl⟩ := List.mem_map.mp hx
    rfl
/-- sorted(pairs), no two alike: the one row in order with the same members -/
theorem sortedP {ps qs : List (Int × Int)} (h : ps.length ≤ 1000000) (hn : ps.Nodup) (hq : qs.Pairwise ltP) (hm : ∀ x, x ∈ ps ↔ x ∈ qs) : oSorted [.list (ps.map pr)] = some (qs.map pr) := by
  have e : ps.mergeSort leP = qs := by
    have pm := List.mergeSort_perm ps leP
    have nd : (ps.mergeSort leP).Nodup := pm.nodup_iff.mpr hn
    have so := List.pairwise_mergeSort (le := leP) leP_trans leP_total ps
    refine ext_lt ltP_asymm (List.Pairwise.imp (fun {a b} hab => ?_) (so.and nd)) hq fun x => (pm.mem_iff).trans (hm x)
    obtain ⟨h1, h2⟩ := hab
    rw [leP_iff] at h1
    by_cases c : ltP a b
    · exact c
    · exfalso
      apply h2
      unfold ltP at *
      have e1 : a.1 = b.1 := by omega
      have e2 : a.2 = b.2 := by omega
      exact Prod.ext e1 e2
  show (if sortOk (ps.map pr) then some (sortD (ps.map pr)) else none) = _
  rw [sortOk_pr h, sortD_pr, e]
  rfl
/-- sorted(..)[0] of pairs: a least one -/
theorem sortedP_min {ps : List (Int × Int)} (h : ps.length ≤ 1000000) (hn : ps ≠ []) : ∃ q rs, q ∈ ps ∧ (∀ r ∈ ps, ¬ ltP r q) ∧ oSorted [.list (ps.map pr)] = some (pr q :: rs) := by
  have pm := List.mergeSort_perm ps leP
  have so := List.pairwise_mergeSort (le := leP) leP_trans leP_total ps
  cases e : ps.mergeSort leP with
  | nil => rw [e] at pm; exact absurd pm.symm.eq_nil hn
  | cons q rs =>
    rw [e] at so pm
    rw [List.pairwise_cons] at so
    refine ⟨q, rs.map pr, pm.mem_iff.mp (by simp), fun r hr => ?_, ?_⟩
    · rcases List.mem_cons.mp (pm.mem_iff.mpr hr) with rfl | hr
      · exact fun q => ltP_asymm _ _ q q
      · have := so.1 r hr
        simpa [leP] using this
    · show (if sortOk (ps.map pr) then some (sortD (ps.map pr)) else none) = _
      rw [sortOk_pr h, sortD_pr, e]
      rfl
/-! the row is read with no change -/
theorem fLc_all' {α : Type} {it : IF} {g : GF} {tt : TF} {te : EF} {vs : List Nat} {en : En} {as : List α} (e f : α → PyData) (h1 : it en = some (as.map e, en)) (h2 : as.length ≤ 1000000) (h3 : vs.all (plainAt en) = true)
    (h : ∀ a ∈ as, lcStep g tt te vs (e a) (wipeE en vs) = some (some (f a), wipeE en vs)) : fLc it g tt te vs en = some (as.map f, backE en (wipeE en vs) vs) := fLc_all e f h1 h2 h3 h
theorem fLc_fil' {α : Type} {it : IF} {g : GF} {tt : TF} {te : EF} {vs : List Nat} {en : En} {as : List α} (e : α → PyData) (p : α → Bool) (f : α → PyData) (h1 : it en = some (as.map e, en)) (h2 : as.length ≤ 1000000) (h3 : vs.all (plainAt en) = true)
    (h : ∀ a ∈ as, lcStep g tt te vs (e a) (wipeE en vs) = some (if p a = true then some (f a) else none, wipeE en vs)) : fLc it g tt te vs en = some ((as.filter p).map f, backE en (wipeE en vs) vs) := fLc_fil e p f h1 h2 h3 h
theorem fLc2_enc' {α : Type} {it it1 : IF} {g g1 : GF} {tt tt1 : TF} {te : EF} {vs vs1 : List Nat} {en : En} {as : List α} (e : α → PyData) (F : α → List PyData) (h1 : it en = some (as.map e, en)) (h2 : (as.flatMap F).length ≤ 1000000) (h3 : vs.all (plainAt en) = true)
    (h : ∀ a ∈ as, lc2Step g tt it1 g1 tt1 te vs vs1 (e a) (wipeE en vs) = some (F a, wipeE en vs)) : fLc2 it g tt it1 g1 tt1 te vs vs1 en = some (as.flatMap F, backE en (wipeE en vs) vs) := fLc2_enc e F h1 h2 h3 h
/-- all(..) of a row of true -/
theorem allT {α : Type} (as : List α) : oAll [.list (as.map fun _ => PyData.bool true)] = some (.bool true) := by
  have e : (as.map fun _ => PyData.bool true) = (as.map fun _ => true).map .bool := by simp
  rw [e, allB]
  simp
@[simp] theorem x_fCh {f : EF} {c : CF} {en : En} : fCh f c en = (f en).bind fun p => c p.1 p.2 := rfl
@[simp] theorem x_cLast {o : PyData → PyData → Option PyData} {g : EF} {p : RV} {en : En} : cLast o g p en = (g en).bind fun q => (res q.2 p).bind fun x => (res q.2 q.1).bind fun y => (o x y).bind fun z => some (.d z, q.2) := rfl
@[simp] theorem x_cLink {o : PyData → PyData → Option PyData} {g : EF} {c : CF} {p : RV} {en : En} : cLink o g c p en = (g en).bind fun q => (res q.2 p).bind fun x => (res q.2 q.1).bind fun y => (o x y).bind fun z => match z with
  | .bool true => c q.1 q.2
  | .bool false => some (.d (.bool false), q.2)
  | _ => none := rfl
@[simp] theorem x_fLr1 {f : EF} {en : En} : fLr1 f en = (f en).bind fun p => (asInt p.1).bind fun n => if L2.RgOk 0 n then some (rngL 0 (n - 0).toNat, p.2) else none := rfl
theorem rgOk_of {a b : Int} (h1 : -1000000 ≤ a) (h2 : b ≤ 1000000) (h3 : a ≤ 1000000) (h4 : -1000000 ≤ b) : L2.RgOk a b := by
  unfold L2.RgOk
  have := sizeLine_eq
  omega
end L2.FL
set_option Elab.async false
set_option linter.all false
set_option maxRecDepth 100000
set_option maxHeartbeats 4000000
/-! FL24: first places; rows of places; loops over rows that are told by a Lean type. -/
namespace L2.FL
open PySem PySem.Spec PyProof.Rows L2

/-- a loop over a row told by e; I holds from turn to turn, no turn leaves -/
theorem forL_enc {α : Type} {g : GF} {b : SF} {e : α → PyData} (I : Nat → En → Prop) : ∀ {as : List α} {k : Nat} {en : En}, (∀ i a en, as[i]? = some a → I (k + i) en → ∃ o en2, ((g (e a) en).bind b) = some (o, en2) ∧ (o = .nx ∨ o = .ct) ∧ I (k + i + 1) en2) → I k en →
    ∃ en', forL g b (as.map e) en = some (.nx, en') ∧ I (k + as.length) en'
  | [], k, en, _, hi => ⟨en, rfl, hi⟩
  | a :: as, k, en, h, hi => by
    obtain ⟨o, en2, e1, h2, h3⟩ := h 0 a en rfl (by simpa using hi)
    obtain ⟨en1, e3, e4⟩ := Option.bind_eq_some_iff.mp e1
    obtain ⟨en', e5, h5⟩ := forL_enc I (as := as) (k := k + 1) (en := en2) (fun i y en hy hI => by
        have := h (i + 1) y en (by simpa using hy) (by rw [show k + (i + 1) = k + 1 + i by omega]; exact hI)
        rwa [show k + (i + 1) + 1 = k + 1 + i + 1 by omega] at this) (by simpa using h3)
    rw [List.map_cons, x_forL1, e3, Option.bind_some, e4, Option.bind_some]
    refine ⟨en', ?_, by rw [List.length_cons, show k + (as.length + 1) = k + 1 + as.length by omega]; exact h5⟩
    rcases h2 with rfl | rfl <;> exact e5
/-- the same, when I does not count -/
theorem forL_same {α : Type} {g : GF} {b : SF} {e : α → PyData} (I : En → Prop) {as : List α} {en : En} (h : ∀ a ∈ as, ∀ en, I en → ∃ o en2, ((g (e a) en).bind b) = some (o, en2) ∧ (o = .nx ∨ o = .ct) ∧ I en2) (hi : I en) :
    ∃ en', forL g b (as.map e) en = some (.nx, en') ∧ I en' :=
  forL_enc (fun _ => I) (k := 0) (fun i a en ha hI => h a (List.mem_of_getElem? ha) en hI) hi
/-! ### first places -/
def fstAt : List Int → Int → Nat
  | [], _ => 0
  | n :: r, m => if n = m then 0 else fstAt r m + 1
theorem fstAt_spec : ∀ {ns : List Int} {m : Int}, m ∈ ns → ns[fstAt ns m]? = some m ∧ ∀ i, i < fstAt ns m → ns[i]? ≠ some m
  | [], m, h => by cases h
  | n :: r, m, h => by
    unfold fstAt
    by_cases e : n = m
    · rw [if_pos e]
      exact ⟨by simp [e], fun i hi => absurd hi (Nat.not_lt_zero _)⟩
    · rw [if_neg e]
      have hm : m ∈ r := by
        rcases List.mem_cons.mp h with q | q
        · exact absurd q.symm e
        · exact q
      obtain ⟨h1, h2⟩ := fstAt_spec hm
      refine ⟨by simpa using h1, fun i hi => ?_⟩
      cases i with
      | zero => simpa using e
      | succ i => simpa using h2 i (by omega)
theorem fstAt_lt {ns : List Int} {m : Int} (h : m ∈ ns) : fstAt ns m < ns.length := (List.getElem?_eq_some_iff.mp (fstAt_spec h).1).1
theorem findIdx1 : ∀ (ns : List Int) (m : Int), m ∈ ns → ((ns.map PyData.int).findIdx? fun z => PyData.eqv z (.int m)) = some (fstAt ns m)
  | [], m, h => by cases h
  | n :: r, m, h => by
    unfold fstAt
    rw [List.map_cons, List.findIdx?_cons]
    by_cases e : n = m
    · subst e
      simp [PyData.eqv]
    · have hm : m ∈ r := by
        rcases List.mem_cons.mp h with q | q
        · exact absurd q.symm e
        · exact q
      have : PyData.eqv (.int n) (.int m) = false := by simp [PyData.eqv, e]
      rw [this, findIdx1 r m hm, if_neg e]
      rfl
theorem index1 {ns : List Int} {m : Int} (h : m ∈ ns) : oIndex (.list (ns.map .int)) (.int m) = some (.int (fstAt ns m)) := by
  have s1 : SeqAt.shaped (.list (ns.map .int)) = true := by simp [SeqAt.shaped, PyData.canLay0, canLayI, PyData.depth, depthI]
  have s2 : SeqAt.shaped (.int m) = true := by simp [SeqAt.shaped, PyData.canLay0, PyData.depth]
  show (if SeqAt.shaped (.list (ns.map .int)) && SeqAt.shaped (.int m) then ((ns.map PyData.int).findIdx? fun z => PyData.eqv z (.int m)).map fun j => PyData.int (j : Nat) else none) = _
  rw [s1, s2, findIdx1 ns m h]
  rfl
/-- the first one of a row in order that has p -/
theorem fil_head {l : List Nat} {p : Nat → Bool} {x : Nat} (hs : l.Pairwise (· < ·)) (hx : x ∈ l) (px : p x = true) (hm : ∀ y ∈ l, y < x → p y = false) : ∃ r, l.filter p = x :: r := by
  induction l with
  | nil => cases hx
  | cons a l ih =>
    rw [List.pairwise_cons] at hs
    rcases List.mem_cons.mp hx with rfl | hx
    · exact ⟨_, by rw [List.filter_cons, if_pos px]⟩
    · obtain ⟨r, hr⟩ := ih hs.2 hx fun y hy hlt => hm y (by simp [hy]) hlt
      have := hm a (by simp) (hs.1 x hx)
      exact ⟨r, by rw [List.filter_cons, if_neg (by simp [this]), hr]⟩
abbrev nI (i : Nat) : PyData := .int (i : Int)
theorem rngL_nat (n : Nat) : rngL 0 n = (List.range n).map nI := by
  unfold rngL
  apply List.map_congr_left
  intro i _
  simp
theorem range_getD {α β : Type} (xs : List α) (d : α) (f : α → β) : (List.range xs.length).map (fun i => f (xs.getD i d)) = xs.map f := by
  apply List.ext_getElem?
  intro i
  by_cases h : i < xs.length
  · simp [h]
  · simp [h]
theorem atI_nat {α : Type} {xs : List α} {i : Nat} (e : α → PyData) (d : α) (h : i < xs.length) : atI (xs.map e) (i : Int) = some (e (xs.getD i d)) := atI_at (by simp [h])
theorem mem_nI {ns : List Nat} {i : Nat} : (i : Int) ∈ ns.map (fun (i : Nat) => (i : Int)) ↔ i ∈ ns := by
  simp only [List.mem_map]
  exact ⟨fun ⟨a, h, e⟩ => by rw [show i = a by omega]; exact h, fun h => ⟨i, h, rfl⟩⟩
theorem map_nI (ns : List Nat) : ns.map nI = (ns.map fun (i : Nat) => (i : Int)).map .int := by rw [List.map_map]; rfl
/-! ### _law_same, for any data -/
theorem nice_pr {p : Int × Int} (h1 : p.1.natAbs < 10 ^ 18) (h2 : p.2.natAbs < 10 ^ 18) : Nice 1 45 (pr p) := Nice.tuple (k := 0) (n := 19) (m := 2) (xs := [.int p.1, .int p.2]) (fun x hx => by
  simp only [List.mem_cons, List.not_mem_nil, or_false] at hx
  rcases hx with rfl | rfl
  · exact Nice.int h1
  · exact Nice.int h2) (by simp)
end L2.FL
set_option Elab.async false
set_option linter.all false
set_option maxRecDepth 100000
set_option maxHeartbeats 4000000
/-! FL25: xs[::-1] of lists, tuples, texts; xs.extend(ys). -/
namespace L2.FL
open PySem PySem.Spec PyProof.Rows L2

theorem adjust_back (n : Nat) : Builtin.Slice.sliceAdjust none none (-1) (n : Int) = ((n : Int) - 1, -1) := by
  unfold Builtin.Slice.sliceAdjust
  simp
theorem places_back (n : Nat) : Builtin.Slice.slicePlaces ((n : Int) - 1) (-1) (-1) = n := by
  unfold Builtin.Slice.slicePlaces
  have h1 : ¬ ((-1 : Int) > 0) := by decide
  simp only [h1, if_false]
  split
  · rw [show (-(-1) : Int) = 1 from rfl, Int.ediv_one]
    omega
  · omega
theorem fm_congr {α β : Type} {f g : α → Option β} : ∀ {l : List α}, (∀ m ∈ l, f m = g m) → l.filterMap f = l.filterMap g
  | [], _ => rfl
  | a :: l, h => by rw [List.filterMap_cons, List.filterMap_cons, h a (by simp), fm_congr fun m hm => h m (by simp [hm])]
theorem pick_back {α : Type} (xs : List Value) : ((List.range xs.length).filterMap fun (m : Nat) => xs.toArray[((xs.length : Int) - 1 + (m : Int) * -1).toNat]?).toArray = xs.reverse.toArray := by
  have h := HT.pick_gen xs.reverse.toArray 0 xs.length
  rw [List.drop_zero, List.take_of_length_le (by simp)] at h
  rw [← h]
  congr 1
  refine fm_congr fun m hm => ?_
  have hm := List.mem_range.mp hm
  rw [show ((xs.length : Int) - 1 + (m : Int) * -1).toNat = xs.length - 1 - m by omega, show (((0 : Nat) : Int) + (m : Int) * 1).toNat = m by omega]
  simp [List.getElem?_reverse hm]
/-- a text turned round -/
def revS (z : Str) : Str := ⟨((Builtin.Str.strSliceIndices none none (-1) z.length).filterMap (z.cps[·]?)).toArray⟩
def oRev : PyData → Option PyData
  | .list xs => some (.list xs.reverse)
  | .tuple xs => some (.tuple xs.reverse)
  | .str z => if (revS z).length ≤ sizeLine then some (.str (revS z)) else none
  | _ => none
theorem dpa_rev {K : PySem.W.Frag} {H : Hp} : ∀ {vs : List V} {ds : List PyData}, DqAll K H vs ds → DqAll K H vs.reverse ds.reverse
  | [], _, h => by cases h; exact .nil
  | v :: vs, _, h => by
    cases h with
    | cons h1 h2 =>
      rw [List.reverse_cons, List.reverse_cons]
      exact dpa_app (dpa_rev h2) (.cons h1 .nil)
def rRev (K : PySem.W.Frag) : V → Hp → VK → Prop := fun x H Q => (∃ a xs, x = .ref a ∧ SqL K H a xs ∧ ∀ p, H p = none → Q (.ref p) (upd H p (.lst xs.reverse))) ∨ (∃ a xs, x = .ref a ∧ SqT K H a xs ∧ ∀ p, H p = none → Q (.ref p) (upd H p (.tup xs.reverse))) ∨ (∃ z, x = .str z ∧ (revS z).length ≤ sizeLine ∧ Q (.str (revS z)) H)
section
open HT
variable {prog : Program} {w : World} {A : Around} {E : Value → Shared → Prop} {s : Shared}
theorem sliceApplied_back {sl : Addr} {vl vu vs : Value} {n : Nat} {Q : Int × Int × Nat → Shared → Prop} (hs : s.heap.IsSliceOf sl vl vu vs) (pl : IsPart vl none) (pu : IsPart vu none) (ps : IsPart vs (some (-1)))
    (h : Q ((n : Int) - 1, -1, n) s) : wpAny (model prog w) A (Builtin.Slice.sliceApplied (.ref sl) (pure (n : Int))) Q E s := by
  obtain ⟨os, hos, hcs, hds⟩ := id hs
  unfold Builtin.Slice.sliceApplied Builtin.Slice.sliceFields
  refine wpAny_bind (wpAny_bind (wpAny_field hos hds (x := vl) rfl (wpAny_bind (wpAny_field hos hds (x := vu) rfl (wpAny_bind (wpAny_field hos hds (x := vs) rfl (wpAny_pure ?_)))))))
  refine wpAny_bind (slicePart_ ps ?_)
  show wpAny _ _ (if ((-1 : Int) == 0) = true then _ else _) _ _ s
  rw [if_neg (by decide)]
  refine wpAny_bind (slicePart_ pl (wpAny_bind (slicePart_ pu (wpAny_bind (wpAny_pure ?_)))))
  show wpAny _ _ (match Builtin.Slice.sliceAdjust none none (-1) (n : Int) with | (lo, hi) => pure (lo, (-1 : Int), Builtin.Slice.slicePlaces lo hi (-1))) _ _ s
  rw [adjust_back n]
  show wpAny _ _ (pure (((n : Int) - 1), (-1 : Int), Builtin.Slice.slicePlaces ((n : Int) - 1) (-1) (-1))) _ _ s
  rw [places_back]
  exact wpAny_pure h
theorem getItem_tuple_back {t sl : Addr} {items : List Value} {vl vu vs : Value} {Q : Value → Shared → Prop} (ht : IsTup s.heap t items.toArray) (hs : s.heap.IsSliceOf sl vl vu vs) (pl : IsPart vl none) (pu : IsPart vu none) (ps : IsPart vs (some (-1)))
    (h : Q (.ref s.heap.objs.size) { s with heap := s.heap.push { cls := .type "tuple", data := .seq items.reverse.toArray } })
    (hsz : items.length ≤ sizeLine) : wpAny (model prog w) A (getItem (.ref t) (.ref sl)) Q E s := by
  have htake : sizeOk (.seq items.reverse.toArray) := by
    show items.reverse.toArray.size ≤ sizeLine
    rw [List.size_toArray, List.length_reverse]
    exact hsz
  obtain ⟨os, hos, hcs, hds⟩ := id hs
  have hTs : s.TypeIs (.ref sl) "slice" := ⟨os, hos, hcs⟩
  unfold getItem
  try with_reducible refine wpAny_holding ?_
  first | refine wpAny_bind (wpAny_pure ?_) | skip
  refine wpAny_bind (wpAny_sequenceKey ht.typeIs (by decide) ?_)
  refine wpAny_bind (wpAny_callSpecial?_slot (name := Str.ofString "__getitem__") ht.typeIs PyProof.Rows.slot_tuple_getitem
    (wpAny_call_entry PyProof.Rows.slot_tuple_getitem ht.typeIs entry_tuple_getitem ?_ (args_tuple_getitem _ _)))
  show wpAny _ _ (Builtin.Tuple.tupleItemsOf (.ref t) >>= _) _ _ s
  refine wpAny_bind (tupleItemsOf_ ht ?_)
  refine wpAny_bind (wpAny_typeOf hTs ?_)
  rw [if_pos (by decide)]
  have hn : items.toArray.size = items.length := List.size_toArray
  rw [hn]
  refine wpAny_bind (sliceApplied_back hs pl pu ps ?_)
  have hno : ¬ ((((items.length : Int) - 1) == 0 && (-1 : Int) == 1 && items.length == items.length) = true) := by
    intro q
    rw [Bool.and_eq_true, Bool.and_eq_true] at q
    have q1 : (-1 : Int) = 1 := eq_of_beq q.1.2
    omega
  show wpAny _ _ (if (((items.length : Int) - 1) == 0 && (-1 : Int) == 1 && items.length == items.length) = true then _ else _) _ _ s
  rw [if_neg hno, pick_back (α := Unit)]
  first
    | exact wpAny_bind (m := Builtin.Tuple.tupleExact _) (wpAny_newObj_type (wpAny_pure ⟨_, rfl, wpAny_pure h⟩) htake)
    | exact wpAny_bind (m := Builtin.Tuple.tupleExact _) (wpAny_newObj_type (wpAny_bind (wpAny_pure (wpAny_pure ⟨_, rfl, wpAny_pure h⟩))) htake)
    | exact wpAny_bind (wpAny_bind (m := Builtin.Tuple.tupleExact _) (wpAny_newObj_type (wpAny_pure (wpAny_pure ⟨_, rfl, wpAny_pure h⟩)) htake))
    | exact wpAny_bind (wpAny_bind (m := Builtin.Tuple.tupleExact _) (wpAny_newObj_type (wpAny_pure ⟨_, rfl, wpAny_pure h⟩) htake))
end
section
variable {X : Cx}
theorem pe_revA {e : Expr} {te : TE} {k : Nat} {p1 p2 p3 pos : Pos} (he : PE X e te) : PE X (.Subscript e (.Slice none none (some (.UnaryOp .USub (.Constant (.int 1) k p1) p2)) p3) pos) (tUn (rRev X.K) te) := by
  refine ⟨fun pins s σ H Q I h => ?_⟩
  refine Subscript_ (thn (he.run pins s σ H _ I h) fun v s1 ⟨x, H1, I1, r1, q1⟩ => ?_)
  have hst : PO X (some (.UnaryOp .USub (.Constant (.int 1) k p1) p2)) (tPart (tUn (rU fun i => .int (-i)) (tC (.int 1)))) := po_some (pe_un un_neg pe_int)
  refine wpAny_Slice (thn (po_none.run pins s1 σ H1 (fun o H2 => o = none ∧ H2 = H1) I1 ⟨rfl, rfl⟩) fun vl s2 ⟨l, H2, I2, pl, el, e2⟩ => ?_)
  subst el e2
  refine thn (po_none.run pins s2 σ H2 (fun o H3 => o = none ∧ H3 = H2) I2 ⟨rfl, rfl⟩) fun vu s3 ⟨u, H3, I3, pu, eu, e3⟩ => ?_
  subst eu e3
  refine thn (hst.run pins s3 σ H3 (fun o H4 => o = some (-1) ∧ H4 = H3) I3 ⟨1, rfl, -1, rfl, rfl, rfl⟩) fun vs s4 ⟨o, H4, I4, ps, eo, e4⟩ => ?_
  subst eo e4
  have I5 : Inv X pins σ H4 { s4 with heap := s4.heap.push { cls := .type "slice", data := .fields #[vl, vu, vs] } } := I4.kept (t' := s4.toks) fun b ob q => Heap.get?_push_of_some _ q
  rcases q1 with ⟨a, xs, ex, hx, q⟩ | ⟨a, xs, ex, hx, q⟩ | ⟨z, ex, hz, q⟩
  · subst ex
    cases r1
    obtain ⟨its, r, ht, hz⟩ := I5.list hx
    have hlen := r.length
    show wpAny (model X.prog X.w) X.A (subscriptTail e (.Slice none none (some (.UnaryOp .USub (.Constant (.int 1) k p1) p2)) p3) (.ref a) (.ref s4.heap.objs.size)) (EP X pins σ Q) X.xe { s4 with heap := s4.heap.push { cls := .type "slice", data := .fields #[vl, vu, vs] } }
    refine tail_any (ops := [.ref a, .ref s4.heap.objs.size]) ht.isList.typeIs (PySem.slot_list_getitem.lookup) ?_ (by with_unfolding_all rfl)
    refine wpAny_getItem_list_slice ht.isList (Heap.IsSliceOf.new _ vl vu vs) pl pu ps (by decide) ?_ (by rw [List.size_toArray]; omega)
    rw [PySem.W.krv_pick]
    refine ⟨.ref _, _, I5.laid (t' := s4.toks) (o := .lst xs.reverse) (fun b ob q => Heap.get?_push_of_some _ q) (Nat.le_refl _) ?_, rfl, q _ (I5.hok.fresh (Nat.le_refl _))⟩
    exact ⟨by rw [List.length_reverse]; exact hz, _, 0, r.reverse, Heap.get?_push_size _ rfl⟩
  · subst ex
    cases r1
    obtain ⟨its, r, ht, hz⟩ := I5.tuple hx
    have hlen := r.length
    show wpAny (model X.prog X.w) X.A (subscriptTail e (.Slice none none (some (.UnaryOp .USub (.Constant (.int 1) k p1) p2)) p3) (.ref a) (.ref s4.heap.objs.size)) (EP X pins σ Q) X.xe { s4 with heap := s4.heap.push { cls := .type "slice", data := .fields #[vl, vu, vs] } }
    refine tail_any (ops := [.ref a, .ref s4.heap.objs.size]) ht.typeIs (PyProof.Rows.slot_tuple_getitem.lookup) ?_ (by with_unfolding_all rfl)
    refine getItem_tuple_back ht (Heap.IsSliceOf.new _ vl vu vs) pl pu ps ?_ (by rw [← hlen]; exact hz)
    refine ⟨.ref _, _, I5.laid (t' := s4.toks) (o := .tup xs.reverse) (fun b ob q => Heap.get?_push_of_some _ q) (Nat.le_refl _) ?_, rfl, q _ (I5.hok.fresh (Nat.le_refl _))⟩
    exact ⟨by rw [List.length_reverse]; exact hz, _, r.reverse, IsTup.new _ _⟩
  · subst ex
    obtain ⟨t, rfl⟩ := r1
    obtain ⟨l, rfl, el⟩ := IsPart.raw pl
    obtain ⟨u, rfl, eu⟩ := IsPart.raw pu
    obtain ⟨c, rfl, ec⟩ := IsPart.raw ps
    show wpAny (model X.prog X.w) X.A (subscriptTail e (.Slice none none (some (.UnaryOp .USub (.Constant (.int 1) k p1) p2)) p3) (.str z t) (.ref s4.heap.objs.size)) (EP X pins σ Q) X.xe { s4 with heap := s4.heap.push { cls := .type "slice", data := .fields #[partValue l, partValue u, partValue c] } }
    refine tail_any (ops := [.str z t, .ref s4.heap.objs.size]) (typeIs_str _ _ _) (F.slot_str_getitem.lookup) ?_ (by with_unfolding_all rfl)
    refine wpAny_getItem_str_slice (l := l) (u := u) (st := c) ⟨_, Heap.get?_push_size _ rfl, rfl, rfl⟩ (by rw [ec]; decide) ?_
    have hm : sliceMade z t l u c = .str (revS z) := by
      unfold sliceMade slicePicked revS
      rw [ec, el, eu]
      rfl
    rw [hm]
    exact ⟨hz, .str _, H4, I5.tok _, ⟨_, rfl⟩, q⟩
/-- xs[::-1] -/
theorem s_rev {K : PySem.W.Frag} : S1 K (rRev K) oRev := by
  intro F H v x z Q s d e k1 k2
  cases x with
  | list xs =>
    obtain ⟨a, vs, rfl, h1, h2⟩ := d.list s
    cases e
    exact .inl ⟨a, vs, rfl, h1, fun p hp => k2 p _ hp (lst_new s hp (dpa_rev h2))⟩
  | tuple xs =>
    obtain ⟨a, vs, rfl, h1, h2⟩ := d.tuple s
    cases e
    exact .inr (.inl ⟨a, vs, rfl, h1, fun p hp => k2 p _ hp (tup_new s hp (dpa_rev h2))⟩)
  | str t =>
    cases d.str
    simp only [oRev] at e
    split at e
    · rename_i hz
      cases e
      exact .inr (.inr ⟨t, rfl, hz, k1 _ (.str _)⟩)
    · cases e
  | none => cases e
  | bool b => cases e
  | int b => cases e
  | dict b => cases e
theorem se_rev {e : Expr} {f : EF} {k : Nat} {p1 p2 p3 pos : Pos} (he : SE X e f) : SE X (.Subscript e (.Slice none none (some (.UnaryOp .USub (.Constant (.int 1) k p1) p2)) p3) pos) (f1 oRev f) := by
  obtain ⟨t, hp, ht⟩ := he.run
  exact ⟨_, pe_revA hp, set1 ht s_rev⟩
end
end L2.FL
set_option Elab.async false
set_option linter.all false
set_option maxRecDepth 100000
set_option maxHeartbeats 4000000
/-! FL26: xs.extend(ys), of any list or tuple; xs.pop(). -/
namespace PySem.AutoSeq1
theorem extendL (l : Addr) (items : Array Value) (n : Nat) (b : Addr) (items2 : Array Value) (n2 : Nat) (dd2 : Option Addr) (sl2 : Array (Option Value)) (hc0 : ¬(!items.isEmpty && Builtin.List.listTooLong (items.size + items2.size)) = true) (hc1 : items.size ≤ sizeLine) (hs2 : items.size + items2.size ≤ sizeLine + 1) :
    Meets (Builtin.«list.extend» ⟨[.ref l, .ref b], []⟩) (fun _ R s => s.heap.get? l = some { cls := .type "list", dict := none, data := .seq items n, slots := #[] } ∧ s.heap.get? b = some { cls := .type "list", dict := dd2, data := .seq items2 n2, slots := sl2 } ∧ R (.ok (.ret Value.none)) { s with heap := s.heap.update l (Obj.mapSeq fun x => x ++ items2), toks := s.toks }) :=
  .of_wp fun prog w A R s h => by
    obtain ⟨hp, g, d, tk, os⟩ := s; obtain ⟨hl, hb, h⟩ := h; have f1 := idx_int; have f2 := sub_tuple_tuple; have f3 := sub_list_list; have f4 := sub_tuple_list; have f5 := sub_list_tuple;
    have hz' : (items ++ items2).size ≤ sizeLine + 1 := by rw [Array.size_append]; exact hs2
    wp_walk using (wpAny_updateSeq hl rfl (hz := hc1) (_hz' := hz')), wpAny_loadPart' hl, wpAny_loadPart' hb; exact ⟨_, rfl, h⟩
theorem extendT (l : Addr) (items : Array Value) (n : Nat) (b : Addr) (items2 : Array Value) (n2 : Nat) (dd2 : Option Addr) (sl2 : Array (Option Value)) (hs0 : ¬(!items.isEmpty && Builtin.List.listTooLong (items.size + items2.size)) = true) (hs1 : items.size ≤ sizeLine) (hs2 : items.size + items2.size ≤ sizeLine + 1) :
    Meets (Builtin.«list.extend» ⟨[.ref l, .ref b], []⟩) (fun _ R s => s.heap.get? l = some { cls := .type "list", dict := none, data := .seq items n, slots := #[] } ∧ s.heap.get? b = some { cls := .type "tuple", dict := dd2, data := .seq items2 n2, slots := sl2 } ∧ R (.ok (.ret Value.none)) { s with heap := s.heap.update l (Obj.mapSeq fun x => x ++ items2), toks := s.toks }) :=
  .of_wp fun prog w A R s h => by
    obtain ⟨hp, g, d, tk, os⟩ := s; obtain ⟨hl, hb, h⟩ := h; have f1 := idx_int; have f2 := sub_tuple_tuple; have f3 := sub_list_list; have f4 := sub_tuple_list; have f5 := sub_list_tuple;
    have hz' : (items ++ items2).size ≤ sizeLine + 1 := by rw [Array.size_append]; exact hs2
    wp_walk using (wpAny_updateSeq hl rfl (hz := hs1) (_hz' := hz')), wpAny_loadPart' hl, wpAny_loadPart' hb; exact ⟨_, rfl, h⟩
end PySem.AutoSeq1
namespace L2.FL
open PySem PySem.Spec PyProof.Rows L2
section
variable {X : Cx}
def rExtA (K : PySem.W.Frag) : V → List V → Hp → VK → Prop := fun x vs H Q => ∃ l b xs zs, x = .ref l ∧ vs = [.ref b] ∧ H l = some (.lst xs) ∧ (SqL K H b zs ∨ SqT K H b zs) ∧ xs.length + zs.length ≤ sizeLine ∧ Q .non (upd H l (.lst (xs ++ zs)))
theorem mt_extA : MtM X "list.extend" (rExtA X.K) := by
  intro pins s σ H x vs v us Q I rx rv h
  obtain ⟨l, b, xs, zs, rfl, rfl, hH, hB, hz, q⟩ := h
  cases rx
  obtain ⟨u, rfl, ru⟩ := rv.one
  cases ru
  obtain ⟨z, its, n, r, hl, e⟩ := I.lstM hH
  rcases hB with hB | hB
  · obtain ⟨i2, v2, ⟨⟨c2, d2, dt2, sl2⟩, n2, ho2, hc2, hd2, hs2⟩, _⟩ := Inv.list I hB
    have l2 := v2.length
    simp only at hc2 hd2 hs2
    subst hc2 hd2 hs2
    have hsz : its.toArray.size + i2.toArray.size ≤ sizeLine := by rw [List.size_toArray, List.size_toArray]; omega
    have hlong : ¬ (!its.toArray.isEmpty && Builtin.List.listTooLong (its.toArray.size + i2.toArray.size)) = true := by
      unfold Builtin.List.listTooLong
      rw [decide_eq_false (by omega), Bool.and_false]
      exact Bool.false_ne_true
    refine call_meets F.slot_list_extend ⟨_, e, rfl⟩ F.entry_list_extend (F.args_list_extend_2 _ _)
      (AutoSeq1.extendL l its.toArray n b i2.toArray n2 none sl2 hlong (by rw [List.size_toArray]; omega) (by omega)) ⟨e, ho2, ?_⟩
    refine ⟨.non, _, I.lset (its' := its ++ i2) hH e (by simp) (r.append v2) ?_, rfl, q⟩
    rw [List.length_append]
    omega
  · obtain ⟨i2, v2, ⟨⟨c2, d2, dt2, sl2⟩, ho2, hc2, n2, hs2⟩, _⟩ := Inv.tuple I hB
    have l2 := v2.length
    simp only at hc2 hs2
    subst hc2 hs2
    have hsz : its.toArray.size + i2.toArray.size ≤ sizeLine := by rw [List.size_toArray, List.size_toArray]; omega
    have hlong : ¬ (!its.toArray.isEmpty && Builtin.List.listTooLong (its.toArray.size + i2.toArray.size)) = true := by
      unfold Builtin.List.listTooLong
      rw [decide_eq_false (by omega), Bool.and_false]
      exact Bool.false_ne_true
    refine call_meets F.slot_list_extend ⟨_, e, rfl⟩ F.entry_list_extend (F.args_list_extend_2 _ _)
      (AutoSeq1.extendT l its.toArray n b i2.toArray n2 d2 sl2 hlong (by rw [List.size_toArray]; omega) (by omega)) ⟨e, ho2, ?_⟩
    refine ⟨.non, _, I.lset (its' := its ++ i2) hH e (by simp) (r.append v2) ?_, rfl, q⟩
    rw [List.length_append]
    omega
/-- what may be put behind -/
def seqD : PyData → Option (List PyData)
  | .list ys => some ys
  | .tuple ys => some ys
  | _ => none
def sExt (i : Nat) (f : EF) : SF := fun en => (live en i).bind fun _ => (f en).bind fun p => match p.1 with
  | .d y => (seqD y).bind fun ys => (live p.2 i).bind fun xs => if xs.length + ys.length ≤ sizeLine then some (.nx, putL p.2 i (xs ++ ys)) else none
  | _ => none
theorem ss_ext (i : Nat) {x : Str} {e : Expr} {f : EF} {ap p cp pos : Pos} (he : SE X e f) (hN : X.N[i]? = some x := by rfl) (hv : Vis X.env.scope x := by first | exact Or.inl rfl | exact Or.inr (Or.inl rfl) | exact Or.inr (Or.inr rfl)) (hd : (x == ("__debug__" : Str)) = false := by decide)
    (hcd : (x == ("__classdict__" : Str)) = false := by decide) (hbase : attributeBase (.Name x p) "extend" X.env (eval (.Name x p) X.env) = eval (.Name x p) X.env := by rfl)
    (hfew : ((backTo cp (starEach [e] X.env)).all (fun x => !x.1) && (backToKw cp (keywordEach [] X.env)).all (fun x => x.1.isSome) && decide ([e].length + ([] : List Keyword).length + (if ([] : List Keyword).isEmpty then 0 else 1) < 30)) = true := by rfl)
    (hline : (ap.endLine == cp.line) = true := by rfl) (hs : starEach [e] X.env = (false, eval e X.env) :: starEach [] X.env := by rfl) (hpl : (backTo cp (starEach [] X.env)).any (·.1) = false := by rfl)
    (hsw : swapsWith (.Call (.Attribute (.Name x p) "extend" ap) [e] [] cp) none pos.line X.env = pure false := by rfl) :
    SS X (.Expr (.Call (.Attribute (.Name x p) "extend" ap) [e] [] cp) pos) (sExt i f) := by
  obtain ⟨t, hp, ht⟩ := he.run
  refine ⟨_, ps_expr (pe_bm PySem.F.plainAttrs_list PySem.F.slot_list_extend PySem.F.type_list_extend mt_extA (pe_var hN hv hd hcd) (pa_cons hp pa_nil hs) hbase hfew hline hs hpl) hsw, fun W σ H en o en' D hR hf q => ?_⟩
  simp only [sExt, Option.bind_eq_some_iff] at hf
  obtain ⟨xs0, e0, ⟨c, en1⟩, e1, hf⟩ := hf
  obtain ⟨a, vs0, h1, h2, _⟩ := hR.liv i xs0 e0
  refine ⟨.ref a, h1, .inl ⟨rfl, vs0, SqL.of h2⟩, ht W σ H en c en1 _ hR e1 fun v W1 H1 x1 R1 v1 => ?_⟩
  simp only at hf
  split at hf
  · rename_i y
    simp only [Option.bind_eq_some_iff] at hf
    obtain ⟨ys, e3, xs, e2, hf⟩ := hf
    split at hf
    · rename_i hl
      cases hf
      obtain ⟨a', vs, g1, g2, g3, _⟩ := R1.liv i xs e2
      rw [h1] at g1
      cases g1
      have dy : Dq X.K W1.F v y := v1
      have fin : ∀ {b : Addr} {ws : List V}, v = .ref b → (SqL X.K H1 b ws ∨ SqT X.K H1 b ws) → DqAll X.K W1.F ws ys → rExtA X.K (.ref a) [v] H1 fun _ H' => D.nx σ H' := fun {b ws} ev hb hd => by
        subst ev
        refine ⟨a, b, vs, ws, rfl, rfl, g2, hb, by rw [dpa_length g3, dpa_length hd]; exact hl, ?_⟩
        exact q W1 σ _ x1 (R1.put e2 h1 (dpa_app g3 hd))
      cases y with
      | list zs =>
        cases e3
        cases dy with
        | lst hs ha => exact fin rfl (.inl (same_rd R1.subF hs)) ha
      | tuple zs =>
        cases e3
        cases dy with
        | tup hs ha => exact fin rfl (.inr (same_sqt R1.subF hs)) ha
      | none => cases e3
      | bool b => cases e3
      | int b => cases e3
      | str b => cases e3
      | dict b => cases e3
    · cases hf
  · cases hf
end
end L2.FL
set_option Elab.async false
set_option linter.all false
set_option maxRecDepth 100000
set_option maxHeartbeats 2000000
/-! FL27: an own error whose __init__ says super().__init__('..'); self.reason = reason: made and raised. -/
namespace PySem
namespace PxX
open PySem.W PySem.Calls PyProof.Rows PySem.HandSPX
def iA (p1 p2 : Pos) : Arguments := { posonlyargs := [], args := [{ arg := "self", annotation := none, pos := p1 }, { arg := "reason", annotation := none, pos := p2 }], vararg := none, kwonlyargs := [], kw_defaults := [], kwarg := none, defaults := [] }
def iB (msg : Str) (p0 p1 p2 p3 p4 p5 q1 q2 q3 q4 : Pos) : List Stmt :=
  [.Expr (.Call (.Attribute (.Call (.Name "super" p0) [] [] p1) "__init__" p2) [.Constant (.str msg) 0 p3] [] p4) p5,
   .Assign [.Attribute (.Name "self" q1) "reason" q2] (.Name "reason" q3) q4]
def iS : Scope := { kind := .function, names := [(PySem.Str.ofString "self", .local), (PySem.Str.ofString "reason", .local), (PySem.Str.ofString "__class__", .free), (PySem.Str.ofString "super", .globalImplicit)], isGenerator := false, isCoroutine := false, more := [] }
/-- what the written part says of the error's class, at C, and of its __init__, at fI -/
structure PxTxt (P : Program) (K : Frag) (mg : Str → Option Value) (x : Str) (C fI : Addr) : Prop where
  gC : mg x = some (.ref C)
  cls : ∃ nm q N bs bm sn sub ab col dd k0 k1 k2 k3 k5, K.lookup C = some (excClassObj nm q C N bs bm true sn sub ab col dd k0 k1 k2 k3 k5 "ValueError.__new__") ∧ refsVE bm = true
  sa : findIn K (.ref C) "__setattr__" = some (some (.builtin "object.__setattr__"))
  noN : findIn K (.ref C) "reason" = some none
  iC : findIn K (.ref C) "__init__" = some (some (.ref fI))
  tC : typeIn K (.ref fI) = some (.type "function")
  kC : keepIn K (.ref C) = true
  exC : subIn K (.ref C) (.type "BaseException") = some true
  veC : subIn K (.ref C) (.type "ValueError") = some true
  tyC : typeIn K (.ref C) = some (.type "type")
  te : exmOne K (.ref C) (.ref C) = some true
  opq : nsIn K cStatics "thirdparty.any" = some none
  sup : mg "super" = none
  hm : ks_superIn K C C "__init__" = some (some (.builtin "ValueError.__init__"))
  mro : mroIn K C (.ref C) = some true
  nosup : (P.main.scope.names.lookup ("super" : Str)).isSome = false
  fn : ∃ (qn msg : Str) (oc : Value) (od : Option Addr) (doc pm : Value) (an : Option Addr) (ct : Value) (osl : Array (Option Value)) (p1 p2 r0 r1 r2 r3 r4 r5 q1 q2 q3 q4 : Pos) (cda cc : Addr) (ccl : Value) (cdd : Option Addr) (vs : Array Value) (ccs : Array (Option Value)) (file : Str) (tf : Tok) (cl : Value) (cld : Option Addr) (csl : Array (Option Value)),
    K.lookup fI = some ⟨oc, od, .func (ksFn "__init__" qn (iA p1 p2) (iB msg r0 r1 r2 r3 r4 r5 q1 q2 q3 q4) iS .none .none doc pm an (.ref cda) ct cc), osl⟩ ∧ codeIn K (.ref cda) qn = true ∧
    K.lookup cda = some ⟨ccl, cdd, .fields vs, ccs⟩ ∧ vs[2]? = some (.str file tf) ∧ ((P.main.file : Str) == file) = true ∧ (r2.endLine == r4.line) = true ∧ K.lookup cc = some ⟨cl, cld, .cell (some (.ref C)), csl⟩
theorem iS_cell : ∀ x ∈ iS.names, x.2 ≠ NameKind.cell := by decide
theorem iS_loc (a b : Value) : ∀ y ∈ ([(PySem.Str.ofString "self", a), (PySem.Str.ofString "reason", b)] : List (Str × Value)), iS.names.lookup y.1 = some .local := by
  intro y hy
  simp only [List.mem_cons, List.not_mem_nil, or_false] at hy
  rcases hy with rfl | rfl <;> rfl
theorem one_size (v : Value) : [v].length ≤ sizeLine := by
  rw [sizeLine_eq]
  exact (by decide : 1 ≤ 16777216)
theorem he_of {msg : Str} {r0 r1 r2 r3 r4 : Pos} {env : Env} (hl : (r2.endLine == r4.line) = true) : eval (.Call (.Attribute (.Call (.Name "super" r0) [] [] r1) "__init__" r2) [.Constant (.str msg) 0 r3] [] r4) env = (do
      let ov ← attributeBase (.Call (.Name "super" r0) [] [] r1) "__init__" env (eval (.Call (.Name "super" r0) [] [] r1) env)
      standAt r2.atName
      let (f, first) ← holding [ov] (getMethod ov "__init__" (do return (← importBound (.Call (.Name "super" r0) [] [] r1) env).getD true))
      callWith r4 f first (backTo r4 (starEach [.Constant (.str msg) 0 r3] env)) []) := by
  rw [arm_eval_Call]
  simp only [methodCall, methodCallPos, hl, Bool.or_true, if_true]
  rfl
theorem ldK {M : Model} {s : Shared} {name : Str} {scope : Scope} {L a cc : Addr} {cd : Value} {m : Str → Option Value} {x : Str} {pos : Pos} {v : Value} {Q : Value → Shared → Prop} {A : Around} {E : Value → Shared → Prop} (hn : s.heap.Ns L m) (hv : m x = some v) (h : Q v s)
    (hk : scope.kind = .function := by rfl) (hl : (ksEnv name scope L a cd cc).kindOf x = some .local := by rfl) (hd : (x == ("__debug__" : Str)) = false := by decide) :
    wpAny M A (eval (.Name x pos) (ksEnv name scope L a cd cc)) Q E s := wpAny_Name (wpAny_loadName_local hk hl hn hv h) hd
section
variable {prog : Program} {w : World} {A : Around} {E : Value → Shared → Prop} {h : Heap} {g : Array GenState} {d : Drawn} {t : Nat} {os : OsState}
variable {nm q : Str} {C N : Addr} {bs bm : List Value} {hdct : Bool} {sn : List Str} {sub : List Value} {ab : Bool} {col : Option Bool} {dd : Option Addr} {k0 k1 k2 k3 k5 : Option Value}
theorem call_mw {u e t0 : Addr} {rest : List Value} {Q : Value → Shared → Prop}
    (hC : h.get? C = some (excClassObj nm q C N bs bm hdct sn sub ab col dd k0 k1 k2 k3 k5 "ValueError.__new__")) (he : h.get? e = some (excO C t0)) (hu : h.get? u = some (kxs_mw "ValueError.__init__" e)) (hrest : rest.length ≤ sizeLine)
    (hq : ∀ h' t1, (∀ b o, b ≠ e → h.get? b = some o → h'.get? b = some o) → h'.get? e = some (excO C t1) → Q .none ⟨h', g, d, t, os⟩) :
    wpAny (model prog w) A (call (.ref u) rest) Q E ⟨h, g, d, t, os⟩ := by
  refine wpAny_call (codeAny_of_tree ?_)
  show wpAny _ A.in1 (callAny (.ref u) ⟨rest, []⟩) _ _ _
  simp only [callAny]
  refine wpAny_bind (wpAny_load hu ?_)
  simp only [kxs_mw, show (Value.type "method-wrapper" == Value.type "method" || Value.type "method-wrapper" == Value.type "builtin_function_or_method" || Value.type "method-wrapper" == Value.type "method-wrapper") = true by decide, if_true]
  refine W.KFB.if_so (by decide) ?_
  refine wpAny_bind (check_bound_init F.excBase_ValueError.toExcCallFacts hC he rfl ?_)
  refine wpAny_bind (wpAny_pure (wpAny_pure ?_))
  refine ⟨plainId_quiet F.excBase_ValueError.init.plain _, codeAny_builtin F.excBase_ValueError.initEntry ?_⟩
  refine exc_init_tree (cls := .ref C) (t0 := t0) (dv := none) (c2 := .none) (c3 := .none) (b4 := .bool false) he hrest fun h' k e' _ => ?_
  exact hq h' _ k e'
end
/-- what __init__ leaves of a fresh exception at x -/
structure InitEnd (h h' : Heap) (x C dx t1 : Addr) (v : Value) : Prop where
  keep : ∀ b o, b ≠ x → h.get? b = some o → h'.get? b = some o
  obj : h'.get? x = some { cls := .ref C, dict := some dx, data := .fields #[.ref t1, .none, .none, .none, .bool false, .none] }
  dbig : h.objs.size ≤ dx
  dne : dx ≠ x
structure OwnMade (h h' : Heap) (e C d : Addr) : Prop where
  keep : ∀ b o, h.get? b = some o → h'.get? b = some o
  new : h.objs.size ≤ e
  obj : ∃ oe vs, h'.get? e = some oe ∧ oe.cls = .ref C ∧ oe.dict = some d ∧ oe.data = .fields vs ∧ vs[1]? = some .none
  dbig : h.objs.size ≤ d
  dne : d ≠ e
section
variable {prog : Program} {w : World} {A : Around} {E : Value → Shared → Prop} {R : Result → Shared → Prop} {s : Shared} {K : Frag} {mg : Str → Option Value} {nx : Str} {C fI : Addr}
theorem px_init (T : PxTxt prog K mg nx C fI) {x t0 : Addr} {v : Value} (X : K.In s.heap) (hlim : s.heap.NoLimit) (hg : s.heap.Ns mainGlobals mg) (hb : ∃ mb, s.heap.Ns builtinsNs mb ∧ ∀ y : Str, y ≠ "__name__" → mb y = bootBuiltins y) (hx : s.heap.get? x = some (excO C t0)) (hnx : K.lookup x = none) (hroom : A.depth < recursionLimit)
    (hq : ∀ h' tk dx t1, InitEnd s.heap h' x C dx t1 v → R (.ok (.ret .none)) { s with heap := h', toks := tk }) :
    codeAny (model prog w) A (.call (.ref fI) ⟨[.ref x, v], []⟩) R s := by
  obtain ⟨qn, msg, oc, od, doc, pm, an, ct, osl, p1, p2, r0, r1, r2, r3, r4, r5, q1, q2, q3, q4, cda, cc, ccl, cdd, vs, ccs, file, tf, cl, cld, csl, ho, hcd, hcode, hvs, hfile, hline, hcell⟩ := T.fn
  obtain ⟨nm, q, N, bs, bm, sn, sub, ab, col, dd, k0, k1, k2, k3, k5, hC, hbm⟩ := T.cls
  have hcl : clsIn K C = some { name := nm, bases := bs, mro := .ref C :: bm, ns := N, qualname := q, hasDict := true, slotNames := sn, subclasses := sub, abstract := ab, collection := col, hasDel := false } := by unfold clsIn; rw [hC] <;> rfl
  obtain ⟨mb, hb1, hb2⟩ := hb
  refine ks_codeAny_call_defAt (fd := ksFn "__init__" qn (iA p1 p2) (iB msg r0 r1 r2 r3 r4 r5 q1 q2 q3 q4) iS .none .none doc pm an (.ref cda) ct cc) (body := iB msg r0 r1 r2 r3 r4 r5 q1 q2 q3 q4) (binds := [("self", .ref x), ("reason", v)])
    hroom (X _ _ ho) rfl hlim (codeRec_of X hcd) rfl (BindsTo.of_eq (by first | rfl | with_unfolding_all rfl)) iS_cell (iS_loc _ _) (fun h₁ hns k => ?_) rfl rfl rfl
  have X₁ : K.In h₁ := X.keeps k
  have hx₁ := k _ _ hx
  obtain ⟨hp, g, dr, tk, os⟩ := s
  show wpAt _ _ _ (execs _ (ksEnv qn iS hp.objs.size fI (.ref cda) cc)) _ _ _
  refine ks_wpAt_execs_cons (ks_wpAt_Expr_any (ks_wpAt_MethodCall (he := he_of hline) ?_))
  refine ks_wpAt_super_base (env := ksEnv qn iS hp.objs.size fI (.ref cda) cc) rfl rfl (by decide) rfl (X₁ _ _ ho) rfl rfl rfl (X₁ _ _ hcode) rfl hvs hfile T.nosup ?_
  refine ks_loadName_global rfl rfl (loadGlobal_builtin (env := ksEnv qn iS hp.objs.size fI (.ref cda) cc) (hg.keeps k) T.sup (hb1.keeps k) ((hb2 "super" (by decide)).trans (by first | rfl | decide +kernel)) ⟨rfl, ?_⟩)
  refine wpAny_loadName_free rfl rfl rfl ⟨_, X₁ _ _ hcell, rfl⟩ ?_
  refine wpAny_loadName_local rfl rfl hns (by first | rfl | with_unfolding_all rfl | kernel_rfl) ?_
  refine ks_wpAny_isType_cls (X₁ _ _ hC) rfl ⟨rfl, ?_⟩
  refine ks_wpAny_call_super (X₁ _ _ hC) rfl hx₁ rfl (fun c e => by cases e) (looks_mroIn X₁ T.mro) (fun h₂ hso k₂ => ?_)
  have X₂ : K.In h₂ := X₁.keeps k₂
  have hx₂ := k₂ _ _ hx₁
  have I₂ : InstAt h₂ x (excO C t0) C none := ⟨hx₂, rfl, rfl, trivial⟩
  have hI : Looks (model prog w) h₂ (isInstance (.ref x) (.type "ValueError")) true := I₂.type.andThen (looks_subIn X₂ T.veC)
  have hm := T.hm
  unfold ks_superIn at hm
  rw [hcl] at hm
  refine kxs_getMethod kxs_ValueError hso (looks_opaque X₂ T.opq) (l₀ := .ref C :: bm) (fun A Q E s k q => wpAny_bind ((looks_clsIn X₂ hcl) A _ E s k (wpAny_pure q))) rfl X₂ hm hI (ks_ne X₂ I₂ hcl) (by decide) ?_
  have k₃ : ∀ b o, h₂.get? b = some o → (h₂.push (kxs_mw "ValueError.__init__" x)).get? b = some o := fun b o e => Heap.get?_push_of_some _ e
  have hu : (h₂.push (kxs_mw "ValueError.__init__" x)).get? h₂.objs.size = some (kxs_mw "ValueError.__init__" x) := Heap.get?_push_at rfl rfl
  show wpAny _ _ (callWith _ _ _ (backTo _ (starEach [_] _)) []) _ _ _
  refine kxs_callWith (i := "ValueError.__init__") (x := x) rfl (evalArgs_plain ?_)
  refine Calls.spliced_cons (wpAny_Constant_str (k := 0) (pos := r3) (Calls.spliced_nil ⟨hu, ?_⟩))
  refine call_mw (k₃ _ _ (X₂ _ _ hC)) (k₃ _ _ hx₂) hu (one_size _) fun h₄ t1 k₄ hx₄ => ?_
  have kk : ∀ b o, b ≠ x → h₁.get? b = some o → h₄.get? b = some o := fun b o hb e => k₄ b o hb (k₃ _ _ (k₂ _ _ e))
  have X₄ : K.In h₄ := fun a o e => kk a o (fun z => by rw [z, hnx] at e; cases e) (X₁ a o e)
  have hxL : hp.objs.size ≠ x := Nat.ne_of_gt (Heap.lt_size hx)
  have hns₄ : h₄.Ns hp.objs.size (fun y => ([("self", Value.ref x), ("reason", v)] : List (Str × Value)).reverse.lookup y) := by
    obtain ⟨oL, es, ep, hL, rr⟩ := hns
    exact ⟨oL, es, ep, kk _ _ hxL hL, rr⟩
  refine wpAt_of_wpAny ?_
  refine wpAny_execs_cons (plainObj_wpAny_Assign_Attribute ?_)
  refine ldK (v := v) hns₄ (by first | rfl | with_unfolding_all rfl | kernel_rfl) (ldK (v := .ref x) hns₄ (by first | rfl | with_unfolding_all rfl | kernel_rfl) ?_)
  refine set_plain X₄ (ox := excO C t1) (od := none) ⟨hx₄, rfl, rfl, trivial⟩ T.sa ?_
  refine exc_osa X₄ hx₄ hcl (show refsVE (.ref C :: bm) = true from hbm) rfl T.noN (fun h₅ tk₅ dx k₅ dn dne hx₅ hn₅ => ?_)
  have z : hp.objs.size < h₄.objs.size := hns₄.lt
  exact wpAny_execs_nil (hq h₅ tk₅ dx t1 ⟨fun b o hb e => k₅ b o hb (kk b o hb (k b o e)), hx₅, Nat.le_of_lt (Nat.lt_of_lt_of_le z dn), dne⟩)
theorem px_made (T : PxTxt prog K mg nx C fI) {v : Value} (X : K.In s.heap) (hlim : s.heap.NoLimit) (hg : s.heap.Ns mainGlobals mg) (hb : ∃ mb, s.heap.Ns builtinsNs mb ∧ ∀ y : Str, y ≠ "__name__" → mb y = bootBuiltins y) (hroom : A.depth + 1 < recursionLimit)
    (hq : ∀ h' tk e d, OwnMade s.heap h' e C d → R (.ok (.ret (.ref e))) { s with heap := h', toks := tk }) :
    codeAny (model prog w) A (.call (.ref C) ⟨[v], []⟩) R s := by
  obtain ⟨nm, q, N, bs, bm, sn, sub, ab, col, dd, k0, k1, k2, k3, k5, hC, hbm⟩ := T.cls
  obtain ⟨hp, g, dr, tk, os⟩ := s
  have k : ∀ b o, hp.get? b = some o → ((hp.push (kdv_tup [v])).push (excO C hp.objs.size)).get? b = some o := fun b o e => Heap.get?_push_of_some _ (Heap.get?_push_of_some _ e)
  have hget : ((hp.push (kdv_tup [v])).push (excO C hp.objs.size)).get? (hp.objs.size + 1) = some (excO C hp.objs.size) := by heap_get
  have hnx : K.lookup (hp.objs.size + 1) = none := by
    cases e : K.lookup (hp.objs.size + 1) with
    | none => rfl
    | some o =>
      have z : hp.get? (hp.objs.size + 1) = some o := X _ _ e
      exact absurd (Nat.lt_of_succ_lt (Heap.lt_size z)) (Nat.lt_irrefl _)
  refine call_own F.excBase_ValueError (fun X => refsVE_contains X bm hbm) (X _ _ hC) (looks_findIn X T.iC) (fun self => bind_fn X self T.tC) (one_size v) ?_
  refine px_init (s := ⟨(hp.push (kdv_tup [v])).push (excO C hp.objs.size), g, dr, tk, os⟩) T (X.keeps k) (hlim.keeps k) (hg.keeps k) (by obtain ⟨mb, h1, h2⟩ := hb; exact ⟨mb, h1.keeps k, h2⟩) hget hnx ?_ fun h' tk' dx t1 ⟨k', hx, dn, dne⟩ => ?_
  · show A.depth + 1 < recursionLimit
    exact hroom
  · have old : ∀ b o, hp.get? b = some o → h'.get? b = some o := fun b o e => k' b o (Nat.ne_of_lt (Nat.lt_succ_of_lt (Heap.lt_size e))) (k b o e)
    have z : hp.objs.size + 1 + 1 ≤ dx := by
      first
        | (simpa only [Heap.size_push] using dn)
        | exact dn
        | (have q := dn; rw [Heap.size_push, Heap.size_push] at q; exact q)
    exact ⟨rfl, hq h' tk' (hp.objs.size + 1) dx ⟨old, Nat.le_succ _, ⟨_, _, hx, rfl, rfl, rfl, rfl⟩, Nat.le_trans (Nat.le_trans (Nat.le_succ _) (Nat.le_succ _)) z, dne⟩⟩
end
end PxX
end PySem
set_option Elab.async false
set_option linter.all false
set_option maxRecDepth 100000
set_option maxHeartbeats 2000000
/-! FL28: defs that raise an own error; the def that calls another and tells whether it let an error out. -/
namespace L2.FL
open PySem PySem.Spec PyProof.Rows L2

/-! ### raise C('m') -/
section
variable {X : Cx} {C fI : Addr}
theorem pmk_px {nx : Str} {a : Expr} {ta : TA} {p pos : Pos} {k : Nat} (T : PySem.PxX.PxTxt X.prog X.K X.mg nx C fI) (hr : Room k X.A) (ha : PA X [a] ta) (hg : Gl X nx) (hdb : (nx == ("__debug__" : Str)) = false)
    (he : starEach (a :: []) X.env = (false, eval a X.env) :: starEach [] X.env := by rfl) (hpl : (backTo pos (starEach [] X.env)).any (·.1) = false := by rfl) :
    PMk X (.Call (.Name nx p) [a] [] pos) (fun σ H Q => ta σ H fun vs H1 => ∃ v, vs = [v] ∧ ∀ d, Q (.ref C) (some d) H1) := by
  intro pins s σ H Q I h
  refine wpAny_Call_Name_kw (ld_glob I hg T.gC ?_ hdb)
  refine PySem.W.callWith_K (h₀ := X.base) I.ok.mod.kin T.kC (thn (ha.run pos pins s σ H _ I h) fun us s1 hh => ?_) he hpl
  obtain ⟨vs, H1, I1, r1, v, ev, q1⟩ := hh
  subst ev
  refine ⟨I1.kIn, ?_⟩
  cases r1 with
  | cons rv rn =>
    rename_i v' us'
    cases rn
    show wpAny _ _ (call (.ref C) [v']) _ _ _
    have hlim := I1.nolimit
    have hgl := I1.mod.glob.keeps I1.bk
    have hbl : ∃ mb, s1.heap.Ns builtinsNs mb ∧ ∀ y : Str, y ≠ "__name__" → mb y = bootBuiltins y := by
      obtain ⟨mb, h1, h2⟩ := I1.mod.blt
      exact ⟨mb, h1.keeps I1.bk, h2⟩
    obtain ⟨hp, g, dr, tk, os⟩ := s1
    refine wpAny_call (PySem.PxX.px_made T I1.kIn hlim hgl hbl (by have := hr.dp; omega) fun h' tk' e d M => ?_)
    show MkP X pins σ Q (.ref e) ⟨h', g, dr, tk', os⟩
    obtain ⟨oe, fv, hoe, hc, hd, hdat, h1⟩ := M.obj
    obtain ⟨G', g1, g2⟩ := restrict h' fun b => decide (b ≠ e)
    have gk : ∀ b, b ≠ e → G'.get? b = h'.get? b := fun b hb => g1 b (decide_eq_true hb)
    have ge : G'.get? e = none := g2 e (by simp)
    have old : ∀ b o, hp.get? b = some o → G'.get? b = some o := fun b o q => (gk b (Nat.ne_of_lt (Nat.lt_of_lt_of_le (Heap.lt_size q) M.new))).trans (M.keep b o q)
    have J : Inv X pins σ H1 ⟨G', g, dr, tk', os⟩ := I1.kept (t' := tk') old
    refine ⟨e, oe, fv, ⟨G', g, dr, tk', os⟩, _, .ref C, some d, rfl, J, fun b o q => ?_, ge, hoe, ⟨hc, hd⟩, hdat, h1, I1.hok.fresh M.new, rfl, I1.bare, raises_own T.exC T.tyC, q1 d⟩
    by_cases hb : b = e
    · have q' : G'.get? b = some o := q
      rw [hb, ge] at q'; cases q'
    · exact (gk b hb).symm.trans q
end

/-! ### statements that may raise: told as if they returned False -/
/-- where False is returned, the error may be in the air, too -/
def Good (C : Addr) (E : XK) (D : Ends) : Prop := ∀ H, D.rt (.bl false) H → ∀ d, E (.ref C) d H
def SRt (K : PySem.W.Frag) (C : Addr) (E : XK) (t : TS) (f : SF) : Prop := ∀ (W : Wd) (σ : St) (H : Hp) (en : En) (o : Out) (en' : En) (D : Ends), Good C E D → R K W σ H en → f en = some (o, en') →
  (∀ W' σ' H', Ext W W' → R K W' σ' H' en' → Fin K W' D o σ' H') → t D σ H
structure SR (X : Cx) (C : Addr) (E : XK) (st : Stmt) (f : SF) : Prop where
  run : ∃ t, PS X st t ∧ SRt X.K C E t f
structure SRs (X : Cx) (C : Addr) (E : XK) (sts : List Stmt) (f : SF) : Prop where
  run : ∃ t, PSs X sts t ∧ SRt X.K C E t f
abbrev sRaise : SF := sRet (fC (.bool false))
section
variable {X : Cx} {C fI : Addr} {E : XK}
theorem SSt.sx {K : PySem.W.Frag} {t : TS} {f : SF} (h : SSt K t f) : SRt K C E t f := fun W σ H en o en' D _ hR hf q => h W σ H en o en' D hR hf q
theorem sx_l {st : Stmt} {f : SF} (h : SS X st f) : SR X C E st f := by
  obtain ⟨t, hp, ht⟩ := h.run
  exact ⟨t, hp, ht.sx⟩
theorem sxs_l {st : List Stmt} {f : SF} (h : SSs X st f) : SRs X C E st f := by
  obtain ⟨t, hp, ht⟩ := h.run
  exact ⟨t, hp, ht.sx⟩
theorem sx_raise {nx : Str} {m : Str} {j : Nat} {p p2 pos pos2 : Pos} {k : Nat} (T : PySem.PxX.PxTxt X.prog X.K X.mg nx C fI) (hr : Room k X.A) (hc : X.calm = true) (tk : Takes X (fun cls d _ H => E cls d H)) (hg : Gl X nx) (hdb : (nx == ("__debug__" : Str)) = false := by decide) :
    SR X C E (.Raise (some (.Call (.Name nx p) [.Constant (.str m) j p2] [] pos)) none pos2) sRaise := by
  refine ⟨_, ps_raise hc tk (pmk_px T hr (pa_cons pe_str pa_nil) hg hdb), fun W σ H en o en' D hG hR hf q => ?_⟩
  have hf' : some (Out.rt (.bool false), en) = some (o, en') := hf
  cases hf'
  exact ⟨_, rfl, fun d => hG H (q W σ H (Ext.refl _) hR _ (.bl false)) _⟩
theorem sxt_seq {K : PySem.W.Frag} {t u : TS} {f g : SF} (h : SRt K C E t f) (k : SRt K C E u g) : SRt K C E (tSeq t u) (sSeq f g) := by
  intro W σ H en o en' D hG hR hf q
  simp only [sSeq, Option.bind_eq_some_iff] at hf
  obtain ⟨⟨o1, en1⟩, e1, hf⟩ := hf
  refine h W σ H en o1 en1 { D with nx := u D } hG hR e1 fun W1 σ1 H1 x1 R1 => ?_
  cases o1 with
  | nx => exact k W1 σ1 H1 en1 o en' D hG R1 hf fun W2 σ2 H2 x2 R2' => q W2 σ2 H2 (x1.trans x2) R2'
  | rt x => cases hf; exact q W1 σ1 H1 x1 R1
  | bk => cases hf; exact q W1 σ1 H1 x1 R1
  | ct => cases hf; exact q W1 σ1 H1 x1 R1
theorem sx_cons {st : Stmt} {rest : List Stmt} {f g : SF} (h : SR X C E st f) (k : SRs X C E rest g) : SRs X C E (st :: rest) (sSeq f g) := by
  obtain ⟨t, hp, ht⟩ := h.run
  obtain ⟨u, hq, hu⟩ := k.run
  exact ⟨_, pss_cons hp hq, sxt_seq ht hu⟩
theorem sx_one {st : Stmt} {f : SF} (h : SR X C E st f) : SRs X C E [st] f := by
  obtain ⟨t, hp, ht⟩ := h.run
  exact ⟨_, pss_one hp, ht⟩
theorem sx_nil : SRs X C E [] sNil := sxs_l ss_nil
theorem sx_if {c : Expr} {a b : List Stmt} {f : TF} {g h : SF} {pos : Pos} (hc : ST X c f) (ha : SRs X C E a g) (hb : SRs X C E b h) : SR X C E (.If c a b pos) (sIf f g h) := by
  obtain ⟨t, hp, ht⟩ := hc.run
  obtain ⟨u, hq, hu⟩ := ha.run
  obtain ⟨w, hr, hw⟩ := hb.run
  refine ⟨_, ps_if hp hq hr, fun W σ H en o en' D hG hR hf q => ?_⟩
  simp only [sIf, Option.bind_eq_some_iff] at hf
  obtain ⟨⟨d, en1⟩, e1, hf⟩ := hf
  refine ht W σ H en d en1 _ hR e1 fun W1 H1 x1 R1 => ?_
  cases d with
  | true =>
    simp only [if_pos] at hf ⊢
    exact hu W1 σ H1 en1 o en' D hG R1 hf fun W2 σ2 H2 x2 R2' => q W2 σ2 H2 (x1.trans x2) R2'
  | false =>
    simp only [Bool.false_eq_true, if_false] at hf ⊢
    exact hw W1 σ H1 en1 o en' D hG R1 hf fun W2 σ2 H2 x2 R2' => q W2 σ2 H2 (x1.trans x2) R2'
theorem sxt_for {K : PySem.W.Frag} {wi : TI} {g : TG} {tb : TS} {it : IF} {gf : GF} {b : SF} {ws : List Nat} (hi : SIt K wi it) (hg : SGt K g gf ws) (hb : SRt K C E tb b) : SRt K C E (tFor wi g tb) (sFor it gf b) := by
  intro W σ H en o en' D hG hR hf q
  simp only [sFor, Option.bind_eq_some_iff] at hf
  obtain ⟨⟨xs, en1⟩, e1, hf⟩ := hf
  refine hi W σ H en xs en1 _ hR e1 fun J W1 H1 x1 R1 w => ?_
  refine ⟨fun i m σ' H' => m = xs.length - i ∧ i ≤ xs.length ∧ ∃ W2 en2, Ext W1 W2 ∧ R K W2 σ' H' en2 ∧ forL gf b (xs.drop i) en2 = some (o, en'), ⟨xs.length, by simp, Nat.zero_le _, W1, en1, Ext.refl _, R1, by simpa using hf⟩, ?_⟩
  rintro i m σ2 H2 ⟨rfl, hi', W2, en2, x2, R2', hf2⟩
  by_cases hlt : i < xs.length
  · have ex : xs[i]? = some xs[i] := List.getElem?_eq_getElem hlt
    have ed : xs.drop i = xs[i] :: xs.drop (i + 1) := List.drop_eq_getElem_cons hlt
    rw [ed, forL] at hf2
    simp only [Option.bind_eq_some_iff] at hf2
    obtain ⟨en3, e3, ⟨o4, en4⟩, e4, hf2⟩ := hf2
    obtain ⟨hgo, hy⟩ := w.go i _ ex W2 σ2 H2 en2 x2.F R2'
    refine .inr ⟨hgo, fun σ' H' => ∃ W5 en5, Ext W1 W5 ∧ R K W5 σ' H' en5 ∧ forL gf b (xs.drop (i + 1)) en5 = some (o, en'), fun σ' H' ⟨W5, en5, a1, a2, a3⟩ => ⟨xs.length - (i + 1), by omega, rfl, hlt, W5, en5, a1, a2, a3⟩, fun v H' y => ?_⟩
    obtain ⟨W3, x3, R3, hd⟩ := hy v H' y
    refine hg.go W3 σ2 H' en2 v _ en3 _ R3 hd e3 fun σ3 R4 _ _ => ?_
    refine hb W3 σ3 H' en3 o4 en4 _ (by exact hG) R4 e4 fun W5 σ5 H5 x5 R5 => ?_
    have x15 := (x2.trans x3).trans x5
    cases o4 with
    | nx => exact ⟨W5, en4, x15, R5, hf2⟩
    | ct => exact ⟨W5, en4, x15, R5, hf2⟩
    | bk =>
      simp only [Option.some.injEq, Prod.mk.injEq] at hf2
      obtain ⟨rfl, rfl⟩ := hf2
      exact q W5 σ5 H5 (x1.trans x15) R5
    | rt y =>
      simp only [Option.some.injEq, Prod.mk.injEq] at hf2
      obtain ⟨rfl, rfl⟩ := hf2
      exact q W5 σ5 H5 (x1.trans x15) R5
  · have ei : i = xs.length := by omega
    subst ei
    rw [List.drop_length, forL] at hf2
    simp only [Option.some.injEq, Prod.mk.injEq] at hf2
    obtain ⟨rfl, rfl⟩ := hf2
    exact .inl ⟨w.stop W2 σ2 H2 en2 x2.F R2', q W2 σ2 H2 (x1.trans x2) R2'⟩
theorem sx_for {tg iter : Expr} {body : List Stmt} {it : IF} {g : GF} {b : SF} {ws : List Nat} {pos : Pos} (hp : PassesOwn (model X.prog X.w) X.A X.env X.xe) (hc : X.calm = true) (hi : SI X tg iter it) (hg : SG X tg g ws) (hb : SRs X C E body b)
    (hs : ∀ x, foldedSetIterable iter X.env x = pure x := by intro _; rfl) : SR X C E (.For tg iter body [] pos) (sFor it g b) := by
  obtain ⟨t, h1, h2⟩ := hi.run
  obtain ⟨u, h3, h4⟩ := hg.run
  obtain ⟨w, h5, h6⟩ := hb.run
  exact ⟨_, ps_for hp hc h1 h3 h5 hs, sxt_for h2 h4 h6⟩
end

/-! ### a def that may raise -/
structure FnX (P : Program) (w : World) (K : PySem.W.Frag) (mg : Str → Option Value) (base : Heap) (k : Nat) (f : Addr) (fd : FuncData) (ps : List Str) (sp : Sp) : Prop where
  len : ∀ vs H Q E, sp vs H Q E → vs.length = ps.length
  run : ∀ (A : Around) (outer : List Env) (s : Shared) (H : Hp) (args : Args) (us : List Value) (vs : List V) (Q : VK) (E : XK), Room k A → A.guards = some [] → Env0 P w K mg base A outer s H → BindsTo s fd args (ps.zip us) → Vals vs us → sp vs H Q E →
    codeAny (model P w) A (.call (.ref f) args) (CR (L2.CX P w) outer P w H s Q E) s
theorem fn_ofX {P : Program} {w : World} {K : PySem.W.Frag} {mg : Str → Option Value} {base : Heap} {k : Nat} {f : Addr} {name qual : Str} {params : Arguments} {body : List Stmt} {scope : Scope} {dV kV doc pm cdv ct oc : Value} {an od : Option Addr}
    {osl : Array (Option Value)} {N ps : List Str} {sp : Sp} (lk : K.lookup f = some ⟨oc, od, .func (PySem.W.fnOf name qual params body scope dV kV doc pm an cdv ct), osl⟩) (hcd : PySem.W.codeIn K cdv qual = true) (S : FnScope N ps scope)
    (len : ∀ vs H Q E, sp vs H Q E → vs.length = ps.length)
    (hbody : ∀ (A : Around) (outer : List Env) (s : Shared) (H : Hp) (vs : List V) (Q : VK) (E : XK), Room k (A.deeper (envOfC qual scope s.heap.objs.size f cdv)) → (A.deeper (envOfC qual scope s.heap.objs.size f cdv)).guards = some [] → sp vs H Q E →
      ∃ t Q', (∀ v H', Q' v H' → Q v H') ∧ PSs (cxOf (L2.CX P w) P w K mg base N qual scope f cdv A outer s H E) body t ∧ t { nx := fun _ H' => Q .non H', rt := Q' } (start N vs) H) :
    FnX P w K mg base (k + 1) f (PySem.W.fnOf name qual params body scope dV kV doc pm an cdv ct) ps sp where
  len := len
  run := fun A outer s H args us vs Q E hr hgd e0 hb r hsp => by
    have hl := len _ _ _ _ hsp
    have KX : K.In s.heap := e0.mod.kin.keeps fun b o e => (e0.bs b o e).1
    have lim := e0.mod.nolimit.keeps fun b o e => (e0.bs b o e).1
    refine codeAny_call_function hr.depth (KX _ _ lk) rfl S.co S.gen rfl (PySem.W.codeRec_of KX hcd) (hb _ _ _ _ (wpAny_newFunctionEnv_cells S.kind ?_ ?_))
    · rintro ⟨n, v⟩ hy
      cases S.par n (List.of_mem_zip hy).1 with
      | inl q => exact .inl q
      | inr q => exact .inr ⟨q, PySem.W.cellsFrom_some _ _ _ (.inl q)⟩
    · rintro env rfl s1 x
      refine ⟨lim.keeps x.toInCall.keep, codeAny_func ?_⟩
      obtain ⟨t, Q', hQ', ht, hq⟩ := hbody A outer s H vs Q E (hr.deeper _) hgd hsp
      refine wpAny_mono (ht.run [] s1 _ H _ (inv_start S hr.hd e0 hl r x) hq) ?_ fun _ _ hs => hs
      intro fl s' hs
      have close : ∀ {σ' : St} {H' : Hp} {v : V} {u : Value}, Inv (cxOf (L2.CX P w) P w K mg base N qual scope f cdv A outer s H E) [] σ' H' s' → RelV v u → Q v H' → CE outer P w H s Q u s' :=
        fun J rv q => ⟨_, _, J.os, J.bare, J.base, J.hok, rv, q⟩
      match fl, hs with
      | .ret u, ⟨v, σ', H', J, rv, q⟩ => exact close J rv (hQ' _ _ q)
      | .next, ⟨σ', H', J, q⟩ => exact close (v := V.non) (u := Value.none) J rfl q
      | .brk, ⟨_, _, _, q⟩ => exact q.elim
      | .cont, ⟨_, _, _, q⟩ => exact q.elim
/-- the def's function over data; where it gives False an error may be let out -/
def spX (K : PySem.W.Frag) (C : Addr) (g : SF) (m n : Nat) : Sp := fun vs H Q E => ∃ (W : Wd) (xs : List PyData) (x : PyData) (args' : List SV), xs.length = m ∧ W.P = [] ∧ R K W (vs.map some) H ((xs.map SV.d).map some) ∧ fcall g n (xs.map SV.d) = some (x, args') ∧
  ∀ v W' H', Ext W W' → R K W' (vs.map some) H' (args'.map some) → Dq K W'.F v x → Q v H' ∧ (v = .bl false → ∀ d, E (.ref C) d H')
theorem noL_d : ∀ xs : List PyData, noL (xs.map SV.d) = true
  | [] => rfl
  | _ :: r => by simpa [noL] using noL_d r
theorem pars_d : ∀ (xs : List PyData) (vs : List V) (i : Nat), parsOf i (xs.map SV.d) vs = []
  | [], _, _ => by simp [parsOf]
  | x :: r, [], _ => by simp [parsOf]
  | x :: r, v :: vs, i => by simp [parsOf, pars_d r vs (i + 1)]
theorem okX_def {P : Program} {w : World} {K : PySem.W.Frag} {mg : Str → Option Value} {base : Heap} {x qual : Str} {params : Arguments} {body : List Stmt} {scope : Scope} {dvs : List V} {kws : List (Str × V)} {f C : Addr} {fd : FuncData} {N ps : List Str} {k : Nat} {g : SF} {n : Nat} (F : FunD K x qual params body scope dvs kws f fd) (S : FnScope N ps scope) (hn : N.length = ps.length + n)
    (hbody : ∀ (cdv : Value) (A : Around) (outer : List Env) (s : Shared) (H : Hp) (E : XK), Room k (A.deeper (envOfC qual scope s.heap.objs.size f cdv)) → (A.deeper (envOfC qual scope s.heap.objs.size f cdv)).guards = some [] →
      SRs (cxOf (L2.CX P w) P w K mg base N qual scope f cdv A outer s H E) C E body g) : FnX P w K mg base (k + 1) f fd ps (spX K C g ps.length n) := by
  obtain ⟨oc, od, dV, kV, doc, pm, an, cdv, ct, osl, rfl, lk, hcd, _, _⟩ := F.ex
  refine fn_ofX lk hcd S (fun vs H Q E h => ?_) fun A outer s H vs Q E hr hg hsp => ?_
  · obtain ⟨W, xs, y, as', hl, _, hR, _⟩ := h
    have := hR.len
    simp only [List.length_map] at this
    omega
  · obtain ⟨W, xs, y, as', hl, hP, hR, hf, q⟩ := hsp
    obtain ⟨t, ht, hs⟩ := (hbody cdv A outer s H E hr hg).run
    have hlen := hR.len
    simp only [List.length_map] at hlen
    have e0 : start N vs = vs.map some ++ List.replicate n none := by
      unfold start
      rw [show N.length - vs.length = n by omega]
    refine ⟨_, fun v H' => Q v H' ∧ (v = .bl false → ∀ d, E (.ref C) d H'), fun v H' h => h.1, ht, ?_⟩
    rw [e0]
    simp only [fcall, Option.bind_eq_some_iff] at hf
    obtain ⟨⟨o, en'⟩, e1, hf⟩ := hf
    have hP' : W.P = parsOf 0 (xs.map SV.d) vs := by rw [hP, pars_d]
    refine hs W _ H _ o en' _ (fun H' h d => h.2 rfl d) (hR.more n) e1 fun W' σ' H' x' R' => ?_
    cases o with
    | rt z =>
      simp only [Option.some.injEq, Prod.mk.injEq] at hf
      obtain ⟨rfl, rfl⟩ := hf
      exact fun v hv => q v W' H' x' (hR.params hP' (noL_d xs) x' R') hv
    | nx =>
      simp only [Option.some.injEq, Prod.mk.injEq] at hf
      obtain ⟨rfl, rfl⟩ := hf
      exact (q .non W' H' x' (hR.params hP' (noL_d xs) x' R') .non).1
    | bk => cases hf
    | ct => cases hf

/-! ### into a call with data alone, and back -/
/-- what the callee may not touch: all but what is frozen -/
noncomputable def rest (F H : Hp) : Hp := fun a => open Classical in if F a = none then H a else none
theorem R.enter {K : PySem.W.Frag} {W : Wd} {σ : St} {H : Hp} {en : En} (r : R K W σ H en) {us : List V} {xs : List PyData} (v : DqAll K W.F us xs) : R K { F := W.F, G := rest W.F H, P := [] } (us.map some) H ((xs.map SV.d).map some) := by
  have nl : ∀ (i : Nat) (ys : List PyData), live ((xs.map SV.d).map some) i ≠ some ys := fun i ys h => by
    rcases live_of_get h with h | h
    · have := map_get.mp h
      rw [List.getElem?_map] at this
      cases q : xs[i]? with
      | none => rw [q] at this; cases this
      | some z => rw [q] at this; cases this
    · have := map_get.mp h
      rw [List.getElem?_map] at this
      cases q : xs[i]? with
      | none => rw [q] at this; cases this
      | some z => rw [q] at this; cases this
  refine ⟨by simp [dpa_length v], r.subF, fun a o h => ?_, fun a o h => ?_, fun i y h => ?_, fun i ys h => absurd h (nl i ys), fun i j a ys zs h1 h2 => absurd h1 (nl i ys), fun q hq => by cases hq⟩
  · have h' : (open Classical in if W.F a = none then H a else none) = some o := h
    split at h'
    · exact h'
    · cases h'
  · show (open Classical in if W.F a = none then H a else none) = none
    rw [if_neg (by rw [show W.F a = some o from h]; simp)]
  · have h' := map_get.mp h
    rw [List.getElem?_map] at h'
    cases q : xs[i]? with
    | none => rw [q] at h'; cases h'
    | some z =>
      rw [q] at h'
      cases h'
      obtain ⟨u, h1, h2⟩ := dpa_get v q
      exact ⟨u, map_get.mpr h1, h2⟩
theorem R.leave {K : PySem.W.Frag} {W W2 : Wd} {σ σ2 : St} {H H2 : Hp} {en en2 : En} (r : R K W σ H en) (r2 : R K W2 σ2 H2 en2) (e : Ext { F := W.F, G := rest W.F H, P := [] } W2) : Ext W { F := W2.F, G := W.G, P := W.P } ∧ R K { F := W2.F, G := W.G, P := W.P } σ H2 en := by
  have eG : W2.G = rest W.F H := e.G
  have keep : ∀ a o, W.F a = none → H a = some o → H2 a = some o ∧ W2.F a = none := fun a o h1 h2 => by
    have hg : W2.G a = some o := by
      rw [eG]
      show (open Classical in if W.F a = none then H a else none) = some o
      rw [if_pos h1, h2]
    refine ⟨r2.subG _ _ hg, ?_⟩
    cases hF : W2.F a with
    | none => rfl
    | some o' => have := r2.dis a o' hF; rw [hg] at this; cases this
  have gF : ∀ a o, W.G a = some o → W.F a = none := fun a o h => by
    cases hF : W.F a with
    | none => rfl
    | some o' => have := r.dis a o' hF; rw [h] at this; cases this
  refine ⟨⟨e.F, rfl, rfl⟩, r.len, r2.subF, fun a o h => (keep a o (gF a o h) (r.subG _ _ h)).1, fun a o h => ?_, fun i y h => ?_, fun i ys h => ?_, r.sep, r.par⟩
  · cases hG : W.G a with
    | none => rfl
    | some o' =>
      have := (keep a o' (gF a o' hG) (r.subG _ _ hG)).2
      rw [show W2.F a = some o from h] at this; cases this
  · obtain ⟨u, g1, g2⟩ := r.dat i y h
    exact ⟨u, g1, dp_mono e.F _ _ g2⟩
  · obtain ⟨a, ws, g1, g2, g3, g4, g5⟩ := r.liv i ys h
    obtain ⟨k1, k2⟩ := keep a _ g4 g2
    exact ⟨a, ws, g1, k1, dpa_mono e.F _ _ g3, k2, g5⟩

/-! ### a call by a name that holds a def -/
section
variable {X : Cx} {k : Nat} {f : Addr} {fd : FuncData} {ps : List Str} {sp : Sp} {E : St → XK} {x : Str} {p pos : Pos} {e : Expr} {es : List Expr} {t : TA}
theorem run_x {pins : List (Addr × Obj)} {σ : St} {H : Hp} {s : Shared} {Q : VK} {us : List Value} {vs : List V} (F : FnX X.prog X.w X.K X.mg X.base k f fd ps sp) (hr : Room k X.A) (hg : X.A.guards = some []) (hb : Binds X.K fd ps []) (hx : PassesAt (L2.CX X.prog X.w) X σ (E σ))
    (I : Inv X pins σ H s) (r : Vals vs us) (h : sp vs H Q (E σ)) : wpAny (model X.prog X.w) X.A (call (.ref f) us) (EP X pins σ Q) X.xe s := by
  have hl : us.length = ps.length := by rw [← r.length]; exact F.len _ _ _ _ h
  have b := hb s us I.kIn (by rw [List.append_nil]; exact hl)
  rw [List.append_nil] at b
  refine wpAny_call (codeAny_mono (F.run X.A X.stack s H ⟨us, []⟩ us vs Q (E σ) hr hg I.env0 b r h) fun r s' hq => ?_)
  cases r with
  | error e => exact hx pins H s e s' I hq
  | ok fl =>
    cases fl with
    | ret u => exact I.after hq
    | next => exact False.elim hq
    | brk => exact False.elim hq
    | cont => exact False.elim hq
def tCallV (i : Nat) (f : Addr) (sp : Sp) (E : St → XK) (t : TA) : TE := fun σ H Q => σ[i]? = some (some (.ref f)) ∧ t σ H fun vs H1 => sp vs H1 Q (E σ)
theorem pe_callV {i : Nat} (F : FnX X.prog X.w X.K X.mg X.base k f fd ps sp) (hr : Room k X.A) (hgd : X.A.guards = some []) (hk : PySem.W.keepIn X.K (.ref f) = true) (hb : Binds X.K fd ps []) (hx : ∀ σ, PassesAt (L2.CX X.prog X.w) X σ (E σ)) (hN : X.N[i]? = some x) (hv : Vis X.env.scope x)
    (ha : PA X (e :: es) t) (hdb : (x == ("__debug__" : Str)) = false := by decide) (hcd : (x == ("__classdict__" : Str)) = false := by decide) (he : starEach (e :: es) X.env = (false, eval e X.env) :: starEach es X.env := by rfl) (hpl : (backTo pos (starEach es X.env)).any (·.1) = false := by rfl) :
    PE X (.Call (.Name x p) (e :: es) [] pos) (tCallV i f sp E t) := by
  refine ⟨fun pins s σ H Q I h => ?_⟩
  obtain ⟨h0, h⟩ := h
  refine wpAny_Call_Name_kw (thn ((pe_var (pos := p) hN hv hdb hcd).run pins s σ H (fun v H1 => v = .ref f ∧ H1 = H) I ⟨_, h0, rfl, rfl⟩) fun u s1 hh => ?_)
  obtain ⟨v, H1, I1, r1, rfl, rfl⟩ := hh
  obtain rfl : u = Value.ref f := r1
  refine PySem.W.callWith_K (h₀ := X.base) I.ok.mod.kin hk (thn (ha.run pos pins s1 σ _ _ I1 h) fun us s1 ⟨vs, H1, I1, r, q⟩ => ⟨I1.kIn, ?_⟩) he hpl
  exact run_x F hr hgd hb (hx σ) I1 r q
end
end L2.FL
set_option Elab.async false
set_option linter.all false
set_option maxRecDepth 100000
set_option maxHeartbeats 2000000
/-! FL29: the def that calls another and tells whether it let an error out. -/
namespace L2.FL
open PySem PySem.Spec PyProof.Rows L2

section
variable {X : Cx} {pins pn : List (Addr × Obj)} {xe : Value → Shared → Prop} {σ : St} {H : Hp} {s : Shared}
theorem Inv.intr (h0 : X.pn = []) (I : Inv (X.tr pn xe) pins σ H s) : Inv X.nox (pn ++ pins) σ H s :=
  ⟨I.ok.ofTry.wish _, I.os, I.bare, I.base, I.loc, I.cell, I.free, I.freeC, fun p hp => I.pin p (by rw [show X.nox.pn = [] from h0] at hp; exact hp), I.hok, I.len⟩
theorem Inv.outtr (h0 : X.pn = []) (I : Inv X.nox (pn ++ pins) σ H s) : Inv (X.tr pn xe) pins σ H s :=
  ⟨I.ok.unwish.toTry _ _, I.os, I.bare, I.base, I.loc, I.cell, I.free, I.freeC, fun p hp => I.pin p (by rw [show X.nox.pn = [] from h0]; exact hp), I.hok, I.len⟩
theorem PT.tr {e : Expr} {t : TT} (h0 : X.pn = []) (h : PT X.nox e t) : PT (X.tr pn xe) e t := ⟨fun pins s σ H Q I hw =>
  wpAny_mono (h.run (pn ++ pins) s σ H Q (Inv.intr h0 I) hw) (fun _ _ ⟨H', I', q⟩ => ⟨H', Inv.outtr h0 I', q⟩) fun _ _ z => False.elim z⟩
theorem PA.tr {es : List Expr} {t : TA} (h0 : X.pn = []) (h : PA X.nox es t) : PA (X.tr pn xe) es t := ⟨fun pos pins s σ H Q I hw =>
  wpAny_mono (h.run pos (pn ++ pins) s σ H Q (Inv.intr h0 I) hw) (fun _ _ ⟨xs, H', I', r, q⟩ => ⟨xs, H', Inv.outtr h0 I', r, q⟩) fun _ _ z => False.elim z⟩
end

/-- (f, [x, ..]): whether f lets no error out and gives None -/
def spTk (K : PySem.W.Frag) (g : SF) (m n : Nat) (f : Addr) : Sp := fun vs H Q _ => ∃ (va : V) (xs : List PyData) (W : Wd) (z : PyData) (r : List SV), vs = [.ref f, va] ∧ R K W [some (.ref f), some va] H [none, some (.d (.list xs))] ∧ xs.length = m ∧ fcall g n (xs.map SV.d) = some (z, r) ∧
  ∀ W' H', Ext W W' → R K W' [some (.ref f), some va] H' [none, some (.d (.list xs))] → Q (.bl (isN z)) H'

/-! ### the body's text -/
def tTk1 (K : PySem.W.Frag) (f : Addr) (sp : Sp) (W : WX) (t2 t3 t4 t5 : TT) (a2 a3 a4 a5 a6 : TA) : TS :=
  tSeq (tIfS t2 (tRet (tOp rIsN (tCallV 0 f sp (WE W) a2) (tC .non))) tNext)
  (tSeq (tIfS t3 (tRet (tOp rIsN (tCallV 0 f sp (WE W) a3) (tC .non))) tNext)
  (tSeq (tIfS t4 (tRet (tOp rIsN (tCallV 0 f sp (WE W) a4) (tC .non))) tNext)
  (tSeq (tIfS t5 (tRet (tOp rIsN (tCallV 0 f sp (WE W) a5) (tC .non))) tNext)
  (tRet (tOp rIsN (tCallV 0 f sp (WE W) a6) (tC .non))))))
def tsTk : Addr → Value → Option Addr → TS := fun _ _ _ => tRet (tC (.bl false))
def fLenIs (k : Int) : TF := fBool (f2 oEq (fB oLen (fCons (fVar 1) fNil)) (fC (.int k)))
def fIxs : Nat → List Int → AF
  | _, [] => fNil
  | i, k :: r => fCons (f2 oIx (fVar 1) (fC (.int k))) (fIxs i r)
theorem fLenIs_ev {xs : List PyData} {k : Int} {va : Option SV} : fLenIs k [va, some (.d (.list xs))] = some (decide ((xs.length : Int) = k), [va, some (.d (.list xs))]) := by
  have h1 : oLen [.list xs] = some (.int xs.length) := by
    simp [oLen]
  simp [fLenIs, fBool, f2, fB, fCons, fNil, fVar, fC, FL.res, resL, h1]
section
variable {K : PySem.W.Frag}
theorem tif_no {t : TT} {b u : TS} {k : Int} {W : Wd} {σ : St} {H : Hp} {xs : List PyData} {D : Ends} (ht : STt K t (fLenIs k)) (hR : R K W σ H [none, some (.d (.list xs))]) (hn : (xs.length : Int) ≠ k)
    (q : ∀ W1 H1, Ext W W1 → R K W1 σ H1 [none, some (.d (.list xs))] → u D σ H1) : tSeq (tIfS t b tNext) u D σ H := by
  refine ht W σ H _ _ _ _ hR fLenIs_ev fun W1 H1 x1 R1 => ?_
  simp only [hn, decide_false, Bool.false_eq_true, if_false]
  exact q W1 H1 x1 R1
theorem tif_yes {t : TT} {b u : TS} {k : Int} {W : Wd} {σ : St} {H : Hp} {xs : List PyData} {D : Ends} (ht : STt K t (fLenIs k)) (hR : R K W σ H [none, some (.d (.list xs))]) (hn : (xs.length : Int) = k)
    (q : ∀ W1 H1, Ext W W1 → R K W1 σ H1 [none, some (.d (.list xs))] → b { D with nx := u D } σ H1) : tSeq (tIfS t b tNext) u D σ H := by
  refine ht W σ H _ _ _ _ hR fLenIs_ev fun W1 H1 x1 R1 => ?_
  simp only [hn, decide_true, if_true]
  exact q W1 H1 x1 R1
theorem dq_isN {F : Hp} {v : V} {z : PyData} (h : Dq K F v z) : decide (v = V.non) = isN z := by
  cases h <;> simp [isN]
theorem dqa_of_rvals {F : Hp} {σ : St} : ∀ {us : List V} {xs : List PyData}, RVals K F σ us (xs.map RV.d) → DqAll K F us xs
  | [], [], _ => .nil
  | _ :: _, [], h => by cases h
  | [], _ :: _, h => by cases h
  | u :: us, x :: xs, h => by
    cases h with
    | cons h t => exact .cons h (dqa_of_rvals t)
theorem tk_ret {f C : Addr} {va : V} {g : SF} {m n : Nat} {Wx : WX} {a : TA} {ga : AF} {W : Wd} {H : Hp} {xs : List PyData} {D : Ends} {z : PyData} {r : List SV} (ha : SAt K a ga) (hg : ga [none, some (.d (.list xs))] = some (xs.map RV.d, [none, some (.d (.list xs))]))
    (hR : R K W [some (.ref f), some va] H [none, some (.d (.list xs))]) (hl : xs.length = m) (hz : fcall g n (xs.map SV.d) = some (z, r)) (hW : ∀ d σ H, D.rt (.bl false) H → Wx (.ref C) d σ H)
    (q : ∀ W' H', Ext W W' → R K W' [some (.ref f), some va] H' [none, some (.d (.list xs))] → D.rt (.bl (isN z)) H') :
    tRet (tOp rIsN (tCallV 0 f (spX K C g m n) (WE Wx) a) (tC .non)) D [some (.ref f), some va] H := by
  refine ⟨rfl, ha W _ H _ _ _ _ hR hg fun us W1 H1 x1 R1 v1 => ?_⟩
  refine ⟨_, xs, z, r, hl, rfl, R1.enter (dqa_of_rvals v1), hz, fun v W2 H2 x2 R2 hv => ?_⟩
  obtain ⟨x3, R3⟩ := R1.leave R2 x2
  have fin := q _ _ (x1.trans x3) R3
  refine ⟨⟨rfl, ?_⟩, fun e d => hW d _ _ ?_⟩
  · rw [dq_isN hv]; exact fin
  · subst e
    cases hv
    exact fin
theorem tk_run {f C : Addr} {va : V} {g : SF} {m n : Nat} {Wx : WX} {t2 t3 t4 t5 : TT} {a2 a3 a4 a5 a6 : TA} {W : Wd} {H : Hp} {xs : List PyData} {D : Ends} {z : PyData} {r : List SV}
    (h2 : STt K t2 (fLenIs 2)) (h3 : STt K t3 (fLenIs 3)) (h4 : STt K t4 (fLenIs 4)) (h5 : STt K t5 (fLenIs 5)) (k2 : SAt K a2 (fIxs 0 [0, 1])) (k3 : SAt K a3 (fIxs 0 [0, 1, 2])) (k4 : SAt K a4 (fIxs 0 [0, 1, 2, 3])) (k5 : SAt K a5 (fIxs 0 [0, 1, 2, 3, 4])) (k6 : SAt K a6 (fIxs 0 [0, 1, 2, 3, 4, 5]))
    (hR : R K W [some (.ref f), some va] H [none, some (.d (.list xs))]) (hl : xs.length = m) (hm : 2 ≤ m ∧ m ≤ 6) (hz : fcall g n (xs.map SV.d) = some (z, r)) (hW : ∀ d σ H, D.rt (.bl false) H → Wx (.ref C) d σ H)
    (q : ∀ W' H', Ext W W' → R K W' [some (.ref f), some va] H' [none, some (.d (.list xs))] → D.rt (.bl (isN z)) H') :
    tTk1 K f (spX K C g m n) Wx t2 t3 t4 t5 a2 a3 a4 a5 a6 D [some (.ref f), some va] H := by
  have hm' : m = 2 ∨ m = 3 ∨ m = 4 ∨ m = 5 ∨ m = 6 := by omega
  unfold tTk1
  rcases hm' with e | e | e | e | e
  · refine tif_yes h2 hR (by omega) fun W1 H1 x1 R1 => tk_ret k2 ?_ R1 hl hz hW fun W' H' x' R' => q W' H' (x1.trans x') R'
    match xs, hl.trans e with
    | [_, _], _ => rfl
  · refine tif_no h2 hR (by omega) fun W1 H1 x1 R1 => tif_yes h3 R1 (by omega) fun W2 H2 x2 R2 => tk_ret k3 ?_ R2 hl hz hW fun W' H' x' R' => q W' H' ((x1.trans x2).trans x') R'
    match xs, hl.trans e with
    | [_, _, _], _ => rfl
  · refine tif_no h2 hR (by omega) fun W1 H1 x1 R1 => tif_no h3 R1 (by omega) fun W2 H2 x2 R2 => tif_yes h4 R2 (by omega) fun W3 H3 x3 R3 => tk_ret k4 ?_ R3 hl hz hW fun W' H' x' R' => q W' H' (((x1.trans x2).trans x3).trans x') R'
    match xs, hl.trans e with
    | [_, _, _, _], _ => rfl
  · refine tif_no h2 hR (by omega) fun W1 H1 x1 R1 => tif_no h3 R1 (by omega) fun W2 H2 x2 R2 => tif_no h4 R2 (by omega) fun W3 H3 x3 R3 => tif_yes h5 R3 (by omega) fun W4 H4 x4 R4 => tk_ret k5 ?_ R4 hl hz hW fun W' H' x' R' => q W' H' ((((x1.trans x2).trans x3).trans x4).trans x') R'
    match xs, hl.trans e with
    | [_, _, _, _, _], _ => rfl
  · refine tif_no h2 hR (by omega) fun W1 H1 x1 R1 => tif_no h3 R1 (by omega) fun W2 H2 x2 R2 => tif_no h4 R2 (by omega) fun W3 H3 x3 R3 => tif_no h5 R3 (by omega) fun W4 H4 x4 R4 => tk_ret k6 ?_ R4 hl hz hW fun W' H' x' R' => q W' H' ((((x1.trans x2).trans x3).trans x4).trans x') R'
    match xs, hl.trans e with
    | [_, _, _, _, _, _], _ => rfl
end

/-! ### the def itself -/
theorem ok_taken {P : Program} {w : World} {K : PySem.W.Frag} {mg : Str → Option Value} {base : Heap} {x qual : Str} {params : Arguments} {scope : Scope} {dvs : List V} {kws : List (Str × V)} {ft f C fI : Addr} {fdt fd : FuncData} {ps ps2 : List Str} {k m n : Nat} {g : SF} {nx an : Str}
    {c2 c3 c4 c5 b2 b3 b4 b5 b6 : Expr} {es2 es3 es4 es5 es6 : List Expr} {y2 y3 y4 y5 y6 u2 u3 u4 u5 u6 w2 w3 w4 w5 w6 v2 v3 v4 v5 v6 s2 s3 s4 s5 np hp1 hp2 hp3 tp : Pos} {j2 j3 j4 j5 j6 j7 : Nat} {z2 z3 z4 z5 z6 : Pos} {sm : Str}
    (F : FunD K x qual params [.Try [
        .If c2 [.Return (some (.Compare (.Call (.Name an y2) (b2 :: es2) [] u2) [.Is] [.Constant .none j2 z2] w2)) v2] [] s2,
        .If c3 [.Return (some (.Compare (.Call (.Name an y3) (b3 :: es3) [] u3) [.Is] [.Constant .none j3 z3] w3)) v3] [] s3,
        .If c4 [.Return (some (.Compare (.Call (.Name an y4) (b4 :: es4) [] u4) [.Is] [.Constant .none j4 z4] w4)) v4] [] s4,
        .If c5 [.Return (some (.Compare (.Call (.Name an y5) (b5 :: es5) [] u5) [.Is] [.Constant .none j5 z5] w5)) v5] [] s5,
        .Return (some (.Compare (.Call (.Name an y6) (b6 :: es6) [] u6) [.Is] [.Constant .none j6 z6] w6)) v6]
      [.ExceptHandler (some (.Name nx np)) none [.Return (some (.Constant (.bool false) j7 hp1)) hp2] hp3] [] [] tp] scope dvs kws ft fdt)
    (S : FnScope [an, sm] ps2 scope) (hn : ps2.length = 2) (T : PySem.PxX.PxTxt P K mg nx C fI) (FX : FnX P w K mg base k f fd ps (spX K C g ps.length n)) (hm : ps.length = m) (hm2 : 2 ≤ m ∧ m ≤ 6) (hk : PySem.W.keepIn K (.ref f) = true) (hb : Binds K fd ps [])
    (hnx : (nx == ("__debug__" : Str)) = false) (han : (an == ("__debug__" : Str)) = false) (han2 : (an == ("__classdict__" : Str)) = false)
    (hbody : ∀ (cdv : Value) (A : Around) (outer : List Env) (s : Shared) (H : Hp) (E : XK), Room k (A.deeper (envOfC qual scope s.heap.objs.size ft cdv)) → (A.deeper (envOfC qual scope s.heap.objs.size ft cdv)).guards = some [] →
      ∃ X : Cx, X = cxOf CX0 P w K mg base [an, sm] qual scope ft cdv A outer s H E ∧ Gl X nx ∧ Vis X.env.scope an ∧
        (ST X.nox c2 (fLenIs 2) ∧ ST X.nox c3 (fLenIs 3) ∧ ST X.nox c4 (fLenIs 4) ∧ ST X.nox c5 (fLenIs 5)) ∧
        (SA X.nox (b2 :: es2) (fIxs 0 [0, 1]) ∧ SA X.nox (b3 :: es3) (fIxs 0 [0, 1, 2]) ∧ SA X.nox (b4 :: es4) (fIxs 0 [0, 1, 2, 3]) ∧ SA X.nox (b5 :: es5) (fIxs 0 [0, 1, 2, 3, 4]) ∧ SA X.nox (b6 :: es6) (fIxs 0 [0, 1, 2, 3, 4, 5])) ∧
        (starEach (b2 :: es2) X.env = (false, eval b2 X.env) :: starEach es2 X.env ∧ starEach (b3 :: es3) X.env = (false, eval b3 X.env) :: starEach es3 X.env ∧ starEach (b4 :: es4) X.env = (false, eval b4 X.env) :: starEach es4 X.env ∧ starEach (b5 :: es5) X.env = (false, eval b5 X.env) :: starEach es5 X.env ∧ starEach (b6 :: es6) X.env = (false, eval b6 X.env) :: starEach es6 X.env) ∧
        ((backTo u2 (starEach es2 X.env)).any (·.1) = false ∧ (backTo u3 (starEach es3 X.env)).any (·.1) = false ∧ (backTo u4 (starEach es4 X.env)).any (·.1) = false ∧ (backTo u5 (starEach es5 X.env)).any (·.1) = false ∧ (backTo u6 (starEach es6 X.env)).any (·.1) = false)) :
    FnG P w K mg base (k + 1) ft fdt ps2 (spTk K g m n f) := by
  subst hm
  obtain ⟨oc, od, dV, kV, doc, pm, ano, cdv, ct, osl, rfl, lk, hcd, _, _⟩ := F.ex
  refine fn_ofG lk hcd S (fun vs H Q E h => ?_) fun A outer s H vs Q E hr hg hsp => ?_
  · obtain ⟨va, xs, W, z, r, rfl, _⟩ := h
    simp [hn]
  · obtain ⟨X, hX, hgl, hvis, ⟨T2, T3, T4, T5⟩, ⟨A2, A3, A4, A5, A6⟩, ⟨e2, e3, e4, e5, e6⟩, ⟨l2, l3, l4, l5, l6⟩⟩ := hbody cdv A outer s H E hr hg
    subst hX
    obtain ⟨t2, p2, q2⟩ := T2.run
    obtain ⟨t3, p3, q3⟩ := T3.run
    obtain ⟨t4, p4, q4⟩ := T4.run
    obtain ⟨t5, p5, q5⟩ := T5.run
    obtain ⟨a2, pa2, k2⟩ := A2.run
    obtain ⟨a3, pa3, k3⟩ := A3.run
    obtain ⟨a4, pa4, k4⟩ := A4.run
    obtain ⟨a5, pa5, k5⟩ := A5.run
    obtain ⟨a6, pa6, k6⟩ := A6.run
    obtain ⟨va, xs, W, z, r, rfl, hR, hl, hz, q⟩ := hsp
    refine ⟨_, pss_one (ps_try_only (c := .ref C) (tb := fun Wx => tTk1 K f (spX K C g ps.length n) Wx t2 t3 t4 t5 a2 a3 a4 a5 a6) (ts := tsTk) (Wout := fun _ _ _ _ => False) rfl rfl ⟨hgl, hnx, .inl T.gC⟩ takes0 (fun Wx pn xe tk _ => ?_) (fun a oe cls d pn _ _ => pss_one (ps_ret pe_bl))), ?_⟩
    · have call : ∀ {b : Expr} {es : List Expr} {a : TA} {y u : Pos}, PA (cxOf CX0 P w K mg base [an, sm] qual scope ft cdv A outer s H E).nox (b :: es) a → starEach (b :: es) (cxOf CX0 P w K mg base [an, sm] qual scope ft cdv A outer s H E).env = (false, eval b (cxOf CX0 P w K mg base [an, sm] qual scope ft cdv A outer s H E).env) :: starEach es (cxOf CX0 P w K mg base [an, sm] qual scope ft cdv A outer s H E).env →
          (backTo u (starEach es (cxOf CX0 P w K mg base [an, sm] qual scope ft cdv A outer s H E).env)).any (·.1) = false →
          PE ((cxOf CX0 P w K mg base [an, sm] qual scope ft cdv A outer s H E).tr pn xe) (.Call (.Name an y) (b :: es) [] u) (tCallV 0 f (spX K C g ps.length n) (WE Wx) a) := fun pa he hpl =>
        pe_callV (X := (cxOf CX0 P w K mg base [an, sm] qual scope ft cdv A outer s H E).tr pn xe) FX hr hg hk hb (fun σ => passAt tk σ) rfl hvis (PA.tr rfl pa) han han2 he hpl
      exact pss_cons (ps_if (PT.tr rfl p2) (pss_one (ps_ret (pe_cmpR op_isN1 (call pa2 e2 l2) pe_non (nomark _)))) pss_nil)
        (pss_cons (ps_if (PT.tr rfl p3) (pss_one (ps_ret (pe_cmpR op_isN1 (call pa3 e3 l3) pe_non (nomark _)))) pss_nil)
        (pss_cons (ps_if (PT.tr rfl p4) (pss_one (ps_ret (pe_cmpR op_isN1 (call pa4 e4 l4) pe_non (nomark _)))) pss_nil)
        (pss_cons (ps_if (PT.tr rfl p5) (pss_one (ps_ret (pe_cmpR op_isN1 (call pa5 e5 l5) pe_non (nomark _)))) pss_nil)
        (pss_one (ps_ret (pe_cmpR op_isN1 (call pa6 e6 l6) pe_non (nomark _)))))))
    · refine tk_run q2 q3 q4 q5 k2 k3 k4 k5 k6 hR hl hm2 hz (fun d σ H' h => ⟨true, T.te, fun _ a _ => h, fun h => nomatch h⟩) fun W' H' x' R' => q W' H' x' R'

/-! ### the call -/
def fTk (g : SF) (m n : Nat) (f : EF) : EF := fun en => (f en).bind fun p => match p.1 with
  | .d (.list xs) => if xs.length = m then (fcall g n (xs.map SV.d)).bind fun r => some (.d (.bool (isN r.1)), p.2) else none
  | _ => none
theorem R.enterF {K : PySem.W.Frag} {W : Wd} {σ : St} {H : Hp} {en : En} (r : R K W σ H en) {f : Addr} {va : V} {x : PyData} (v : Dq K W.F va x) : R K { F := W.F, G := rest W.F H, P := [] } [some (.ref f), some va] H [none, some (.d x)] := by
  have r1 := R.enter (us := [va]) (xs := [x]) r (.cons v .nil)
  have nl : ∀ (i : Nat) (ys : List PyData), live [none, some (.d x)] i ≠ some ys := fun i ys h => by
    match i with
    | 0 => simp [live] at h
    | 1 => simp [live] at h
    | i + 2 => simp [live] at h
  refine ⟨rfl, r1.subF, r1.subG, r1.dis, fun i y h => ?_, fun i ys h => absurd h (nl i ys), fun i j a ys zs h1 h2 => absurd h1 (nl i ys), fun q hq => by cases hq⟩
  match i with
  | 0 => simp at h
  | 1 =>
    simp at h
    subst h
    exact ⟨va, rfl, v⟩
  | i + 2 => simp at h
/-- what the top says: the def that calls, the def that is called -/
structure Tkn (P : Program) (w : World) (K : PySem.W.Frag) (mg : Str → Option Value) (base : Heap) (k : Nat) (x y : Str) (g : SF) (m n : Nat) : Prop where
  ex : ∃ (ft f : Addr) (fdt : FuncData) (ps : List Str), FnG P w K mg base k ft fdt ps (spTk K g m n f) ∧ mg x = some (.ref ft) ∧ PySem.W.keepIn K (.ref ft) = true ∧ Binds K fdt ps [] ∧ mg y = some (.ref f)
theorem se_tk {X : Cx} {j k : Nat} {x y : Str} {p p1 pos : Pos} {e : Expr} {g : SF} {m n : Nat} {ff : EF} (c : Tkn X.prog X.w X.K X.mg X.base k x y g m n) (hr : Room j X.A) (hk : k ≤ j) (hgd : X.A.guards = some []) (hg : Gl X x) (hg2 : Gl X y) (ha : SE X e ff)
    (hdb : (x == ("__debug__" : Str)) = false := by decide) (hdb2 : (y == ("__debug__" : Str)) = false := by decide) (he : starEach [.Name y p1, e] X.env = (false, eval (.Name y p1) X.env) :: starEach [e] X.env := by rfl) (he2 : starEach [e] X.env = (false, eval e X.env) :: starEach [] X.env := by rfl) (hpl : (backTo pos (starEach [e] X.env)).any (·.1) = false := by rfl) :
    SE X (.Call (.Name x p) [.Name y p1, e] [] pos) (fTk g m n ff) := by
  obtain ⟨ft, f, fdt, ps, F, h1, h2, h3, h4⟩ := c.ex
  obtain ⟨t, hp, ht⟩ := ha.run
  refine ⟨_, pe_callG F (hr.mono hk) hgd hg h1 h2 h3 .nil (pa_cons (pe_glob (v := .ref f) hg2 h4 rfl hdb2) (pa_cons hp pa_nil he2) he) hdb he hpl, fun W σ H en q en' Q hR hf qq => ?_⟩
  simp only [fTk, Option.bind_eq_some_iff] at hf
  obtain ⟨⟨c0, en1⟩, e1, hf⟩ := hf
  simp only at hf
  split at hf
  · rename_i xs
    split at hf
    · rename_i hm
      simp only [Option.bind_eq_some_iff] at hf
      obtain ⟨⟨z, r⟩, e2, hf⟩ := hf
      cases hf
      refine ht W σ H en _ _ _ hR e1 fun v W1 H1 x1 R1 v1 => ?_
      have v1' : Dq X.K W1.F v (.list xs) := v1
      refine ⟨v, xs, _, z, r, rfl, R1.enterF v1', hm, e2, fun W2 H2 x2 R2 => ?_⟩
      obtain ⟨x3, R3⟩ := R1.leave R2 x2
      exact qq _ _ _ (x1.trans x3) R3 (.bl _)
    · cases hf
  · cases hf
end L2.FL
set_option Elab.async false
set_option linter.all false
set_option maxRecDepth 100000
set_option maxHeartbeats 2000000
/-! FL30: what the top says of an own error's class. -/
namespace L2.FL
open PySem PySem.Spec PyProof.Rows L2 PySem.PxX
/-- the class's __init__ in its text -/
def initOf : Stmt → Stmt
  | .ClassDef _ _ _ body _ _ _ _ _ _ _ => body.headD (.Pass ⟨0, 0, 0, 0⟩)
  | s => s
theorem exm_self {K : PySem.W.Frag} {S : Addr} (h1 : PySem.W.subIn K (.ref S) (.type "BaseException") = some true) (h2 : PySem.W.isClsIn K S = true) (h3 : PySem.W.typeIn K (.ref S) = some (.type "type")) (h4 : PySem.W.subIn K (.ref S) (.ref S) = some true) :
    PySem.W.exmOne K (.ref S) (.ref S) = some true := by
  have e1 : (PySem.W.subIn K (.ref S) (.type "BaseException") == some true) = true := by rw [h1] <;> rfl
  have e2 : ((PySem.W.clsIn K S).isSome && PySem.W.typeIn K (.ref S) == some (.type "type")) = true := by
    have h2' : (PySem.W.clsIn K S).isSome = true := h2
    rw [h2', h3] <;> rfl
  show (if (PySem.W.subIn K (.ref S) (.type "BaseException") == some true) = true then (if ((PySem.W.clsIn K S).isSome && PySem.W.typeIn K (.ref S) == some (.type "type")) = true then PySem.W.subIn K (.ref S) (.ref S) else none) else none) = some true
  rw [if_pos e1, if_pos e2]
  exact h4
theorem px_mk {P : Program} {K : PySem.W.Frag} {h : Heap} {mg : Str → Option Value} {x : Str} {C fI CB : Addr} (X : K.In h) (G : h.Ns mainGlobals mg) (si : Stmt)
    {nm q : Str} {N : Addr} {bs : List Value} {sn : List Str} {sub : List Value} {ab : Bool} {col : Option Bool} {dd : Option Addr} {m0 m1 m2 m3 m5 : Option Value}
    {od1 an1 : Option Addr} {sl1 : Array (Option Value)} {oc1 dc1 pm1 ct1 : Value} {cda cc : Addr} {qn msg : Str} {p1 p2 r0 r1 r2 r3 r4 r5 q1 q2 q3 q4 : Pos}
    {ccl : Value} {cdd : Option Addr} {vs : Array Value} {ccs : Array (Option Value)} {file : Str} {tf : Tok} {cl : Value} {cld : Option Addr} {csl : Array (Option Value)}
    (aC : PySem.W.nsIn K mainGlobals x = some (some (.ref C)))
    (xL : K.lookup C = some (excClassObj nm q C N bs [.ref CB, .type "ValueError", .type "Exception", .type "BaseException", .type "object"] true sn sub ab col dd m0 m1 m2 m3 m5 "ValueError.__new__"))
    (sa : PySem.W.findIn K (.ref C) "__setattr__" = some (some (.builtin "object.__setattr__"))) (nb : PySem.W.findIn K (.ref C) "reason" = some none)
    (a1 : PySem.W.findIn K (.ref C) "__init__" = some (some (.ref fI))) (t1 : PySem.W.typeIn K (.ref fI) = some (.type "function"))
    (l1 : K.lookup fI = some ⟨oc1, od1, .func (PySem.W.ksFn "__init__" qn (defArgs si) (defBody si) (defScope si) .none .none dc1 pm1 an1 (.ref cda) ct1 cc), sl1⟩) (c1 : PySem.W.codeIn K (.ref cda) qn = true)
    (hcode : K.lookup cda = some ⟨ccl, cdd, .fields vs, ccs⟩) (hvs : vs[2]? = some (.str file tf)) (hfile : ((P.main.file : Str) == file) = true) (hcell : K.lookup cc = some ⟨cl, cld, .cell (some (.ref C)), csl⟩)
    (kC : PySem.W.keepIn K (.ref C) = true) (eC : PySem.W.subIn K (.ref C) (.type "BaseException") = some true) (vC : PySem.W.subIn K (.ref C) (.type "ValueError") = some true) (tC : PySem.W.typeIn K (.ref C) = some (.type "type")) (iC : PySem.W.isClsIn K C = true) (sC : PySem.W.subIn K (.ref C) (.ref C) = some true)
    (mC : PySem.W.mroIn K C (.ref C) = some true) (opq : PySem.W.nsIn K cStatics "thirdparty.any" = some none) (sup : PySem.W.nsIn K mainGlobals "super" = some none) (hm : PySem.W.ks_superIn K C C "__init__" = some (some (.builtin "ValueError.__init__")))
    (nosup : (P.main.scope.names.lookup ("super" : Str)).isSome = false)
    (hA : defArgs si = iA p1 p2) (hB : defBody si = iB msg r0 r1 r2 r3 r4 r5 q1 q2 q3 q4) (hS : defScope si = iS) (hline : (r2.endLine == r4.line) = true) : PxTxt P K mg x C fI := by
  rw [hA, hB, hS] at l1
  exact ⟨PySem.W.mg_of X G aC, ⟨nm, q, N, bs, _, sn, sub, ab, col, dd, m0, m1, m2, m3, m5, xL, by rfl⟩, sa, nb, a1, t1, kC, eC, vC, tC, exm_self eC iC tC sC, opq, PySem.W.mg_none_of X G sup, hm, mC, nosup,
    ⟨qn, msg, oc1, od1, dc1, pm1, an1, ct1, sl1, p1, p2, r0, r1, r2, r3, r4, r5, q1, q2, q3, q4, cda, cc, ccl, cdd, vs, ccs, file, tf, cl, cld, csl, l1, c1, hcode, hvs, hfile, hline, hcell⟩⟩
end L2.FL
set_option Elab.async false
set_option linter.all false
set_option maxRecDepth 100000
set_option maxHeartbeats 4000000
/-! PL1: plain functions for the readings: what is known of the slots; expressions. -/
namespace L2.FL
open PySem PySem.Spec PyProof.Rows L2

/-- what is known of a slot: all; a list that is kept or will be; none or data; anything that may be set -/
inductive Sl where
  | k (s : SV)
  | z (xs : List PyData)
  | o
  | a
abbrev Ctx := List Sl
def Fit : Sl → Option SV → Prop
  | .k s, x => x = some s
  | .z xs, x => x = some (.l xs) ∨ x = some (.d (.list xs))
  | .o, x => x = none ∨ ∃ y, x = some (.d y)
  | .a, x => ∀ y, x ≠ some (.p y)
inductive Fits : Ctx → En → Prop
  | nil : Fits [] []
  | cons {s : Sl} {x : Option SV} {Γ : Ctx} {en : En} : Fit s x → Fits Γ en → Fits (s :: Γ) (x :: en)
theorem fits_len : ∀ {Γ : Ctx} {en : En}, Fits Γ en → Γ.length = en.length
  | _, _, .nil => rfl
  | _, _, .cons _ h => by simp [fits_len h]
theorem fits_get : ∀ {Γ : Ctx} {en : En} {i : Nat} {s : Sl}, Fits Γ en → Γ[i]? = some s → ∃ x, en[i]? = some x ∧ Fit s x
  | _, _, i, s, .nil, e => by simp at e
  | _, _, 0, s, .cons h _, e => by
    simp at e
    subst e
    exact ⟨_, rfl, h⟩
  | _, _, i + 1, s, .cons _ h, e => by
    obtain ⟨x, e1, e2⟩ := fits_get (i := i) (s := s) h (by simpa using e)
    exact ⟨x, by simpa using e1, e2⟩
theorem fits_set {s : Sl} {x : Option SV} (hx : Fit s x) : ∀ {Γ : Ctx} {en : En} (i : Nat), Fits Γ en → Fits (Γ.set i s) (en.set i x)
  | _, _, _, .nil => .nil
  | _, _, 0, .cons _ h => .cons hx h
  | _, _, i + 1, .cons h0 h => .cons h0 (fits_set hx i h)
/-- setting a slot of the row leaves what fits there, too -/
theorem fits_set' {s : Sl} {x : Option SV} (hx : Fit s x) : ∀ {Γ : Ctx} {en : En} (i : Nat), Fits Γ en → Γ[i]? = some s → Fits Γ (en.set i x)
  | _, _, _, .nil, _ => .nil
  | _, _, 0, .cons _ h, e => by
    simp at e
    subst e
    exact .cons hx h
  | _, _, i + 1, .cons h0 h, e => .cons h0 (fits_set' hx i h (by simpa using e))
def opn (Γ : Ctx) (i : Nat) : Bool := match Γ[i]? with
  | some (.k (.p _)) => false
  | none => false
  | _ => true
def pln (Γ : Ctx) (i : Nat) : Bool := match Γ[i]? with
  | some (.k (.d _)) => true
  | some .o => true
  | _ => false
theorem opn_of {Γ : Ctx} {en : En} {i : Nat} (h : Fits Γ en) (o : opn Γ i = true) : open_ en i = true := by
  unfold opn at o
  cases e : Γ[i]? with
  | none => rw [e] at o; cases o
  | some s =>
    obtain ⟨x, e1, e2⟩ := fits_get h e
    unfold open_
    rw [e1]
    rw [e] at o
    cases s with
    | k s =>
      have : x = some s := e2
      subst this
      cases s with
      | d y => rfl
      | l y => rfl
      | p y => cases o
    | z ys =>
      rcases (show x = some (.l ys) ∨ x = some (.d (.list ys)) from e2) with rfl | rfl <;> rfl
    | o =>
      rcases (show x = none ∨ ∃ y, x = some (.d y) from e2) with rfl | ⟨y, rfl⟩ <;> rfl
    | a =>
      have e3 : ∀ y, x ≠ some (.p y) := e2
      cases x with
      | none => rfl
      | some x =>
        cases x with
        | d y => rfl
        | l y => rfl
        | p y => exact absurd rfl (e3 y)
theorem pln_of {Γ : Ctx} {en : En} {i : Nat} (h : Fits Γ en) (o : pln Γ i = true) : plainAt en i = true ∧ (en[i]? = some none ∨ ∃ y, en[i]? = some (some (.d y))) := by
  unfold pln at o
  cases e : Γ[i]? with
  | none => rw [e] at o; cases o
  | some s =>
    obtain ⟨x, e1, e2⟩ := fits_get h e
    rw [e] at o
    unfold plainAt
    rw [e1]
    cases s with
    | k s =>
      have : x = some s := e2
      subst this
      cases s with
      | d y => exact ⟨rfl, .inr ⟨y, rfl⟩⟩
      | l y => cases o
      | p y => cases o
    | z ys => cases o
    | o =>
      rcases (show x = none ∨ ∃ y, x = some (.d y) from e2) with rfl | ⟨y, rfl⟩
      · exact ⟨rfl, .inl rfl⟩
      · exact ⟨rfl, .inr ⟨y, rfl⟩⟩
    | a => cases o
theorem plns_of {Γ : Ctx} {en : En} {vs : List Nat} (h : Fits Γ en) (o : vs.all (pln Γ) = true) : vs.all (plainAt en) = true := by
  rw [List.all_eq_true] at o ⊢
  exact fun i hi => (pln_of h (o i hi)).1
/-! less is known -/
def WkS : Sl → Sl → Prop
  | .k (.d _), .o => True
  | .o, .o => True
  | .k (.l xs), .z ys => xs = ys
  | .z xs, .z ys => xs = ys
  | .k s, .k t => s = t
  | .k (.d _), .a => True
  | .k (.l _), .a => True
  | .z _, .a => True
  | .o, .a => True
  | .a, .a => True
  | _, _ => False
def WkC : Ctx → Ctx → Prop
  | [], [] => True
  | s :: Γ, t :: Δ => WkS s t ∧ WkC Γ Δ
  | _, _ => False
theorem wkS_fit {s t : Sl} {x : Option SV} (w : WkS s t) (h : Fit s x) : Fit t x := by
  unfold WkS at w
  split at w
  · exact Or.inr ⟨_, h⟩
  · exact h
  · subst w; exact .inl h
  · subst w; exact h
  · subst w; exact h
  · have h' : x = _ := h
    subst h'
    intro y e
    cases e
  · have h' : x = _ := h
    subst h'
    intro y e
    cases e
  · rcases h with rfl | rfl <;> · intro y e; cases e
  · rcases h with rfl | ⟨y, rfl⟩ <;> · intro y e; cases e
  · exact h
  · exact w.elim
theorem wkC_fits : ∀ {Γ Δ : Ctx} {en : En}, WkC Γ Δ → Fits Γ en → Fits Δ en
  | [], [], _, _, h => h
  | s :: Γ, t :: Δ, _, w, .cons h1 h2 => .cons (wkS_fit w.1 h1) (wkC_fits w.2 h2)
  | [], _ :: _, _, w, _ => w.elim
  | _ :: _, [], _, w, _ => w.elim
/-- slots that comprehensions use for a while -/
def wipC (Γ : Ctx) : List Nat → Ctx
  | [] => Γ
  | v :: vs => (wipC Γ vs).set v .o
theorem fits_wipe {Γ : Ctx} {en : En} (h : Fits Γ en) : ∀ vs, Fits (wipC Γ vs) (wipeE en vs)
  | [] => h
  | v :: vs => fits_set (s := .o) (x := none) (Or.inl rfl) v (fits_wipe h vs)
theorem fits_ext : ∀ {Γ : Ctx} {en : En}, Γ.length = en.length → (∀ (i : Nat) (s : Sl), Γ[i]? = some s → ∃ x, en[i]? = some x ∧ Fit s x) → Fits Γ en
  | [], [], _, _ => .nil
  | [], _ :: _, h, _ => by simp at h
  | _ :: _, [], h, _ => by simp at h
  | s :: Γ, x :: en, h, k => by
    refine .cons ?_ (fits_ext (by simpa using h) fun i t e => ?_)
    · obtain ⟨y, e1, e2⟩ := k 0 s rfl
      simp at e1
      subst e1
      exact e2
    · obtain ⟨y, e1, e2⟩ := k (i + 1) t (by simpa using e)
      exact ⟨y, by simpa using e1, e2⟩
theorem wipC_length (Γ : Ctx) : ∀ vs, (wipC Γ vs).length = Γ.length
  | [] => rfl
  | v :: vs => by unfold wipC; rw [List.length_set, wipC_length Γ vs]
theorem backE_len (e e' : En) : ∀ vs, (backE e e' vs).length = e'.length
  | [] => rfl
  | v :: vs => by
    rw [x_backE1, List.length_set, backE_len e e' vs]
theorem fits_back1 {Γ : Ctx} {en0 : En} (h0 : Fits Γ en0) : ∀ (vs : List Nat) {Δ : Ctx} {en : En}, Fits Δ en → Δ.length = Γ.length → (∀ i s, i ∉ vs → Γ[i]? = some s → Δ[i]? = some s) → Fits Γ (backE en0 en vs) := by
  intro vs Δ en h hl hd
  refine fits_ext (by rw [backE_len, ← fits_len h, hl]) fun i s e => ?_
  have hi : i < Γ.length := (List.getElem?_eq_some_iff.mp e).1
  have key : ∀ vs : List Nat, (i ∈ vs → (backE en0 en vs)[i]? = some ((en0[i]?).getD none)) ∧ (i ∉ vs → (backE en0 en vs)[i]? = en[i]?) := by
    intro vs
    induction vs with
    | nil => exact ⟨fun q => (List.not_mem_nil q).elim, fun _ => rfl⟩
    | cons v vs ih =>
      rw [x_backE1]
      by_cases q : v = i
      · subst q
        have hv : v < (backE en0 en vs).length := by rw [backE_len, ← fits_len h, hl]; exact hi
        exact ⟨fun _ => by rw [List.getElem?_set_self hv], fun q => absurd List.mem_cons_self q⟩
      · rw [List.getElem?_set_ne q]
        exact ⟨fun m => ih.1 (by rcases List.mem_cons.mp m with e | e; exact absurd e.symm q; exact e), fun m => ih.2 fun e => m (List.mem_cons_of_mem _ e)⟩
  by_cases q : i ∈ vs
  · obtain ⟨x, e1, e2⟩ := fits_get h0 e
    rw [(key vs).1 q, e1]
    exact ⟨x, rfl, e2⟩
  · rw [(key vs).2 q]
    exact fits_get h (hd i s q e)
theorem wipC_get (Γ : Ctx) (i : Nat) : ∀ vs, i ∉ vs → (wipC Γ vs)[i]? = Γ[i]?
  | [], _ => rfl
  | v :: vs, h => by
    unfold wipC
    rw [List.getElem?_set_ne (fun e => h (by simp [e])), wipC_get Γ i vs fun e => h (by simp [e])]
theorem fits_back {Γ : Ctx} {en0 en : En} {vs : List Nat} (h0 : Fits Γ en0) (h : Fits (wipC Γ vs) en) : Fits Γ (backE en0 en vs) :=
  fits_back1 h0 vs h (wipC_length Γ vs) fun i s q e => by rw [wipC_get Γ i vs q]; exact e

/-! ### expressions
PV: the value can be read; PP: and stays so; PD: it is data. E: the plain text. -/
def PV_ (Γ : Ctx) (f : EF) (E : Option PyData) : Prop := ∀ en, Fits Γ en → ∀ x, E = some x → ∃ r en', f en = some (r, en') ∧ Fits Γ en' ∧ res en' r = some x
def PP (Γ : Ctx) (f : EF) (E : Option PyData) : Prop := ∀ en, Fits Γ en → ∀ x, E = some x → ∃ r en', f en = some (r, en') ∧ Fits Γ en' ∧ ∀ e, Fits Γ e → res e r = some x
def PD (Γ : Ctx) (f : EF) (E : Option PyData) : Prop := ∀ en, Fits Γ en → ∀ x, E = some x → ∃ en', f en = some (.d x, en') ∧ Fits Γ en'
def PT_ (Γ : Ctx) (f : TF) (E : Option Bool) : Prop := ∀ en, Fits Γ en → ∀ x, E = some x → ∃ en', f en = some (x, en') ∧ Fits Γ en'
/-- rows of arguments -/
def PAr (Γ : Ctx) (f : AF) (E : Option (List PyData)) : Prop := ∀ en, Fits Γ en → ∀ x, E = some x → ∃ rs en', f en = some (rs, en') ∧ Fits Γ en' ∧ ∀ e, Fits Γ e → resL e rs = some x
def PAd (Γ : Ctx) (f : AF) (E : Option (List PyData)) : Prop := ∀ en, Fits Γ en → ∀ x, E = some x → ∃ en', f en = some (x.map .d, en') ∧ Fits Γ en'
/-- new lists; rows to go through -/
def PLs (Γ : Ctx) (f : LF) (E : Option (List PyData)) : Prop := ∀ en, Fits Γ en → ∀ x, E = some x → ∃ en', f en = some (x, en') ∧ Fits Γ en'
def POp (Γ : Ctx) (f : OF) (E : Option (Option Int)) : Prop := ∀ en, Fits Γ en → ∀ x, E = some x → ∃ en', f en = some (x, en') ∧ Fits Γ en'

section
variable {Γ : Ctx} {f g h : EF} {E E' E'' : Option PyData}
theorem PD.p (d : PD Γ f E) : PP Γ f E := fun en hf x hx => by
  obtain ⟨en', e1, e2⟩ := d en hf x hx
  exact ⟨.d x, en', e1, e2, fun _ _ => rfl⟩
theorem PP.v (d : PP Γ f E) : PV_ Γ f E := fun en hf x hx => by
  obtain ⟨r, en', e1, e2, e3⟩ := d en hf x hx
  exact ⟨r, en', e1, e2, e3 _ e2⟩
theorem PD.v (d : PD Γ f E) : PV_ Γ f E := d.p.v

/-- slot i holds this data -/
theorem pd_var {i : Nat} {x : PyData} (h : Γ[i]? = some (.k (.d x)) := by rfl) : PD Γ (fVar i) (some x) := fun en hf y hy => by
  cases hy
  obtain ⟨v, e1, e2⟩ := fits_get hf h
  cases e2
  exact ⟨en, by simp [e1], hf⟩
theorem pd_frz {i : Nat} {x : PyData} (h : Γ[i]? = some (.k (.d x)) := by rfl) : PD Γ (fFrz i) (some x) := fun en hf y hy => by
  cases hy
  obtain ⟨v, e1, e2⟩ := fits_get hf h
  cases e2
  exact ⟨en, by simp [e1], hf⟩
theorem pd_frzZ {i : Nat} {xs : List PyData} (h : Γ[i]? = some (.z xs) := by rfl) : PD Γ (fFrz i) (some (.list xs)) := fun en hf y hy => by
  cases hy
  obtain ⟨v, e1, e2⟩ := fits_get hf h
  rcases e2 with rfl | rfl
  · exact ⟨en.set i (some (.d (.list xs))), by simp [e1], fits_set' (s := .z xs) (Or.inr rfl) i hf h⟩
  · exact ⟨en, by simp [e1], hf⟩
theorem pp_varL {i : Nat} {xs : List PyData} (h : Γ[i]? = some (.k (.l xs)) := by rfl) : PP Γ (fVar i) (some (.list xs)) := fun en hf y hy => by
  cases hy
  obtain ⟨v, e1, e2⟩ := fits_get hf h
  cases e2
  refine ⟨.b i, en, by simp [e1], hf, fun e he => ?_⟩
  obtain ⟨v, e3, e4⟩ := fits_get he h
  cases e4
  simp [live, e3]
theorem pp_varP {i : Nat} {xs : List PyData} (h : Γ[i]? = some (.k (.p xs)) := by rfl) : PP Γ (fVar i) (some (.list xs)) := fun en hf y hy => by
  cases hy
  obtain ⟨v, e1, e2⟩ := fits_get hf h
  cases e2
  refine ⟨.b i, en, by simp [e1], hf, fun e he => ?_⟩
  obtain ⟨v, e3, e4⟩ := fits_get he h
  cases e4
  simp [live, e3]
theorem pv_varZ {i : Nat} {xs : List PyData} (h : Γ[i]? = some (.z xs) := by rfl) : PV_ Γ (fVar i) (some (.list xs)) := fun en hf y hy => by
  cases hy
  obtain ⟨v, e1, e2⟩ := fits_get hf h
  rcases e2 with rfl | rfl
  · exact ⟨.b i, en, by simp [e1], hf, by simp [live, e1]⟩
  · exact ⟨.d (.list xs), en, by simp [e1], hf, rfl⟩
theorem pd_c {x : PyData} : PD Γ (fC x) (some x) := fun en hf y hy => by
  cases hy
  exact ⟨en, rfl, hf⟩
@[simp] def p1 (o : PyData → Option PyData) (E : Option PyData) : Option PyData := E.bind o
@[simp] def p2 (o : PyData → PyData → Option PyData) (E E' : Option PyData) : Option PyData := E.bind fun x => E'.bind fun y => o x y
theorem pd_1 {o : PyData → Option PyData} (a : PV_ Γ f E) : PD Γ (f1 o f) (p1 o E) := fun en hf x hx => by
  obtain ⟨y, qy, e⟩ := Option.bind_eq_some_iff.mp hx
  obtain ⟨r, en1, e1, h1, e2⟩ := a en hf _ qy
  exact ⟨en1, by simp [e1, e2, e], h1⟩
theorem pd_2 {o : PyData → PyData → Option PyData} (a : PP Γ f E) (b : PV_ Γ g E') : PD Γ (f2 o f g) (p2 o E E') := fun en hf x hx => by
  obtain ⟨y, qy, hx1⟩ := Option.bind_eq_some_iff.mp hx
  obtain ⟨z, qz, e⟩ := Option.bind_eq_some_iff.mp hx1
  obtain ⟨r, en1, e1, h1, e2⟩ := a en hf _ qy
  obtain ⟨r2, en2, e3, h2, e4⟩ := b en1 h1 _ qz
  exact ⟨en2, by simp [e1, e2 _ h2, e3, e4, e], h2⟩
@[simp] def pNl : Option (List PyData) := some []
@[simp] def pCs (E : Option PyData) (A : Option (List PyData)) : Option (List PyData) := E.bind fun x => A.bind fun xs => some (x :: xs)
theorem pa_nl : PAr Γ fNil pNl := fun en hf x hx => by
  cases hx
  exact ⟨[], en, rfl, hf, fun _ _ => rfl⟩
theorem pa_cs {q : AF} {A : Option (List PyData)} (a : PP Γ f E) (b : PAr Γ q A) : PAr Γ (fCons f q) (pCs E A) := fun en hf x hx => by
  obtain ⟨y, qy, hx1⟩ := Option.bind_eq_some_iff.mp hx
  obtain ⟨z, qz, hx2⟩ := Option.bind_eq_some_iff.mp hx1
  cases hx2
  obtain ⟨r, en1, e1, h1, e2⟩ := a en hf _ qy
  obtain ⟨r2, en2, e3, h2, e4⟩ := b en1 h1 _ qz
  exact ⟨r :: r2, en2, by simp [e1, e3], h2, fun e he => by simp [e2 e he, e4 e he]⟩
theorem pd_nl : PAd Γ fNil pNl := fun en hf x hx => by
  cases hx
  exact ⟨en, rfl, hf⟩
theorem pd_cs {q : AF} {A : Option (List PyData)} (a : PD Γ f E) (b : PAd Γ q A) : PAd Γ (fCons f q) (pCs E A) := fun en hf x hx => by
  obtain ⟨y, qy, hx1⟩ := Option.bind_eq_some_iff.mp hx
  obtain ⟨z, qz, hx2⟩ := Option.bind_eq_some_iff.mp hx1
  cases hx2
  obtain ⟨en1, e1, h1⟩ := a en hf _ qy
  obtain ⟨en2, e3, h2⟩ := b en1 h1 _ qz
  exact ⟨en2, by simp [e1, e3], h2⟩
@[simp] def pB (o : List PyData → Option PyData) (A : Option (List PyData)) : Option PyData := A.bind o
theorem pd_B {o : List PyData → Option PyData} {q : AF} {A : Option (List PyData)} (a : PAr Γ q A) : PD Γ (fB o q) (pB o A) := fun en hf x hx => by
  obtain ⟨y, qy, e⟩ := Option.bind_eq_some_iff.mp hx
  obtain ⟨rs, en1, e1, h1, e2⟩ := a en hf _ qy
  exact ⟨en1, by simp [e1, e2 _ h1, e], h1⟩
theorem pd_B1 {o : List PyData → Option PyData} (a : PV_ Γ f E) : PD Γ (fB o (fCons f fNil)) (pB o (pCs E pNl)) := fun en hf x hx => by
  obtain ⟨y, hy, e⟩ := Option.bind_eq_some_iff.mp hx
  obtain ⟨z, qz, hy⟩ := Option.bind_eq_some_iff.mp hy
  cases hy
  obtain ⟨r, en1, e1, h1, e2⟩ := a en hf _ qz
  exact ⟨en1, by simp [e1, e2, e], h1⟩
def szL (xs : List PyData) : Option (List PyData) := if xs.length ≤ sizeLine then some xs else none
@[simp] def pTup (A : Option (List PyData)) : Option PyData := A.bind fun xs => (szL xs).map .tuple
@[simp] def pLst (A : Option (List PyData)) : Option (List PyData) := A.bind szL
@[simp] def pOfL (A : Option (List PyData)) : Option PyData := A.map .list
theorem datL_map : ∀ xs : List PyData, datL (xs.map .d) = some xs
  | [] => rfl
  | x :: xs => by simp [datL_map xs]
theorem szL_some {xs ys : List PyData} (h : szL xs = some ys) : xs.length ≤ sizeLine ∧ ys = xs := by
  unfold szL at h
  split at h
  · rename_i q; cases h; exact ⟨q, rfl⟩
  · cases h
theorem pd_tup {q : AF} {A : Option (List PyData)} (a : PAd Γ q A) : PD Γ (fTup q) (pTup A) := fun en hf x hx => by
  obtain ⟨y, qy, hx1⟩ := Option.bind_eq_some_iff.mp hx
  obtain ⟨z, hz, hx2⟩ := Option.map_eq_some_iff.mp hx1
  obtain ⟨h1, rfl⟩ := szL_some hz
  subst hx2
  obtain ⟨en1, e1, h2⟩ := a en hf _ qy
  refine ⟨en1, ?_, h2⟩
  simp only [x_fTup, e1, Option.bind_some, datL_map]
  rw [if_pos h1]
theorem pl_lst {q : AF} {A : Option (List PyData)} (a : PAd Γ q A) : PLs Γ (fLst q) (pLst A) := fun en hf x hx => by
  obtain ⟨y, qy, hx1⟩ := Option.bind_eq_some_iff.mp hx
  obtain ⟨h1, rfl⟩ := szL_some hx1
  obtain ⟨en1, e1, h2⟩ := a en hf _ qy
  refine ⟨en1, ?_, h2⟩
  simp only [x_fLst, e1, Option.bind_some, datL_map]
  rw [if_pos h1]
theorem pd_ofL {l : LF} {A : Option (List PyData)} (a : PLs Γ l A) : PD Γ (fOfL l) (pOfL A) := fun en hf x hx => by
  obtain ⟨y, qy, hx1⟩ := Option.map_eq_some_iff.mp hx
  subst hx1
  obtain ⟨en1, e1, h2⟩ := a en hf _ qy
  exact ⟨en1, by simp [e1], h2⟩
def asB : PyData → Option Bool
  | .bool b => some b
  | _ => none
@[simp] theorem asB_b {b : Bool} : asB (.bool b) = some b := rfl
@[simp] def pBl (E : Option PyData) : Option Bool := E.bind asB
@[simp] def pTr (E : Option PyData) : Option Bool := E.bind tru
@[simp] def pAnd (T U : Option Bool) : Option Bool := T.bind fun b => if b = true then U else some false
@[simp] def pOr (T U : Option Bool) : Option Bool := T.bind fun b => if b = true then some true else U
@[simp] def pNot (T : Option Bool) : Option Bool := T.map (!·)
@[simp] def pIfE {α : Type} (T : Option Bool) (E E' : Option α) : Option α := T.bind fun b => if b = true then E else E'
theorem asB_some {x : PyData} {b : Bool} (h : asB x = some b) : x = .bool b := by
  unfold asB at h
  split at h <;> cases h
  rfl
theorem pt_bl (a : PV_ Γ f E) : PT_ Γ (fBool f) (pBl E) := fun en hf x hx => by
  obtain ⟨y, qy, hx1⟩ := Option.bind_eq_some_iff.mp hx
  cases asB_some hx1
  obtain ⟨r, en1, e1, h1, e2⟩ := a en hf _ qy
  exact ⟨en1, by simp [e1, e2], h1⟩
theorem pt_tr (a : PV_ Γ f E) : PT_ Γ (fTru f) (pTr E) := fun en hf x hx => by
  obtain ⟨y, qy, hx1⟩ := Option.bind_eq_some_iff.mp hx
  obtain ⟨r, en1, e1, h1, e2⟩ := a en hf _ qy
  exact ⟨en1, by simp [e1, e2, hx1], h1⟩
section
variable {c c' : TF} {T T' : Option Bool}
theorem pt_and (a : PT_ Γ c T) (b : PT_ Γ c' T') : PT_ Γ (fAnd c c') (pAnd T T') := fun en hf x hx => by
  obtain ⟨y, qy, hx1⟩ := Option.bind_eq_some_iff.mp hx
  obtain ⟨en1, e1, h1⟩ := a en hf _ qy
  cases y with
  | true =>
    obtain ⟨en2, e2, h2⟩ := b en1 h1 x (by simpa using hx1)
    exact ⟨en2, by simp [e1, e2], h2⟩
  | false =>
    simp at hx1
    subst hx1
    exact ⟨en1, by simp [e1], h1⟩
theorem pt_or (a : PT_ Γ c T) (b : PT_ Γ c' T') : PT_ Γ (fOr c c') (pOr T T') := fun en hf x hx => by
  obtain ⟨y, qy, hx1⟩ := Option.bind_eq_some_iff.mp hx
  obtain ⟨en1, e1, h1⟩ := a en hf _ qy
  cases y with
  | true =>
    simp at hx1
    subst hx1
    exact ⟨en1, by simp [e1], h1⟩
  | false =>
    obtain ⟨en2, e2, h2⟩ := b en1 h1 x (by simpa using hx1)
    exact ⟨en2, by simp [e1, e2], h2⟩
theorem pt_not (a : PT_ Γ c T) : PT_ Γ (fNot c) (pNot T) := fun en hf x hx => by
  obtain ⟨y, qy, hx1⟩ := Option.map_eq_some_iff.mp hx
  subst hx1
  obtain ⟨en1, e1, h1⟩ := a en hf _ qy
  exact ⟨en1, by simp [e1], h1⟩
theorem pd_ifE (t : PT_ Γ c T) (a : PD Γ f E) (b : PD Γ g E') : PD Γ (fIfE c f g) (pIfE T E E') := fun en hf x hx => by
  obtain ⟨y, qy, hx1⟩ := Option.bind_eq_some_iff.mp hx
  obtain ⟨en1, e1, h1⟩ := t en hf _ qy
  cases y with
  | true =>
    obtain ⟨en2, e2, h2⟩ := a en1 h1 x (by simpa using hx1)
    exact ⟨en2, by simp [e1, e2], h2⟩
  | false =>
    obtain ⟨en2, e2, h2⟩ := b en1 h1 x (by simpa using hx1)
    exact ⟨en2, by simp [e1, e2], h2⟩
end
@[simp] def pNotT (E : Option PyData) : Option PyData := E.bind fun x => (tru x).map fun b => .bool (!b)
@[simp] def pOrT (E E' : Option PyData) : Option PyData := E.bind fun x => (tru x).bind fun b => if b = true then some x else E'
@[simp] def pAndT (E E' : Option PyData) : Option PyData := E.bind fun x => (tru x).bind fun b => if b = true then E' else some x
@[simp] def pIsN (E : Option PyData) : Option PyData := E.map fun x => .bool (isN x)
@[simp] def pNotN (E : Option PyData) : Option PyData := E.map fun x => .bool (!isN x)
theorem pd_notT (a : PV_ Γ f E) : PD Γ (fNotT f) (pNotT E) := fun en hf x hx => by
  obtain ⟨y, qy, hx1⟩ := Option.bind_eq_some_iff.mp hx
  obtain ⟨z, hz, hx2⟩ := Option.map_eq_some_iff.mp hx1
  subst hx2
  obtain ⟨r, en1, e1, h1, e2⟩ := a en hf _ qy
  exact ⟨en1, by simp [e1, e2, hz], h1⟩
theorem pd_orT (a : PD Γ f E) (b : PD Γ g E') : PD Γ (fOrT f g) (pOrT E E') := fun en hf x hx => by
  obtain ⟨y, qy, hx1⟩ := Option.bind_eq_some_iff.mp hx
  obtain ⟨z, hz, hx2⟩ := Option.bind_eq_some_iff.mp hx1
  obtain ⟨en1, e1, h1⟩ := a en hf _ qy
  cases z with
  | true =>
    simp at hx2
    subst hx2
    exact ⟨en1, by simp [e1, hz], h1⟩
  | false =>
    obtain ⟨en2, e2, h2⟩ := b en1 h1 x (by simpa using hx2)
    exact ⟨en2, by simp [e1, e2, hz], h2⟩
theorem pd_andT (a : PD Γ f E) (b : PD Γ g E') : PD Γ (fAndT f g) (pAndT E E') := fun en hf x hx => by
  obtain ⟨y, qy, hx1⟩ := Option.bind_eq_some_iff.mp hx
  obtain ⟨z, hz, hx2⟩ := Option.bind_eq_some_iff.mp hx1
  obtain ⟨en1, e1, h1⟩ := a en hf _ qy
  cases z with
  | false =>
    simp at hx2
    subst hx2
    exact ⟨en1, by simp [e1, hz], h1⟩
  | true =>
    obtain ⟨en2, e2, h2⟩ := b en1 h1 x (by simpa using hx2)
    exact ⟨en2, by simp [e1, e2, hz], h2⟩
theorem pd_isN (a : PV_ Γ f E) : PD Γ (fIsN f) (pIsN E) := fun en hf x hx => by
  obtain ⟨y, qy, hx1⟩ := Option.map_eq_some_iff.mp hx
  subst hx1
  obtain ⟨r, en1, e1, h1, e2⟩ := a en hf _ qy
  exact ⟨en1, by simp [e1, e2], h1⟩
theorem pd_notN (a : PV_ Γ f E) : PD Γ (fNotN f) (pNotN E) := fun en hf x hx => by
  obtain ⟨y, qy, hx1⟩ := Option.map_eq_some_iff.mp hx
  subst hx1
  obtain ⟨r, en1, e1, h1, e2⟩ := a en hf _ qy
  exact ⟨en1, by simp [e1, e2], h1⟩
/-- one link holds, and so does what is behind -/
def lnk (z : PyData) (k : Option PyData) : Option PyData := match z with
  | .bool true => k
  | .bool false => some (.bool false)
  | _ => none
@[simp] theorem lnk_b {b : Bool} {k : Option PyData} : lnk (.bool b) k = if b = true then k else some (.bool false) := by cases b <;> rfl
theorem lnk_some {z x : PyData} {k : Option PyData} (h : lnk z k = some x) : (z = .bool true ∧ k = some x) ∨ (z = .bool false ∧ x = .bool false) := by
  unfold lnk at h
  split at h
  · exact .inl ⟨rfl, h⟩
  · cases h; exact .inr ⟨rfl, rfl⟩
  · cases h
@[simp] def pChain (o o' : PyData → PyData → Option PyData) (E E' E'' : Option PyData) : Option PyData := E.bind fun x => E'.bind fun y => (o x y).bind fun z => lnk z (E''.bind fun u => o' y u)
theorem pd_chain {o o' : PyData → PyData → Option PyData} (a : PP Γ f E) (b : PP Γ g E') (d : PV_ Γ h E'') : PD Γ (fChain o o' f g h) (pChain o o' E E' E'') := fun en hf x hx => by
  obtain ⟨y, qy, hx1⟩ := Option.bind_eq_some_iff.mp hx
  obtain ⟨y', qy9, hx2⟩ := Option.bind_eq_some_iff.mp hx1
  obtain ⟨z, hz, hx3⟩ := Option.bind_eq_some_iff.mp hx2
  obtain ⟨r, en1, e1, h1, e2⟩ := a en hf _ qy
  obtain ⟨r2, en2, e3, h2, e4⟩ := b en1 h1 _ qy9
  rcases lnk_some hx3 with ⟨rfl, hx3⟩ | ⟨rfl, rfl⟩
  · obtain ⟨u, qu, hx4⟩ := Option.bind_eq_some_iff.mp hx3
    obtain ⟨r3, en3, e5, h3, e6⟩ := d en2 h2 _ qu
    exact ⟨en3, by simp [e1, e3, e2 _ h2, e4 _ h2, e4 _ h3, e5, e6, hz, hx4], h3⟩
  · exact ⟨en2, by simp [e1, e3, e2 _ h2, e4 _ h2, hz], h2⟩
/-- the rest of a chain, behind a value -/
def PCn (Γ : Ctx) (c : CF) (E : PyData → Option PyData) : Prop := ∀ p x, (∀ e, Fits Γ e → res e p = some x) → ∀ en, Fits Γ en → ∀ y, E x = some y → ∃ en', c p en = some (.d y, en') ∧ Fits Γ en'
@[simp] def pLast (o : PyData → PyData → Option PyData) (E : Option PyData) (x : PyData) : Option PyData := E.bind fun y => o x y
@[simp] def pLink (o : PyData → PyData → Option PyData) (E : Option PyData) (C : PyData → Option PyData) (x : PyData) : Option PyData := E.bind fun y => (o x y).bind fun z => lnk z (C y)
@[simp] def pCh (E : Option PyData) (C : PyData → Option PyData) : Option PyData := E.bind C
theorem pn_last {o : PyData → PyData → Option PyData} (a : PV_ Γ f E) : PCn Γ (cLast o f) (pLast o E) := fun p x hp en hf y hy => by
  obtain ⟨z, qz, hy⟩ := Option.bind_eq_some_iff.mp hy
  obtain ⟨r, en1, e1, h1, e2⟩ := a en hf _ qz
  exact ⟨en1, by simp [e1, e2, hp _ h1, hy], h1⟩
theorem pn_link {o : PyData → PyData → Option PyData} {c : CF} {C : PyData → Option PyData} (a : PP Γ f E) (b : PCn Γ c C) : PCn Γ (cLink o f c) (pLink o E C) := fun p x hp en hf y hy => by
  obtain ⟨z, qz, hy⟩ := Option.bind_eq_some_iff.mp hy
  obtain ⟨u, hu, hy⟩ := Option.bind_eq_some_iff.mp hy
  obtain ⟨r, en1, e1, h1, e2⟩ := a en hf _ qz
  rcases lnk_some hy with ⟨rfl, hy⟩ | ⟨rfl, rfl⟩
  · obtain ⟨en2, e3, h2⟩ := b r z e2 en1 h1 y hy
    exact ⟨en2, by simp [e1, e2 _ h1, hp _ h1, hu, e3], h2⟩
  · exact ⟨en1, by simp [e1, e2 _ h1, hp _ h1, hu], h1⟩
theorem pd_ch {c : CF} {C : PyData → Option PyData} (a : PP Γ f E) (b : PCn Γ c C) : PD Γ (fCh f c) (pCh E C) := fun en hf x hx => by
  obtain ⟨y, qy, hx1⟩ := Option.bind_eq_some_iff.mp hx
  obtain ⟨r, en1, e1, h1, e2⟩ := a en hf _ qy
  obtain ⟨en2, e3, h2⟩ := b r y e2 en1 h1 x hx1
  exact ⟨en2, by simp [e1, e3], h2⟩
/-! slices -/
def dInt : PyData → Option Int
  | .int i => some i
  | _ => none
@[simp] theorem dInt_i {i : Int} : dInt (.int i) = some i := rfl
theorem dInt_some {x : PyData} {i : Int} (h : dInt x = some i) : x = .int i := by
  unfold dInt at h
  split at h <;> cases h
  rfl
@[simp] def pNoP : Option (Option Int) := some none
@[simp] def pPt (E : Option PyData) : Option (Option Int) := E.bind fun x => (dInt x).map some
theorem po_no : POp Γ fNoPart pNoP := fun en hf x hx => by
  cases hx
  exact ⟨en, rfl, hf⟩
theorem po_pt (a : PD Γ f E) : POp Γ (fPart f) (pPt E) := fun en hf x hx => by
  obtain ⟨y, qy, hx1⟩ := Option.bind_eq_some_iff.mp hx
  obtain ⟨z, hz, hx2⟩ := Option.map_eq_some_iff.mp hx1
  subst hx2
  cases dInt_some hz
  obtain ⟨en1, e1, h1⟩ := a en hf _ qy
  exact ⟨en1, by simp [e1], h1⟩
def slD (x : PyData) (a b : Option Int) : Option PyData := match x with
  | .tuple xs => some (.tuple (cutD xs a b))
  | .list xs => some (.list (cutD xs a b))
  | .str z => if z.length ≤ sizeLine then some (.str (cutS z a b)) else none
  | _ => none
def slDL (x : PyData) (a b : Option Int) : Option (List PyData) := match x with
  | .list xs => some (cutD xs a b)
  | _ => none
@[simp] theorem slD_t {xs : List PyData} {a b : Option Int} : slD (.tuple xs) a b = some (.tuple (cutD xs a b)) := rfl
@[simp] theorem slD_l {xs : List PyData} {a b : Option Int} : slD (.list xs) a b = some (.list (cutD xs a b)) := rfl
@[simp] theorem slDL_l {xs : List PyData} {a b : Option Int} : slDL (.list xs) a b = some (cutD xs a b) := rfl
@[simp] def pSl (E : Option PyData) (A B : Option (Option Int)) : Option PyData := E.bind fun x => A.bind fun a => B.bind fun b => slD x a b
@[simp] def pSlL (E : Option PyData) (A B : Option (Option Int)) : Option (List PyData) := E.bind fun x => A.bind fun a => B.bind fun b => slDL x a b
theorem pd_sl {w w' : OF} {A B : Option (Option Int)} (a : PP Γ f E) (b : POp Γ w A) (c : POp Γ w' B) : PD Γ (fSl f w w') (pSl E A B) := fun en hf x hx => by
  obtain ⟨y, qy, hx1⟩ := Option.bind_eq_some_iff.mp hx
  obtain ⟨i, qi, hx2⟩ := Option.bind_eq_some_iff.mp hx1
  obtain ⟨j, qj, hx3⟩ := Option.bind_eq_some_iff.mp hx2
  obtain ⟨r, en1, e1, h1, e2⟩ := a en hf _ qy
  obtain ⟨en2, e3, h2⟩ := b en1 h1 _ qi
  obtain ⟨en3, e4, h3⟩ := c en2 h2 _ qj
  refine ⟨en3, ?_, h3⟩
  simp only [x_fSl, e1, e3, e4, e2 _ h3, Option.bind_some]
  unfold slD at hx3
  split at hx3
  · cases hx3; rfl
  · cases hx3; rfl
  · split at hx3
    · rename_i q
      cases hx3
      try simp only
      rw [if_pos q]
    · cases hx3
  · cases hx3
theorem pl_sl {w w' : OF} {A B : Option (Option Int)} (a : PP Γ f E) (b : POp Γ w A) (c : POp Γ w' B) : PLs Γ (fSlL f w w') (pSlL E A B) := fun en hf x hx => by
  obtain ⟨y, qy, hx1⟩ := Option.bind_eq_some_iff.mp hx
  obtain ⟨i, qi, hx2⟩ := Option.bind_eq_some_iff.mp hx1
  obtain ⟨j, qj, hx3⟩ := Option.bind_eq_some_iff.mp hx2
  obtain ⟨r, en1, e1, h1, e2⟩ := a en hf _ qy
  obtain ⟨en2, e3, h2⟩ := b en1 h1 _ qi
  obtain ⟨en3, e4, h3⟩ := c en2 h2 _ qj
  refine ⟨en3, ?_, h3⟩
  simp only [fSlL, e1, e3, e4, e2 _ h3, Option.bind_some]
  unfold slDL at hx3
  split at hx3
  · cases hx3; rfl
  · cases hx3
/-! lists -/
@[simp] def pBL (o : List PyData → Option (List PyData)) (A : Option (List PyData)) : Option (List PyData) := A.bind o
theorem pl_BL {o : List PyData → Option (List PyData)} {q : AF} {A : Option (List PyData)} (a : PAr Γ q A) : PLs Γ (fBL o q) (pBL o A) := fun en hf x hx => by
  obtain ⟨y, qy, e⟩ := Option.bind_eq_some_iff.mp hx
  obtain ⟨rs, en1, e1, h1, e2⟩ := a en hf _ qy
  exact ⟨en1, by simp [e1, e2 _ h1, e], h1⟩
theorem pl_BL1 {o : List PyData → Option (List PyData)} (a : PV_ Γ f E) : PLs Γ (fBL o (fCons f fNil)) (pBL o (pCs E pNl)) := fun en hf x hx => by
  obtain ⟨y, hy, e⟩ := Option.bind_eq_some_iff.mp hx
  obtain ⟨z, qz, hy⟩ := Option.bind_eq_some_iff.mp hy
  cases hy
  obtain ⟨r, en1, e1, h1, e2⟩ := a en hf _ qz
  exact ⟨en1, by simp [e1, e2, e], h1⟩
@[simp] def pMethL (o : PyData → PyData → Option PyData) (E E' : Option PyData) : Option PyData := E.bind fun x => if isLst x = true then E'.bind fun y => o x y else none
theorem pd_methL {o : PyData → PyData → Option PyData} (a : PP Γ f E) (b : PV_ Γ g E') : PD Γ (fMethL o f g) (pMethL o E E') := fun en hf x hx => by
  obtain ⟨y, qy, hx1⟩ := Option.bind_eq_some_iff.mp hx
  obtain ⟨r, en1, e1, h1, e2⟩ := a en hf _ qy
  by_cases q : isLst y = true
  · rw [if_pos q] at hx1
    obtain ⟨z, qz, e⟩ := Option.bind_eq_some_iff.mp hx1
    obtain ⟨r2, en2, e3, h2, e4⟩ := b en1 h1 _ qz
    exact ⟨en2, by simp [e1, e2 _ h1, e2 _ h2, e3, e4, e, q], h2⟩
  · rw [if_neg q] at hx1
    cases hx1
@[simp] def pRep (A : Option (List PyData)) (E : Option PyData) : Option (List PyData) := A.bind fun xs => E.bind fun y => (dInt y).bind fun k => if -(2 ^ 63) ≤ k ∧ k < 2 ^ 63 ∧ xs.length * k.toNat ≤ sizeLine then some ((List.replicate k.toNat xs).flatten) else none
theorem pl_rep {l : LF} {A : Option (List PyData)} (a : PLs Γ l A) (b : PD Γ f E) : PLs Γ (fRep l f) (pRep A E) := fun en hf x hx => by
  obtain ⟨y, qy, hx1⟩ := Option.bind_eq_some_iff.mp hx
  obtain ⟨z, qz, hx2⟩ := Option.bind_eq_some_iff.mp hx1
  obtain ⟨k, hk, hx3⟩ := Option.bind_eq_some_iff.mp hx2
  cases dInt_some hk
  obtain ⟨en1, e1, h1⟩ := a en hf _ qy
  obtain ⟨en2, e3, h2⟩ := b en1 h1 _ qz
  refine ⟨en2, ?_, h2⟩
  split at hx3
  · rename_i q
    cases hx3
    simp only [fRep, e1, e3, Option.bind_some]
    rw [if_pos q]
  · cases hx3
def catD (x y : PyData) : Option (List PyData) := match x, y with
  | .list xs, .list ys => if xs.length + ys.length ≤ sizeLine then some (xs ++ ys) else none
  | _, _ => none
@[simp] theorem catD_l {xs ys : List PyData} : catD (.list xs) (.list ys) = if xs.length + ys.length ≤ sizeLine then some (xs ++ ys) else none := rfl
@[simp] def pCat (E E' : Option PyData) : Option (List PyData) := E.bind fun x => E'.bind fun y => catD x y
theorem pl_cat (a : PP Γ f E) (b : PV_ Γ g E') : PLs Γ (fCat f g) (pCat E E') := fun en hf x hx => by
  obtain ⟨y, qy, hx1⟩ := Option.bind_eq_some_iff.mp hx
  obtain ⟨z, qz, e⟩ := Option.bind_eq_some_iff.mp hx1
  obtain ⟨r, en1, e1, h1, e2⟩ := a en hf _ qy
  obtain ⟨r2, en2, e3, h2, e4⟩ := b en1 h1 _ qz
  refine ⟨en2, ?_, h2⟩
  simp only [fCat, e1, e3, e2 _ h2, e4, Option.bind_some]
  unfold catD at e
  split at e
  · split at e
    · rename_i q
      cases e
      try simp only
      rw [if_pos q]
    · cases e
  · cases e
noncomputable def lr1 (x : PyData) : Option (List PyData) := (dInt x).bind fun n => if L2.RgOk 0 n then some (rngL 0 (n - 0).toNat) else none
noncomputable def lr2 (x y : PyData) : Option (List PyData) := (dInt x).bind fun a => (dInt y).bind fun b => if L2.RgOk a b then some (rngL a (b - a).toNat) else none
@[simp] noncomputable def pLr1 (E : Option PyData) : Option (List PyData) := E.bind lr1
@[simp] noncomputable def pLr2 (E E' : Option PyData) : Option (List PyData) := E.bind fun x => E'.bind fun y => lr2 x y
theorem pl_lr1 (a : PD Γ f E) : PLs Γ (fLr1 f) (pLr1 E) := fun en hf x hx => by
  obtain ⟨y, qy, hx1⟩ := Option.bind_eq_some_iff.mp hx
  obtain ⟨k, hk, hx2⟩ := Option.bind_eq_some_iff.mp hx1
  cases dInt_some hk
  obtain ⟨en1, e1, h1⟩ := a en hf _ qy
  refine ⟨en1, ?_, h1⟩
  split at hx2
  · rename_i q
    cases hx2
    simp only [fLr1, e1, Option.bind_some, x_asInt]
    rw [if_pos q]
  · cases hx2
theorem pl_lr2 (a : PD Γ f E) (b : PD Γ g E') : PLs Γ (fLr2 f g) (pLr2 E E') := fun en hf x hx => by
  obtain ⟨y, qy, hx1⟩ := Option.bind_eq_some_iff.mp hx
  obtain ⟨z, qz, hx2⟩ := Option.bind_eq_some_iff.mp hx1
  obtain ⟨k, hk, hx3⟩ := Option.bind_eq_some_iff.mp hx2
  obtain ⟨k', hk', hx4⟩ := Option.bind_eq_some_iff.mp hx3
  cases dInt_some hk
  cases dInt_some hk'
  obtain ⟨en1, e1, h1⟩ := a en hf _ qy
  obtain ⟨en2, e2, h2⟩ := b en1 h1 _ qz
  refine ⟨en2, ?_, h2⟩
  split at hx4
  · rename_i q
    cases hx4
    simp only [fLr2, e1, e2, Option.bind_some, x_asInt]
    rw [if_pos q]
  · cases hx4
end
/-! ### rows to go through -/
def PIt (Γ : Ctx) (f : IF) (E : Option (List PyData)) : Prop := ∀ en, Fits Γ en → ∀ x, E = some x → ∃ en', f en = some (x, en') ∧ Fits Γ en'
section
variable {Γ : Ctx} {f g h : EF} {E E' E'' : Option PyData}
@[simp] def pSeq (E : Option PyData) : Option (List PyData) := E.bind itSeq
theorem pi_sq (a : PD Γ f E) : PIt Γ (fSeq f) (pSeq E) := fun en hf x hx => by
  obtain ⟨y, qy, hx1⟩ := Option.bind_eq_some_iff.mp hx
  obtain ⟨en1, e1, h1⟩ := a en hf _ qy
  exact ⟨en1, by simp [e1, hx1], h1⟩
def dLT : PyData → Option (Bool × List PyData)
  | .list xs => some (false, xs)
  | .tuple xs => some (true, xs)
  | _ => none
@[simp] theorem dLT_l {xs : List PyData} : dLT (.list xs) = some (false, xs) := rfl
@[simp] theorem dLT_t {xs : List PyData} : dLT (.tuple xs) = some (true, xs) := rfl
theorem dLT_it {x : PyData} : itLT (.d x) = dLT x := by cases x <;> rfl
@[simp] def pEnum (E : Option PyData) : Option (List PyData) := E.bind fun x => (dLT x).map fun q => enumD 0 q.2
theorem pi_en (a : PD Γ f E) : PIt Γ (fEnum f) (pEnum E) := fun en hf x hx => by
  obtain ⟨y, qy, hx1⟩ := Option.bind_eq_some_iff.mp hx
  obtain ⟨q, hq, hx2⟩ := Option.map_eq_some_iff.mp hx1
  subst hx2
  obtain ⟨en1, e1, h1⟩ := a en hf _ qy
  exact ⟨en1, by simp [e1, dLT_it, hq], h1⟩
@[simp] def pZip (E E' : Option PyData) : Option (List PyData) := E.bind fun x => E'.bind fun y => (dLT x).bind fun a => (dLT y).bind fun b => if a.1 = b.1 then some (zipD a.2 b.2) else none
theorem pi_zp (a : PD Γ f E) (b : PD Γ g E') : PIt Γ (fZip f g) (pZip E E') := fun en hf x hx => by
  obtain ⟨y, qy, hx1⟩ := Option.bind_eq_some_iff.mp hx
  obtain ⟨z, qz, hx2⟩ := Option.bind_eq_some_iff.mp hx1
  obtain ⟨q, hq, hx3⟩ := Option.bind_eq_some_iff.mp hx2
  obtain ⟨q', hq', hx4⟩ := Option.bind_eq_some_iff.mp hx3
  obtain ⟨en1, e1, h1⟩ := a en hf _ qy
  obtain ⟨en2, e2, h2⟩ := b en1 h1 _ qz
  refine ⟨en2, ?_, h2⟩
  split at hx4
  · rename_i c
    cases hx4
    simp only [x_fZip, e1, e2, Option.bind_some, dLT_it, hq, hq']
    rw [if_pos c]
  · cases hx4
noncomputable def rg1 (x : PyData) : Option (List PyData) := (dInt x).bind fun n => if RngOk n then some (rngL 0 n.toNat) else none
noncomputable def rg2 (x y : PyData) : Option (List PyData) := (dInt x).bind fun a => (dInt y).bind fun b => if RngOk a ∧ RngOk b then some (rngL a (b - a).toNat) else none
def rg3 (x y z : PyData) : Option (List PyData) := (dInt x).bind fun a => (dInt y).bind fun b => (dInt z).bind fun c => if rngOk a b c = true then some (rngC a c (rngN a b c)) else none
@[simp] noncomputable def pRg1 (E : Option PyData) : Option (List PyData) := E.bind rg1
@[simp] noncomputable def pRg2 (E E' : Option PyData) : Option (List PyData) := E.bind fun x => E'.bind fun y => rg2 x y
@[simp] def pRg3 (E E' E'' : Option PyData) : Option (List PyData) := E.bind fun x => E'.bind fun y => E''.bind fun z => rg3 x y z
theorem pi_rg1 (a : PD Γ f E) : PIt Γ (fRng1 f) (pRg1 E) := fun en hf x hx => by
  obtain ⟨y, qy, hx1⟩ := Option.bind_eq_some_iff.mp hx
  obtain ⟨k, hk, hx2⟩ := Option.bind_eq_some_iff.mp hx1
  cases dInt_some hk
  obtain ⟨en1, e1, h1⟩ := a en hf _ qy
  refine ⟨en1, ?_, h1⟩
  split at hx2
  · rename_i q
    cases hx2
    simp only [x_fRng1, e1, Option.bind_some, x_asInt]
    rw [if_pos q]
  · cases hx2
theorem pi_rg2 (a : PD Γ f E) (b : PD Γ g E') : PIt Γ (fRng2 f g) (pRg2 E E') := fun en hf x hx => by
  obtain ⟨y, qy, hx1⟩ := Option.bind_eq_some_iff.mp hx
  obtain ⟨z, qz, hx2⟩ := Option.bind_eq_some_iff.mp hx1
  obtain ⟨k, hk, hx3⟩ := Option.bind_eq_some_iff.mp hx2
  obtain ⟨k', hk', hx4⟩ := Option.bind_eq_some_iff.mp hx3
  cases dInt_some hk
  cases dInt_some hk'
  obtain ⟨en1, e1, h1⟩ := a en hf _ qy
  obtain ⟨en2, e2, h2⟩ := b en1 h1 _ qz
  refine ⟨en2, ?_, h2⟩
  split at hx4
  · rename_i q
    cases hx4
    simp only [x_fRng2, e1, e2, Option.bind_some, x_asInt]
    rw [if_pos q]
  · cases hx4
theorem pi_rg3 (a : PD Γ f E) (b : PD Γ g E') (d : PD Γ h E'') : PIt Γ (fRng3 f g h) (pRg3 E E' E'') := fun en hf x hx => by
  obtain ⟨y, qy, hx1⟩ := Option.bind_eq_some_iff.mp hx
  obtain ⟨z, qz, hx2⟩ := Option.bind_eq_some_iff.mp hx1
  obtain ⟨u, qu, hx3⟩ := Option.bind_eq_some_iff.mp hx2
  obtain ⟨k, hk, hx4⟩ := Option.bind_eq_some_iff.mp hx3
  obtain ⟨k', hk', hx5⟩ := Option.bind_eq_some_iff.mp hx4
  obtain ⟨k2, hk2, hx6⟩ := Option.bind_eq_some_iff.mp hx5
  cases dInt_some hk
  cases dInt_some hk'
  cases dInt_some hk2
  obtain ⟨en1, e1, h1⟩ := a en hf _ qy
  obtain ⟨en2, e2, h2⟩ := b en1 h1 _ qz
  obtain ⟨en3, e3, h3⟩ := d en2 h2 _ qu
  refine ⟨en3, ?_, h3⟩
  split at hx6
  · rename_i q
    cases hx6
    simp only [fRng3, e1, e2, e3, Option.bind_some, x_asInt]
    rw [if_pos q]
  · cases hx6
end
/-! ### targets -/
def PGt {τ : Type} (Γ : Ctx) (g : GF) (U : PyData → Option τ) (Δ : τ → Ctx) : Prop := ∀ x en, Fits Γ en → ∀ t, U x = some t → ∃ en', g x en = some en' ∧ Fits (Δ t) en'
def PGs_ {τ : Type} (Γ : Ctx) (g : GsF) (U : List PyData → Option τ) (Δ : τ → Ctx) : Prop := ∀ x en, Fits Γ en → ∀ t, U x = some t → ∃ en', g x en = some en' ∧ Fits (Δ t) en'
@[simp] def uSet : PyData → Option PyData := some
def uNil : List PyData → Option Unit
  | [] => some ()
  | _ => none
def uCons {τ υ : Type} (U : PyData → Option τ) (V : List PyData → Option υ) : List PyData → Option (τ × υ)
  | x :: xs => (U x).bind fun t => (V xs).bind fun u => some (t, u)
  | [] => none
def uTup {τ : Type} (U : List PyData → Option τ) : PyData → Option τ
  | .tuple xs => U xs
  | _ => none
def uUnl {τ : Type} (U : List PyData → Option τ) : PyData → Option τ
  | .list xs => U xs
  | _ => none
@[simp] theorem uNil_0 : uNil [] = some () := rfl
@[simp] theorem uCons_1 {τ υ : Type} {U : PyData → Option τ} {V : List PyData → Option υ} {x : PyData} {xs : List PyData} : uCons U V (x :: xs) = (U x).bind fun t => (V xs).bind fun u => some (t, u) := rfl
@[simp] theorem uTup_1 {τ : Type} {U : List PyData → Option τ} {xs : List PyData} : uTup U (.tuple xs) = U xs := rfl
@[simp] theorem uUnl_1 {τ : Type} {U : List PyData → Option τ} {xs : List PyData} : uUnl U (.list xs) = U xs := rfl
theorem pg_set {Γ : Ctx} {i : Nat} (h : opn Γ i = true := by rfl) : PGt Γ (gSet i) uSet fun x => Γ.set i (.k (.d x)) := fun x en hf t ht => by
  cases ht
  exact ⟨en.set i (some (.d x)), by simp [opn_of hf h], fits_set (s := .k (.d x)) (x := some (.d x)) rfl i hf⟩
theorem pg_nil {Γ : Ctx} : PGs_ Γ gNil' uNil fun _ => Γ := fun x en hf t ht => by
  unfold uNil at ht
  split at ht
  · exact ⟨en, rfl, hf⟩
  · cases ht
theorem pg_cons {τ υ : Type} {Γ : Ctx} {g : GF} {gs : GsF} {U : PyData → Option τ} {V : List PyData → Option υ} {Δ : τ → Ctx} {Δ' : τ → υ → Ctx} (a : PGt Γ g U Δ) (b : ∀ t, PGs_ (Δ t) gs V (Δ' t)) : PGs_ Γ (gCons' g gs) (uCons U V) fun p => Δ' p.1 p.2 := fun x en hf t ht => by
  cases x with
  | nil => cases ht
  | cons x xs =>
    obtain ⟨u, hu, ht⟩ := Option.bind_eq_some_iff.mp ht
    obtain ⟨v, hv, ht⟩ := Option.bind_eq_some_iff.mp ht
    cases ht
    obtain ⟨en1, e1, h1⟩ := a x en hf u hu
    obtain ⟨en2, e2, h2⟩ := b u xs en1 h1 v hv
    exact ⟨en2, by simp [e1, e2], h2⟩
theorem pg_tup {τ : Type} {Γ : Ctx} {gs : GsF} {U : List PyData → Option τ} {Δ : τ → Ctx} (a : PGs_ Γ gs U Δ) : PGt Γ (gTup' gs) (uTup U) Δ := fun x en hf t ht => by
  unfold uTup at ht
  split at ht
  · obtain ⟨en1, e1, h1⟩ := a _ en hf t ht
    exact ⟨en1, by simp [e1], h1⟩
  · cases ht
theorem pg_unl {τ : Type} {Γ : Ctx} {gs : GsF} {U : List PyData → Option τ} {Δ : τ → Ctx} (a : PGs_ Γ gs U Δ) : PGt Γ (gUnl' gs) (uUnl U) Δ := fun x en hf t ht => by
  unfold uUnl at ht
  split at ht
  · obtain ⟨en1, e1, h1⟩ := a _ en hf t ht
    exact ⟨en1, by simp [e1], h1⟩
  · cases ht
/-! ### comprehensions -/
/-- go through a row: what each gives -/
def lcP (F : PyData → Option (Option PyData)) : List PyData → Option (List PyData)
  | [] => some []
  | x :: xs => (F x).bind fun o => (lcP F xs).bind fun r => some (o.toList ++ r)
def szL' (xs : List PyData) : Option (List PyData) := if xs.length ≤ sizeLine then some xs else none
def pLc (I : Option (List PyData)) (F : PyData → Option (Option PyData)) : Option (List PyData) := I.bind fun xs => (szL xs).bind (lcP F)
@[simp] def pIfS (T : Option Bool) (E : Option PyData) : Option (Option PyData) := T.bind fun b => if b = true then E.map some else some none
@[simp] def pAll (E : Option PyData) : Option (Option PyData) := E.map some
theorem lcP_go {τ : Type} {Γ : Ctx} {g : GF} {tt : TF} {te : EF} {vs : List Nat} {U : PyData → Option τ} {Δ : τ → Ctx} {T : τ → Option Bool} {E : τ → Option PyData}
    (hg : PGt (wipC Γ vs) g U Δ) (ht : ∀ t, PT_ (Δ t) tt (T t)) (he : ∀ t, PD (Δ t) te (E t)) (hw : ∀ t, WkC (wipC (Δ t) vs) (wipC Γ vs)) :
    ∀ {xs : List PyData} {en : En} {ys : List PyData}, Fits (wipC Γ vs) en → lcP (fun x => (U x).bind fun t => pIfS (T t) (E t)) xs = some ys → ∃ en', lcL g tt te vs xs en = some (ys, en') ∧ Fits (wipC Γ vs) en'
  | [], en, ys, hf, h => by
    cases h
    exact ⟨en, rfl, hf⟩
  | x :: xs, en, ys, hf, h => by
    obtain ⟨o, ho, h⟩ := Option.bind_eq_some_iff.mp h
    obtain ⟨r, hr, h⟩ := Option.bind_eq_some_iff.mp h
    cases h
    obtain ⟨t, hu, ho⟩ := Option.bind_eq_some_iff.mp ho
    obtain ⟨b, hb, ho⟩ := Option.bind_eq_some_iff.mp ho
    obtain ⟨en1, e1, h1⟩ := hg x en hf t hu
    obtain ⟨en2, e2, h2⟩ := ht t en1 h1 b hb
    cases b with
    | true =>
      obtain ⟨y, hy, ho⟩ := Option.map_eq_some_iff.mp (show (E t).map some = some o by simpa using ho)
      subst ho
      obtain ⟨en3, e3, h3⟩ := he t en2 h2 y hy
      obtain ⟨en4, e4, h4⟩ := lcP_go hg ht he hw (xs := xs) (en := wipeE en3 vs) (wkC_fits (hw t) (fits_wipe h3 vs)) hr
      refine ⟨en4, ?_, h4⟩
      simp only [lcL, e1, e2, e3, e4, Option.bind_some, if_true]
      rfl
    | false =>
      simp at ho
      subst ho
      obtain ⟨en4, e4, h4⟩ := lcP_go hg ht he hw (xs := xs) (en := wipeE en2 vs) (wkC_fits (hw t) (fits_wipe h2 vs)) hr
      refine ⟨en4, ?_, h4⟩
      simp only [lcL, e1, e2, e4, Option.bind_some]
      rfl
theorem pl_lc {τ : Type} {Γ : Ctx} {it : IF} {g : GF} {tt : TF} {te : EF} {vs : List Nat} {I : Option (List PyData)} {U : PyData → Option τ} {Δ : τ → Ctx} {T : τ → Option Bool} {E : τ → Option PyData}
    (hi : PIt Γ it I) (hg : PGt (wipC Γ vs) g U Δ) (ht : ∀ t, PT_ (Δ t) tt (T t)) (he : ∀ t, PD (Δ t) te (E t)) (hp : vs.all (pln Γ) = true := by rfl) (hw : ∀ t, WkC (wipC (Δ t) vs) (wipC Γ vs)) :
    PLs Γ (fLc it g tt te vs) (pLc I fun x => (U x).bind fun t => pIfS (T t) (E t)) := fun en hf x hx => by
  obtain ⟨xs, qxs, hx1⟩ := Option.bind_eq_some_iff.mp hx
  obtain ⟨ys, hy, hx2⟩ := Option.bind_eq_some_iff.mp hx1
  obtain ⟨hs, rfl⟩ := szL_some hy
  obtain ⟨en1, e1, h1⟩ := hi en hf _ qxs
  obtain ⟨en2, e2, h2⟩ := lcP_go hg ht he hw (fits_wipe h1 vs) hx2
  refine ⟨backE en1 en2 vs, ?_, fits_back h1 h2⟩
  simp only [fLc, e1, Option.bind_some]
  rw [if_pos ⟨hs, plns_of h1 hp⟩, e2, Option.bind_some]
theorem pt_yes {Γ : Ctx} : PT_ Γ fYes (some true) := fun en hf x hx => by
  cases hx
  exact ⟨en, rfl, hf⟩
theorem pIfS_yes {E : Option PyData} : pIfS (some true) E = pAll E := rfl
theorem pl_lcA {τ : Type} {Γ : Ctx} {it : IF} {g : GF} {te : EF} {vs : List Nat} {I : Option (List PyData)} {U : PyData → Option τ} {Δ : τ → Ctx} {E : τ → Option PyData}
    (hi : PIt Γ it I) (hg : PGt (wipC Γ vs) g U Δ) (he : ∀ t, PD (Δ t) te (E t)) (hp : vs.all (pln Γ) = true := by rfl) (hw : ∀ t, WkC (wipC (Δ t) vs) (wipC Γ vs)) :
    PLs Γ (fLc it g fYes te vs) (pLc I fun x => (U x).bind fun t => pAll (E t)) := pl_lc (T := fun _ => some true) hi hg (fun _ => pt_yes) he hp hw
def lc2P (F : PyData → Option (List PyData)) : List PyData → Option (List PyData)
  | [] => some []
  | x :: xs => (F x).bind fun o => (lc2P F xs).bind fun r => some (o ++ r)
def pLc2 (I : Option (List PyData)) (F : PyData → Option (List PyData)) : Option (List PyData) := I.bind fun xs => (lc2P F xs).bind szL
@[simp] def pIfL (T : Option Bool) (I : Option (List PyData)) (F : PyData → Option (Option PyData)) : Option (List PyData) := T.bind fun b => if b = true then I.bind (lcP F) else some []
theorem lc2P_go {τ υ : Type} {Γ : Ctx} {g g1 : GF} {tt tt1 : TF} {it1 : IF} {te : EF} {vs vs1 : List Nat} {U : PyData → Option τ} {Δ : τ → Ctx} {T : τ → Option Bool} {I1 : τ → Option (List PyData)} {U1 : PyData → Option υ} {Δ1 : τ → υ → Ctx} {T1 : τ → υ → Option Bool} {E : τ → υ → Option PyData}
    (hg : PGt (wipC Γ vs) g U Δ) (ht : ∀ t, PT_ (Δ t) tt (T t)) (hi1 : ∀ t, PIt (Δ t) it1 (I1 t)) (hg1 : ∀ t, PGt (wipC (Δ t) vs1) g1 U1 (Δ1 t)) (ht1 : ∀ t u, PT_ (Δ1 t u) tt1 (T1 t u)) (he : ∀ t u, PD (Δ1 t u) te (E t u))
    (hw : ∀ t, WkC (wipC (Δ t) vs) (wipC Γ vs)) (hw2 : ∀ t, WkC (wipC (wipC (Δ t) vs1) vs) (wipC Γ vs)) (hw1 : ∀ t u, WkC (wipC (Δ1 t u) vs1) (wipC (Δ t) vs1)) :
    ∀ {xs : List PyData} {en : En} {ys : List PyData}, Fits (wipC Γ vs) en → lc2P (fun x => (U x).bind fun t => pIfL (T t) (I1 t) fun y => (U1 y).bind fun u => pIfS (T1 t u) (E t u)) xs = some ys → ∃ en', lc2L g tt it1 g1 tt1 te vs vs1 xs en = some (ys, en') ∧ Fits (wipC Γ vs) en'
  | [], en, ys, hf, h => by
    cases h
    exact ⟨en, rfl, hf⟩
  | x :: xs, en, ys, hf, h => by
    obtain ⟨o, ho, h⟩ := Option.bind_eq_some_iff.mp h
    obtain ⟨r, hr, h⟩ := Option.bind_eq_some_iff.mp h
    cases h
    obtain ⟨t, hu, ho⟩ := Option.bind_eq_some_iff.mp ho
    obtain ⟨b, hb, ho⟩ := Option.bind_eq_some_iff.mp ho
    obtain ⟨en1, e1, h1⟩ := hg x en hf t hu
    obtain ⟨en2, e2, h2⟩ := ht t en1 h1 b hb
    cases b with
    | true =>
      obtain ⟨ws, hws, ho⟩ := Option.bind_eq_some_iff.mp (show (I1 t).bind _ = some o by simpa using ho)
      obtain ⟨en3, e3, h3⟩ := hi1 t en2 h2 ws hws
      obtain ⟨en4, e4, h4⟩ := lcP_go (hg1 t) (ht1 t) (he t) (hw1 t) (fits_wipe h3 vs1) ho
      obtain ⟨en5, e5, h5⟩ := lc2P_go hg ht hi1 hg1 ht1 he hw hw2 hw1 (xs := xs) (en := wipeE en4 vs) (wkC_fits (hw2 t) (fits_wipe h4 vs)) hr
      refine ⟨en5, ?_, h5⟩
      simp only [lc2L, e1, e2, e3, e4, e5, Option.bind_some, if_true]
    | false =>
      simp at ho
      subst ho
      obtain ⟨en4, e4, h4⟩ := lc2P_go hg ht hi1 hg1 ht1 he hw hw2 hw1 (xs := xs) (en := wipeE en2 vs) (wkC_fits (hw t) (fits_wipe h2 vs)) hr
      refine ⟨en4, ?_, h4⟩
      simp only [lc2L, e1, e2, e4, Option.bind_some]
      rfl
theorem pl_lc2 {τ υ : Type} {Γ : Ctx} {it it1 : IF} {g g1 : GF} {tt tt1 : TF} {te : EF} {vs vs1 : List Nat} {I : Option (List PyData)} {U : PyData → Option τ} {Δ : τ → Ctx} {T : τ → Option Bool} {I1 : τ → Option (List PyData)} {U1 : PyData → Option υ} {Δ1 : τ → υ → Ctx} {T1 : τ → υ → Option Bool} {E : τ → υ → Option PyData}
    (hi : PIt Γ it I) (hg : PGt (wipC Γ vs) g U Δ) (ht : ∀ t, PT_ (Δ t) tt (T t)) (hi1 : ∀ t, PIt (Δ t) it1 (I1 t)) (hg1 : ∀ t, PGt (wipC (Δ t) vs1) g1 U1 (Δ1 t)) (ht1 : ∀ t u, PT_ (Δ1 t u) tt1 (T1 t u)) (he : ∀ t u, PD (Δ1 t u) te (E t u))
    (hp : vs.all (pln Γ) = true := by rfl) (hw : ∀ t, WkC (wipC (Δ t) vs) (wipC Γ vs)) (hw2 : ∀ t, WkC (wipC (wipC (Δ t) vs1) vs) (wipC Γ vs)) (hw1 : ∀ t u, WkC (wipC (Δ1 t u) vs1) (wipC (Δ t) vs1)) :
    PLs Γ (fLc2 it g tt it1 g1 tt1 te vs vs1) (pLc2 I fun x => (U x).bind fun t => pIfL (T t) (I1 t) fun y => (U1 y).bind fun u => pIfS (T1 t u) (E t u)) := fun en hf x hx => by
  obtain ⟨xs, qxs, hx1⟩ := Option.bind_eq_some_iff.mp hx
  obtain ⟨ys, hy, hx2⟩ := Option.bind_eq_some_iff.mp hx1
  obtain ⟨hs, rfl⟩ := szL_some hx2
  obtain ⟨en1, e1, h1⟩ := hi en hf _ qxs
  obtain ⟨en2, e2, h2⟩ := lc2P_go hg ht hi1 hg1 ht1 he hw hw2 hw1 (fits_wipe h1 vs) hy
  refine ⟨backE en1 en2 vs, ?_, fits_back h1 h2⟩
  simp only [fLc2, e1, Option.bind_some]
  rw [if_pos (plns_of h1 hp), e2, Option.bind_some, if_pos hs]
end L2.FL
set_option Elab.async false
set_option linter.all false
set_option maxRecDepth 100000
set_option maxHeartbeats 4000000
/-! PL2: plain functions for the readings: calls, the draws' state, statements, loops, defs. -/
namespace L2.FL
open PySem PySem.Spec PyProof.Rows L2

/-! ### calls of defs that change nothing -/
def PuN (g : SF) (n m : Nat) (P : List PyData → Option PyData) : Prop := ∀ xs x, P xs = some x → xs.length = m ∧ ∃ as, fcall g n (datS xs) = some (x, as)
def ap0 (p : Option PyData) : List PyData → Option PyData
  | [] => p
  | _ => none
def ap1 (p : PyData → Option PyData) : List PyData → Option PyData
  | [a] => p a
  | _ => none
def ap2 (p : PyData → PyData → Option PyData) : List PyData → Option PyData
  | [a, b] => p a b
  | _ => none
def ap3 (p : PyData → PyData → PyData → Option PyData) : List PyData → Option PyData
  | [a, b, c] => p a b c
  | _ => none
def ap4 (p : PyData → PyData → PyData → PyData → Option PyData) : List PyData → Option PyData
  | [a, b, c, d] => p a b c d
  | _ => none
def ap5 (p : PyData → PyData → PyData → PyData → PyData → Option PyData) : List PyData → Option PyData
  | [a, b, c, d, e] => p a b c d e
  | _ => none
def ap6 (p : PyData → PyData → PyData → PyData → PyData → PyData → Option PyData) : List PyData → Option PyData
  | [a, b, c, d, e, f] => p a b c d e f
  | _ => none
def ap7 (p : PyData → PyData → PyData → PyData → PyData → PyData → PyData → Option PyData) : List PyData → Option PyData
  | [a, b, c, d, e, f, g] => p a b c d e f g
  | _ => none
@[simp] theorem ap0_ {p : Option PyData} : ap0 p [] = p := rfl
@[simp] theorem ap1_ {p : PyData → Option PyData} {a : PyData} : ap1 p [a] = p a := rfl
@[simp] theorem ap2_ {p : PyData → PyData → Option PyData} {a b : PyData} : ap2 p [a, b] = p a b := rfl
@[simp] theorem ap3_ {p : PyData → PyData → PyData → Option PyData} {a b c : PyData} : ap3 p [a, b, c] = p a b c := rfl
@[simp] theorem ap4_ {p : PyData → PyData → PyData → PyData → Option PyData} {a b c d : PyData} : ap4 p [a, b, c, d] = p a b c d := rfl
@[simp] theorem ap5_ {p : PyData → PyData → PyData → PyData → PyData → Option PyData} {a b c d e : PyData} : ap5 p [a, b, c, d, e] = p a b c d e := rfl
@[simp] theorem ap6_ {p : PyData → PyData → PyData → PyData → PyData → PyData → Option PyData} {a b c d e f : PyData} : ap6 p [a, b, c, d, e, f] = p a b c d e f := rfl
@[simp] theorem ap7_ {p : PyData → PyData → PyData → PyData → PyData → PyData → PyData → Option PyData} {a b c d e f g : PyData} : ap7 p [a, b, c, d, e, f, g] = p a b c d e f g := rfl
@[simp] def pCl (P : List PyData → Option PyData) (A : Option (List PyData)) : Option PyData := A.bind P
@[simp] def pCd (P : List PyData → Option PyData) (dd : List PyData) (A : Option (List PyData)) : Option PyData := A.bind fun xs => P (xs ++ dd)
theorem argsOf_map (en : En) : ∀ xs : List PyData, argsOf en (xs.map .d) = some (datS xs)
  | [] => rfl
  | x :: xs => by simp [argsOf_map en xs, datS]
theorem bors_map : ∀ xs : List PyData, bors (xs.map .d) = []
  | [] => rfl
  | x :: xs => by simp [bors_map xs]
theorem putBack_map (en : En) : ∀ (xs : List PyData) (as : List SV), putBack en (xs.map .d) as = en
  | [], _ => by simp
  | x :: xs, as => by simp [putBack_map en xs]
section
variable {Γ : Ctx} {f g h : EF} {E E' : Option PyData} {q : AF} {A : Option (List PyData)} {gg : SF} {m n : Nat} {P : List PyData → Option PyData}
theorem pd_cd {dd : List PyData} (hP : PuN gg n m P) (a : PAd Γ q A) : PD Γ (fCall gg m n dd q) (pCd P dd A) := fun en hf x hx => by
  obtain ⟨y, qy, hx1⟩ := Option.bind_eq_some_iff.mp hx
  obtain ⟨en1, e1, h1⟩ := a en hf _ qy
  obtain ⟨hl, as, e2⟩ := hP _ _ hx1
  refine ⟨en1, ?_, h1⟩
  have e3 : datS y ++ dd.map .d = datS (y ++ dd) := by simp [datS]
  simp only [x_fCall, e1, Option.bind_some, argsOf_map, bors_map, e3, e2, putBack_map]
  rw [if_pos ⟨List.nodup_nil, by simpa [datS] using hl⟩]
theorem pd_cl (hP : PuN gg n m P) (a : PAd Γ q A) : PD Γ (fCall gg m n [] q) (pCl P A) := fun en hf x hx => by
  obtain ⟨y, qy, hx1⟩ := Option.bind_eq_some_iff.mp hx
  exact pd_cd (dd := []) hP a en hf x (Option.bind_eq_some_iff.mpr ⟨y, qy, by rw [List.append_nil]; exact hx1⟩)
end
/-! ### a state s goes through -/
section
variable {σ : Type}
def SD (C : σ → Ctx) (f : EF) (E : σ → Option (PyData × σ)) : Prop := ∀ s en, Fits (C s) en → ∀ r, E s = some r → ∃ en', f en = some (.d r.1, en') ∧ Fits (C r.2) en'
def SP_ (C : σ → Ctx) (f : EF) (E : σ → Option (PyData × σ)) : Prop := ∀ s en, Fits (C s) en → ∀ r, E s = some r → ∃ v en', f en = some (v, en') ∧ Fits (C r.2) en' ∧ ∀ s' e, Fits (C s') e → res e v = some r.1
def STb (C : σ → Ctx) (f : TF) (E : σ → Option (Bool × σ)) : Prop := ∀ s en, Fits (C s) en → ∀ r, E s = some r → ∃ en', f en = some (r.1, en') ∧ Fits (C r.2) en'
def SAr (C : σ → Ctx) (f : AF) (E : σ → Option (List PyData × σ)) : Prop := ∀ s en, Fits (C s) en → ∀ r, E s = some r → ∃ vs en', f en = some (vs, en') ∧ Fits (C r.2) en' ∧ ∀ s' e, Fits (C s') e → resL e vs = some r.1
def SAd (C : σ → Ctx) (f : AF) (E : σ → Option (List PyData × σ)) : Prop := ∀ s en, Fits (C s) en → ∀ r, E s = some r → ∃ en', f en = some (r.1.map .d, en') ∧ Fits (C r.2) en'
def SLs (C : σ → Ctx) (f : LF) (E : σ → Option (List PyData × σ)) : Prop := ∀ s en, Fits (C s) en → ∀ r, E s = some r → ∃ en', f en = some (r.1, en') ∧ Fits (C r.2) en'
def SIs (C : σ → Ctx) (f : IF) (E : σ → Option (List PyData × σ)) : Prop := ∀ s en, Fits (C s) en → ∀ r, E s = some r → ∃ en', f en = some (r.1, en') ∧ Fits (C r.2) en'
def SOp (C : σ → Ctx) (f : OF) (E : σ → Option (Option Int × σ)) : Prop := ∀ s en, Fits (C s) en → ∀ r, E s = some r → ∃ en', f en = some (r.1, en') ∧ Fits (C r.2) en'
@[simp] def sL {α : Type} (E : Option α) (s : σ) : Option (α × σ) := E.map fun x => (x, s)
/-- bind, map with the state -/
@[simp] def sB {α β : Type} (E : σ → Option (α × σ)) (F : α → σ → Option (β × σ)) (s : σ) : Option (β × σ) := (E s).bind fun r => F r.1 r.2
variable {C : σ → Ctx} {f g h : EF} {E E' E'' : σ → Option (PyData × σ)} {q : AF} {A : σ → Option (List PyData × σ)}
theorem sd_l {E : Option PyData} (a : ∀ s, PD (C s) f E) : SD C f (sL E) := fun s en hf r hr => by
  obtain ⟨x, hx, rfl⟩ := Option.map_eq_some_iff.mp hr
  exact a s en hf x hx
theorem st_l {c : TF} {T : Option Bool} (a : ∀ s, PT_ (C s) c T) : STb C c (sL T) := fun s en hf r hr => by
  obtain ⟨x, hx, rfl⟩ := Option.map_eq_some_iff.mp hr
  exact a s en hf x hx
theorem sl_l {l : LF} {T : Option (List PyData)} (a : ∀ s, PLs (C s) l T) : SLs C l (sL T) := fun s en hf r hr => by
  obtain ⟨x, hx, rfl⟩ := Option.map_eq_some_iff.mp hr
  exact a s en hf x hx
theorem si_l {l : IF} {T : Option (List PyData)} (a : ∀ s, PIt (C s) l T) : SIs C l (sL T) := fun s en hf r hr => by
  obtain ⟨x, hx, rfl⟩ := Option.map_eq_some_iff.mp hr
  exact a s en hf x hx
theorem so_l {l : OF} {T : Option (Option Int)} (a : ∀ s, POp (C s) l T) : SOp C l (sL T) := fun s en hf r hr => by
  obtain ⟨x, hx, rfl⟩ := Option.map_eq_some_iff.mp hr
  exact a s en hf x hx
theorem SD.p (a : SD C f E) : SP_ C f E := fun s en hf r hr => by
  obtain ⟨en', e1, e2⟩ := a s en hf r hr
  exact ⟨.d r.1, en', e1, e2, fun _ _ _ => rfl⟩
theorem sp_varL {i : Nat} {xs : List PyData} (h : ∀ s, (C s)[i]? = some (.k (.l xs))) : SP_ C (fVar i) (sL (some (.list xs))) := fun s en hf r hr => by
  cases hr
  obtain ⟨r', en', e1, e2, _⟩ := pp_varL (h s) en hf _ rfl
  refine ⟨.b i, en, ?_, hf, fun s' e he => ?_⟩
  · obtain ⟨v, e3, e4⟩ := fits_get hf (h s)
    cases e4
    simp [e3]
  · obtain ⟨v, e3, e4⟩ := fits_get he (h s')
    cases e4
    simp [live, e3]
@[simp] def s1 (o : PyData → Option PyData) (E : σ → Option (PyData × σ)) (s : σ) : Option (PyData × σ) := (E s).bind fun r => (o r.1).map fun x => (x, r.2)
@[simp] def s2 (o : PyData → PyData → Option PyData) (E E' : σ → Option (PyData × σ)) (s : σ) : Option (PyData × σ) := (E s).bind fun r => (E' r.2).bind fun t => (o r.1 t.1).map fun x => (x, t.2)
theorem sd_1 {o : PyData → Option PyData} (a : SP_ C f E) : SD C (f1 o f) (s1 o E) := fun s en hf x hx => by
  obtain ⟨y, qy, hx1⟩ := Option.bind_eq_some_iff.mp hx
  obtain ⟨z, qz, rfl⟩ := Option.map_eq_some_iff.mp hx1
  obtain ⟨r, en1, e1, h1, e2⟩ := a s en hf y qy
  exact ⟨en1, by simp [e1, e2 _ _ h1, qz], h1⟩
theorem sd_2 {o : PyData → PyData → Option PyData} (a : SP_ C f E) (b : SP_ C g E') : SD C (f2 o f g) (s2 o E E') := fun s en hf x hx => by
  obtain ⟨y, qy, hx1⟩ := Option.bind_eq_some_iff.mp hx
  obtain ⟨z, qz, hx2⟩ := Option.bind_eq_some_iff.mp hx1
  obtain ⟨u, qu, rfl⟩ := Option.map_eq_some_iff.mp hx2
  obtain ⟨r, en1, e1, h1, e2⟩ := a s en hf y qy
  obtain ⟨r2, en2, e3, h2, e4⟩ := b _ en1 h1 z qz
  exact ⟨en2, by simp [e1, e2 _ _ h2, e3, e4 _ _ h2, qu], h2⟩
@[simp] def sNl (s : σ) : Option (List PyData × σ) := some ([], s)
@[simp] def sCs (E : σ → Option (PyData × σ)) (A : σ → Option (List PyData × σ)) (s : σ) : Option (List PyData × σ) := (E s).bind fun r => (A r.2).bind fun t => some (r.1 :: t.1, t.2)
theorem sa_nl : SAr C fNil sNl := fun s en hf x hx => by
  cases hx
  exact ⟨[], en, rfl, hf, fun _ _ _ => rfl⟩
theorem sa_cs (a : SP_ C f E) (b : SAr C q A) : SAr C (fCons f q) (sCs E A) := fun s en hf x hx => by
  obtain ⟨y, qy, hx1⟩ := Option.bind_eq_some_iff.mp hx
  obtain ⟨z, qz, hx2⟩ := Option.bind_eq_some_iff.mp hx1
  cases hx2
  obtain ⟨r, en1, e1, h1, e2⟩ := a s en hf _ qy
  obtain ⟨r2, en2, e3, h2, e4⟩ := b _ en1 h1 _ qz
  exact ⟨r :: r2, en2, by simp [e1, e3], h2, fun s' e he => by simp [e2 _ e he, e4 _ e he]⟩
theorem sd_nl : SAd C fNil sNl := fun s en hf x hx => by
  cases hx
  exact ⟨en, rfl, hf⟩
theorem sd_cs (a : SD C f E) (b : SAd C q A) : SAd C (fCons f q) (sCs E A) := fun s en hf x hx => by
  obtain ⟨y, qy, hx1⟩ := Option.bind_eq_some_iff.mp hx
  obtain ⟨z, qz, hx2⟩ := Option.bind_eq_some_iff.mp hx1
  cases hx2
  obtain ⟨en1, e1, h1⟩ := a s en hf _ qy
  obtain ⟨en2, e3, h2⟩ := b _ en1 h1 _ qz
  exact ⟨en2, by simp [e1, e3], h2⟩
/-- a row of values, then a plain deed -/
@[simp] def sM {α β : Type} (o : α → Option β) (A : σ → Option (α × σ)) (s : σ) : Option (β × σ) := (A s).bind fun r => (o r.1).map fun x => (x, r.2)
theorem sd_B {o : List PyData → Option PyData} (a : SAr C q A) : SD C (fB o q) (sM o A) := fun s en hf x hx => by
  obtain ⟨y, qy, hx1⟩ := Option.bind_eq_some_iff.mp hx
  obtain ⟨z, qz, rfl⟩ := Option.map_eq_some_iff.mp hx1
  obtain ⟨rs, en1, e1, h1, e2⟩ := a s en hf y qy
  exact ⟨en1, by simp [e1, e2 _ _ h1, qz], h1⟩
def tupS (xs : List PyData) : Option PyData := (szL xs).map .tuple
@[simp] theorem tupS_1 {xs : List PyData} : tupS xs = (szL xs).map .tuple := rfl
theorem sd_tup (a : SAd C q A) : SD C (fTup q) (sM tupS A) := fun s en hf x hx => by
  obtain ⟨y, qy, hx1⟩ := Option.bind_eq_some_iff.mp hx
  obtain ⟨z, qz, rfl⟩ := Option.map_eq_some_iff.mp hx1
  obtain ⟨w, hw, rfl⟩ := Option.map_eq_some_iff.mp qz
  obtain ⟨h1, rfl⟩ := szL_some hw
  obtain ⟨en1, e1, h2⟩ := a s en hf _ qy
  refine ⟨en1, ?_, h2⟩
  simp only [x_fTup, e1, Option.bind_some, datL_map]
  rw [if_pos h1]
theorem sl_lst_ (a : SAd C q A) : SLs C (fLst q) (sM szL A) := fun s en hf x hx => by
  obtain ⟨y, qy, hx1⟩ := Option.bind_eq_some_iff.mp hx
  obtain ⟨z, qz, rfl⟩ := Option.map_eq_some_iff.mp hx1
  obtain ⟨h1, rfl⟩ := szL_some qz
  obtain ⟨en1, e1, h2⟩ := a s en hf _ qy
  refine ⟨en1, ?_, h2⟩
  simp only [x_fLst, e1, Option.bind_some, datL_map]
  rw [if_pos h1]
def lstS (xs : List PyData) : Option PyData := some (.list xs)
@[simp] theorem lstS_1 {xs : List PyData} : lstS xs = some (.list xs) := rfl
theorem sd_ofL {l : LF} (a : SLs C l A) : SD C (fOfL l) (sM lstS A) := fun s en hf x hx => by
  obtain ⟨y, qy, hx1⟩ := Option.bind_eq_some_iff.mp hx
  cases hx1
  obtain ⟨en1, e1, h2⟩ := a s en hf _ qy
  exact ⟨en1, by simp [e1], h2⟩
theorem st_bl (a : SP_ C f E) : STb C (fBool f) (sM asB E) := fun s en hf x hx => by
  obtain ⟨y, qy, hx1⟩ := Option.bind_eq_some_iff.mp hx
  obtain ⟨z, qz, rfl⟩ := Option.map_eq_some_iff.mp hx1
  obtain ⟨r, en1, e1, h1, e2⟩ := a s en hf _ qy
  have := asB_some qz
  exact ⟨en1, by simp [e1, e2 _ _ h1, this], h1⟩
theorem st_tr (a : SP_ C f E) : STb C (fTru f) (sM tru E) := fun s en hf x hx => by
  obtain ⟨y, qy, hx1⟩ := Option.bind_eq_some_iff.mp hx
  obtain ⟨z, qz, rfl⟩ := Option.map_eq_some_iff.mp hx1
  obtain ⟨r, en1, e1, h1, e2⟩ := a s en hf _ qy
  exact ⟨en1, by simp [e1, e2 _ _ h1, qz], h1⟩
section
variable {c c' : TF} {T T' : σ → Option (Bool × σ)}
@[simp] def sAnd (T U : σ → Option (Bool × σ)) (s : σ) : Option (Bool × σ) := (T s).bind fun r => if r.1 = true then U r.2 else some (false, r.2)
@[simp] def sOr (T U : σ → Option (Bool × σ)) (s : σ) : Option (Bool × σ) := (T s).bind fun r => if r.1 = true then some (true, r.2) else U r.2
@[simp] def sNot (T : σ → Option (Bool × σ)) (s : σ) : Option (Bool × σ) := (T s).map fun r => (!r.1, r.2)
@[simp] def sIfE {α : Type} (T : σ → Option (Bool × σ)) (E E' : σ → Option α) (s : σ) : Option α := (T s).bind fun r => if r.1 = true then E r.2 else E' r.2
theorem st_and_ (a : STb C c T) (b : STb C c' T') : STb C (fAnd c c') (sAnd T T') := fun s en hf x hx => by
  obtain ⟨y, qy, hx1⟩ := Option.bind_eq_some_iff.mp hx
  obtain ⟨en1, e1, h1⟩ := a s en hf _ qy
  by_cases k : y.1 = true
  · rw [if_pos k] at hx1
    obtain ⟨en2, e2, h2⟩ := b _ en1 h1 x hx1
    exact ⟨en2, by simp [e1, e2, k], h2⟩
  · rw [if_neg k] at hx1
    cases hx1
    exact ⟨en1, by simp [e1, k], h1⟩
theorem st_or_ (a : STb C c T) (b : STb C c' T') : STb C (fOr c c') (sOr T T') := fun s en hf x hx => by
  obtain ⟨y, qy, hx1⟩ := Option.bind_eq_some_iff.mp hx
  obtain ⟨en1, e1, h1⟩ := a s en hf _ qy
  by_cases k : y.1 = true
  · rw [if_pos k] at hx1
    cases hx1
    exact ⟨en1, by simp [e1, k], h1⟩
  · rw [if_neg k] at hx1
    obtain ⟨en2, e2, h2⟩ := b _ en1 h1 x hx1
    exact ⟨en2, by simp [e1, e2, k], h2⟩
theorem st_not_ (a : STb C c T) : STb C (fNot c) (sNot T) := fun s en hf x hx => by
  obtain ⟨y, qy, hx1⟩ := Option.map_eq_some_iff.mp hx
  subst hx1
  obtain ⟨en1, e1, h1⟩ := a s en hf _ qy
  exact ⟨en1, by simp [e1], h1⟩
theorem sd_ifE (t : STb C c T) (a : SD C f E) (b : SD C g E') : SD C (fIfE c f g) (sIfE T E E') := fun s en hf x hx => by
  obtain ⟨y, qy, hx1⟩ := Option.bind_eq_some_iff.mp hx
  obtain ⟨en1, e1, h1⟩ := t s en hf _ qy
  by_cases k : y.1 = true
  · rw [if_pos k] at hx1
    obtain ⟨en2, e2, h2⟩ := a _ en1 h1 x hx1
    exact ⟨en2, by simp [e1, e2, k], h2⟩
  · rw [if_neg k] at hx1
    obtain ⟨en2, e2, h2⟩ := b _ en1 h1 x hx1
    exact ⟨en2, by simp [e1, e2, k], h2⟩
end
def notD (x : PyData) : Option PyData := (tru x).map fun b => .bool (!b)
def isND (x : PyData) : Option PyData := some (.bool (isN x))
def notND (x : PyData) : Option PyData := some (.bool (!isN x))
@[simp] theorem isND_1 {x : PyData} : isND x = some (.bool (isN x)) := rfl
@[simp] theorem notND_1 {x : PyData} : notND x = some (.bool (!isN x)) := rfl
@[simp] theorem notD_1 {x : PyData} : notD x = (tru x).map fun b => .bool (!b) := rfl
@[simp] def sOrT (E E' : σ → Option (PyData × σ)) (s : σ) : Option (PyData × σ) := (E s).bind fun r => (tru r.1).bind fun b => if b = true then some r else E' r.2
@[simp] def sAndT (E E' : σ → Option (PyData × σ)) (s : σ) : Option (PyData × σ) := (E s).bind fun r => (tru r.1).bind fun b => if b = true then E' r.2 else some r
theorem sd_notT (a : SP_ C f E) : SD C (fNotT f) (sM notD E) := fun s en hf x hx => by
  obtain ⟨y, qy, hx1⟩ := Option.bind_eq_some_iff.mp hx
  obtain ⟨z, qz, rfl⟩ := Option.map_eq_some_iff.mp hx1
  obtain ⟨b, qb, rfl⟩ := Option.map_eq_some_iff.mp qz
  obtain ⟨r, en1, e1, h1, e2⟩ := a s en hf _ qy
  exact ⟨en1, by simp [e1, e2 _ _ h1, qb], h1⟩
theorem sd_isN (a : SP_ C f E) : SD C (fIsN f) (sM isND E) := fun s en hf x hx => by
  obtain ⟨y, qy, hx1⟩ := Option.bind_eq_some_iff.mp hx
  cases hx1
  obtain ⟨r, en1, e1, h1, e2⟩ := a s en hf _ qy
  exact ⟨en1, by simp [e1, e2 _ _ h1], h1⟩
theorem sd_notN (a : SP_ C f E) : SD C (fNotN f) (sM notND E) := fun s en hf x hx => by
  obtain ⟨y, qy, hx1⟩ := Option.bind_eq_some_iff.mp hx
  cases hx1
  obtain ⟨r, en1, e1, h1, e2⟩ := a s en hf _ qy
  exact ⟨en1, by simp [e1, e2 _ _ h1], h1⟩
theorem sd_orT (a : SD C f E) (b : SD C g E') : SD C (fOrT f g) (sOrT E E') := fun s en hf x hx => by
  obtain ⟨y, qy, hx1⟩ := Option.bind_eq_some_iff.mp hx
  obtain ⟨z, qz, hx2⟩ := Option.bind_eq_some_iff.mp hx1
  obtain ⟨en1, e1, h1⟩ := a s en hf _ qy
  cases z with
  | true =>
    simp at hx2
    subst hx2
    exact ⟨en1, by simp [e1, qz], h1⟩
  | false =>
    obtain ⟨en2, e2, h2⟩ := b _ en1 h1 x (by simpa using hx2)
    exact ⟨en2, by simp [e1, e2, qz], h2⟩
theorem sd_andT (a : SD C f E) (b : SD C g E') : SD C (fAndT f g) (sAndT E E') := fun s en hf x hx => by
  obtain ⟨y, qy, hx1⟩ := Option.bind_eq_some_iff.mp hx
  obtain ⟨z, qz, hx2⟩ := Option.bind_eq_some_iff.mp hx1
  obtain ⟨en1, e1, h1⟩ := a s en hf _ qy
  cases z with
  | false =>
    simp at hx2
    subst hx2
    exact ⟨en1, by simp [e1, qz], h1⟩
  | true =>
    obtain ⟨en2, e2, h2⟩ := b _ en1 h1 x (by simpa using hx2)
    exact ⟨en2, by simp [e1, e2, qz], h2⟩
theorem sl_BL {o : List PyData → Option (List PyData)} (a : SAr C q A) : SLs C (fBL o q) (sM o A) := fun s en hf x hx => by
  obtain ⟨y, qy, hx1⟩ := Option.bind_eq_some_iff.mp hx
  obtain ⟨z, qz, rfl⟩ := Option.map_eq_some_iff.mp hx1
  obtain ⟨rs, en1, e1, h1, e2⟩ := a s en hf y qy
  exact ⟨en1, by simp [e1, e2 _ _ h1, qz], h1⟩
theorem sl_lr1_ (a : SD C f E) : SLs C (fLr1 f) (sM lr1 E) := fun s en hf x hx => by
  obtain ⟨y, qy, hx1⟩ := Option.bind_eq_some_iff.mp hx
  obtain ⟨z, qz, rfl⟩ := Option.map_eq_some_iff.mp hx1
  obtain ⟨k, hk, hz⟩ := Option.bind_eq_some_iff.mp qz
  have e0 := dInt_some hk
  obtain ⟨en1, e1, h1⟩ := a s en hf _ qy
  refine ⟨en1, ?_, h1⟩
  split at hz
  · rename_i c
    cases hz
    simp only [fLr1, e1, Option.bind_some, e0, x_asInt]
    rw [if_pos c]
  · cases hz
theorem si_sq (a : SD C f E) : SIs C (fSeq f) (sM itSeq E) := fun s en hf x hx => by
  obtain ⟨y, qy, hx1⟩ := Option.bind_eq_some_iff.mp hx
  obtain ⟨z, qz, rfl⟩ := Option.map_eq_some_iff.mp hx1
  obtain ⟨en1, e1, h1⟩ := a s en hf _ qy
  exact ⟨en1, by simp [e1, qz], h1⟩
theorem si_rg1 (a : SD C f E) : SIs C (fRng1 f) (sM rg1 E) := fun s en hf x hx => by
  obtain ⟨y, qy, hx1⟩ := Option.bind_eq_some_iff.mp hx
  obtain ⟨z, qz, rfl⟩ := Option.map_eq_some_iff.mp hx1
  obtain ⟨k, hk, hz⟩ := Option.bind_eq_some_iff.mp qz
  have e0 := dInt_some hk
  obtain ⟨en1, e1, h1⟩ := a s en hf _ qy
  refine ⟨en1, ?_, h1⟩
  split at hz
  · rename_i c
    cases hz
    simp only [x_fRng1, e1, Option.bind_some, e0, x_asInt]
    rw [if_pos c]
  · cases hz
theorem si_rg2 (a : SD C f E) (b : SD C g E') : SIs C (fRng2 f g) (sB E fun x => sM (rg2 x) E') := fun s en hf x hx => by
  obtain ⟨y, qy, hx0⟩ := Option.bind_eq_some_iff.mp hx
  obtain ⟨y', qy', hx1⟩ := Option.bind_eq_some_iff.mp hx0
  obtain ⟨z, qz, rfl⟩ := Option.map_eq_some_iff.mp hx1
  obtain ⟨k, hk, hz⟩ := Option.bind_eq_some_iff.mp qz
  obtain ⟨k', hk', hz2⟩ := Option.bind_eq_some_iff.mp hz
  have e0 := dInt_some hk
  have e0' := dInt_some hk'
  obtain ⟨en1, e1, h1⟩ := a s en hf _ qy
  obtain ⟨en2, e2, h2⟩ := b _ en1 h1 _ qy'
  refine ⟨en2, ?_, h2⟩
  split at hz2
  · rename_i c
    cases hz2
    simp only [x_fRng2, e1, e2, Option.bind_some, e0, e0', x_asInt]
    rw [if_pos c]
  · cases hz2
theorem so_pt (a : SD C f E) : SOp C (fPart f) (sM (fun x => (dInt x).map some) E) := fun s en hf x hx => by
  obtain ⟨y, qy, hx1⟩ := Option.bind_eq_some_iff.mp hx
  obtain ⟨z, qz, rfl⟩ := Option.map_eq_some_iff.mp hx1
  obtain ⟨k, hk, rfl⟩ := Option.map_eq_some_iff.mp qz
  have e0 := dInt_some hk
  obtain ⟨en1, e1, h1⟩ := a s en hf _ qy
  exact ⟨en1, by simp [e1, e0], h1⟩
theorem sd_sl {w w' : OF} {A B : σ → Option (Option Int × σ)} (a : SP_ C f E) (b : SOp C w A) (c : SOp C w' B) : SD C (fSl f w w') (sB E fun x => sB A fun i => sM (slD x i) B) := fun s en hf x hx => by
  obtain ⟨y, qy, hx1⟩ := Option.bind_eq_some_iff.mp hx
  obtain ⟨i, qi, hx2⟩ := Option.bind_eq_some_iff.mp hx1
  obtain ⟨j, qj, hx3⟩ := Option.bind_eq_some_iff.mp hx2
  obtain ⟨z, qz, rfl⟩ := Option.map_eq_some_iff.mp hx3
  obtain ⟨r, en1, e1, h1, e2⟩ := a s en hf _ qy
  obtain ⟨en2, e3, h2⟩ := b _ en1 h1 _ qi
  obtain ⟨en3, e4, h3⟩ := c _ en2 h2 _ qj
  refine ⟨en3, ?_, h3⟩
  simp only [x_fSl, e1, e3, e4, e2 _ _ h3, Option.bind_some]
  generalize y.1 = y1 at *
  cases y1 with
  | tuple xs => cases qz; rfl
  | list xs => cases qz; rfl
  | str t =>
    simp only [slD] at qz
    split at qz
    · rename_i hq
      cases qz
      simp only
      rw [if_pos hq]
    · cases qz
  | none => cases qz
  | bool b => cases qz
  | int b => cases qz
  | dict b => cases qz
/-! comprehensions -/
def lcS (F : PyData → σ → Option (Option PyData × σ)) : List PyData → σ → Option (List PyData × σ)
  | [], s => some ([], s)
  | x :: xs, s => (F x s).bind fun o => (lcS F xs o.2).bind fun r => some (o.1.toList ++ r.1, r.2)
def sLc (I : σ → Option (List PyData × σ)) (F : PyData → σ → Option (Option PyData × σ)) (s : σ) : Option (List PyData × σ) := (I s).bind fun r => (szL r.1).bind fun xs => lcS F xs r.2
@[simp] def sIfS (T : σ → Option (Bool × σ)) (E : σ → Option (PyData × σ)) (s : σ) : Option (Option PyData × σ) := (T s).bind fun b => if b.1 = true then (E b.2).map fun r => (some r.1, r.2) else some (none, b.2)
@[simp] def sAll (E : σ → Option (PyData × σ)) (s : σ) : Option (Option PyData × σ) := (E s).map fun r => (some r.1, r.2)
/-- bind of a plain value -/
@[simp] def sU {α β : Type} (U : Option α) (F : α → σ → Option β) (s : σ) : Option β := U.bind fun t => F t s
theorem lcS_go {τ : Type} {g : GF} {tt : TF} {te : EF} {vs : List Nat} {U : PyData → Option τ} {Δ : τ → σ → Ctx} {T : τ → σ → Option (Bool × σ)} {E : τ → σ → Option (PyData × σ)}
    (hg : ∀ s, PGt (wipC (C s) vs) g U fun t => Δ t s) (ht : ∀ t, STb (Δ t) tt (T t)) (he : ∀ t, SD (Δ t) te (E t)) (hw : ∀ t s, WkC (wipC (Δ t s) vs) (wipC (C s) vs)) :
    ∀ {xs : List PyData} {s : σ} {en : En} {ys : List PyData × σ}, Fits (wipC (C s) vs) en → lcS (fun x => sU (U x) fun t => sIfS (T t) (E t)) xs s = some ys → ∃ en', lcL g tt te vs xs en = some (ys.1, en') ∧ Fits (wipC (C ys.2) vs) en'
  | [], s, en, ys, hf, h => by
    cases h
    exact ⟨en, rfl, hf⟩
  | x :: xs, s, en, ys, hf, h => by
    obtain ⟨o, ho, h⟩ := Option.bind_eq_some_iff.mp h
    obtain ⟨r, hr, h⟩ := Option.bind_eq_some_iff.mp h
    cases h
    obtain ⟨t, hu, ho⟩ := Option.bind_eq_some_iff.mp ho
    obtain ⟨b, hb, ho⟩ := Option.bind_eq_some_iff.mp ho
    obtain ⟨en1, e1, h1⟩ := hg s x en hf t hu
    obtain ⟨en2, e2, h2⟩ := ht t s en1 h1 b hb
    by_cases k : b.1 = true
    · rw [if_pos k] at ho
      obtain ⟨y, hy, ho⟩ := Option.map_eq_some_iff.mp ho
      subst ho
      obtain ⟨en3, e3, h3⟩ := he t _ en2 h2 y hy
      obtain ⟨en4, e4, h4⟩ := lcS_go hg ht he hw (xs := xs) (en := wipeE en3 vs) (wkC_fits (hw t _) (fits_wipe h3 vs)) hr
      refine ⟨en4, ?_, h4⟩
      simp only [lcL, e1, e2, e3, e4, k, Option.bind_some, if_true]
      rfl
    · rw [if_neg k] at ho
      cases ho
      obtain ⟨en4, e4, h4⟩ := lcS_go hg ht he hw (xs := xs) (en := wipeE en2 vs) (wkC_fits (hw t _) (fits_wipe h2 vs)) hr
      refine ⟨en4, ?_, h4⟩
      simp only [lcL, e1, e2, e4, k, Option.bind_some, if_false]
      rfl
theorem fits_back2 {Γ Δ : Ctx} {en0 en : En} {vs : List Nat} (h0 : Fits Γ en0) (h : Fits (wipC Δ vs) en) (hs : ∀ i ∈ vs, Γ[i]? = Δ[i]?) : Fits Δ (backE en0 en vs) := by
  refine fits_ext (by rw [backE_len, ← fits_len h, wipC_length]) fun i s e => ?_
  have hi : i < en.length := by rw [← fits_len h, wipC_length]; exact (List.getElem?_eq_some_iff.mp e).1
  have key : ∀ vs : List Nat, (i ∈ vs → (backE en0 en vs)[i]? = some ((en0[i]?).getD none)) ∧ (i ∉ vs → (backE en0 en vs)[i]? = en[i]?) := by
    intro vs
    induction vs with
    | nil => exact ⟨fun q => (List.not_mem_nil q).elim, fun _ => rfl⟩
    | cons v vs ih =>
      rw [x_backE1]
      by_cases q : v = i
      · subst q
        have hv : v < (backE en0 en vs).length := by rw [backE_len]; exact hi
        exact ⟨fun _ => by rw [List.getElem?_set_self hv], fun q => absurd List.mem_cons_self q⟩
      · rw [List.getElem?_set_ne q]
        exact ⟨fun m => ih.1 (by rcases List.mem_cons.mp m with e | e; exact absurd e.symm q; exact e), fun m => ih.2 fun e => m (List.mem_cons_of_mem _ e)⟩
  by_cases q : i ∈ vs
  · rw [← hs i q] at e
    obtain ⟨x, e1, e2⟩ := fits_get h0 e
    rw [(key vs).1 q, e1]
    exact ⟨x, rfl, e2⟩
  · rw [(key vs).2 q]
    exact fits_get h (by rw [wipC_get Δ i vs q]; exact e)
theorem sl_lc_ {τ : Type} {it : IF} {g : GF} {tt : TF} {te : EF} {vs : List Nat} {I : σ → Option (List PyData × σ)} {U : PyData → Option τ} {Δ : τ → σ → Ctx} {T : τ → σ → Option (Bool × σ)} {E : τ → σ → Option (PyData × σ)}
    (hi : SIs C it I) (hg : ∀ s, PGt (wipC (C s) vs) g U fun t => Δ t s) (ht : ∀ t, STb (Δ t) tt (T t)) (he : ∀ t, SD (Δ t) te (E t)) (hp : ∀ s, vs.all (pln (C s)) = true) (hs : ∀ s s', vs.map (fun i => (C s)[i]?) = vs.map (fun i => (C s')[i]?)) (hw : ∀ t s, WkC (wipC (Δ t s) vs) (wipC (C s) vs)) :
    SLs C (fLc it g tt te vs) (sLc I fun x => sU (U x) fun t => sIfS (T t) (E t)) := fun s en hf x hx => by
  obtain ⟨xs, qx, hx1⟩ := Option.bind_eq_some_iff.mp hx
  obtain ⟨ys, hy, hx2⟩ := Option.bind_eq_some_iff.mp hx1
  obtain ⟨hz, rfl⟩ := szL_some hy
  obtain ⟨en1, e1, h1⟩ := hi s en hf _ qx
  obtain ⟨en2, e2, h2⟩ := lcS_go hg ht he hw (fits_wipe h1 vs) hx2
  refine ⟨backE en1 en2 vs, ?_, fits_back2 h1 h2 fun i hi => ?_⟩
  · simp only [fLc, e1, Option.bind_some]
    rw [if_pos ⟨hz, plns_of h1 (hp _)⟩, e2, Option.bind_some]
  · exact List.map_inj_left.mp (hs _ _) i hi
theorem st_yes : STb C fYes (sL (some true)) := st_l fun _ => pt_yes
theorem sl_lcA_ {τ : Type} {it : IF} {g : GF} {te : EF} {vs : List Nat} {I : σ → Option (List PyData × σ)} {U : PyData → Option τ} {Δ : τ → σ → Ctx} {E : τ → σ → Option (PyData × σ)}
    (hi : SIs C it I) (hg : ∀ s, PGt (wipC (C s) vs) g U fun t => Δ t s) (he : ∀ t, SD (Δ t) te (E t)) (hp : ∀ s, vs.all (pln (C s)) = true) (hs : ∀ s s', vs.map (fun i => (C s)[i]?) = vs.map (fun i => (C s')[i]?)) (hw : ∀ t s, WkC (wipC (Δ t s) vs) (wipC (C s) vs)) :
    SLs C (fLc it g fYes te vs) (sLc I fun x => sU (U x) fun t => sAll (E t)) := sl_lc_ (T := fun _ => sL (some true)) hi hg (fun _ => st_yes) he hp hs hw
/-! calls -/
theorem sd_cl {gg : SF} {m n : Nat} {P : List PyData → Option PyData} (hP : PuN gg n m P) (a : SAd C q A) : SD C (fCall gg m n [] q) (sM P A) := fun s en hf x hx => by
  obtain ⟨y, qy, hx1⟩ := Option.bind_eq_some_iff.mp hx
  obtain ⟨z, qz, rfl⟩ := Option.map_eq_some_iff.mp hx1
  obtain ⟨en1, e1, h1⟩ := a s en hf _ qy
  obtain ⟨hl, as, e2⟩ := hP _ _ qz
  refine ⟨en1, ?_, h1⟩
  simp only [x_fCall, e1, Option.bind_some, argsOf_map, bors_map, List.map_nil, List.append_nil, e2, putBack_map]
  rw [if_pos ⟨List.nodup_nil, by simpa [datS] using hl⟩]
theorem sd_cd {gg : SF} {m n : Nat} {dd : List PyData} {P : List PyData → Option PyData} (hP : PuN gg n m P) (a : SAd C q A) : SD C (fCall gg m n dd q) (sM (fun xs => P (xs ++ dd)) A) := fun s en hf x hx => by
  obtain ⟨y, qy, hx1⟩ := Option.bind_eq_some_iff.mp hx
  obtain ⟨z, qz, rfl⟩ := Option.map_eq_some_iff.mp hx1
  obtain ⟨en1, e1, h1⟩ := a s en hf _ qy
  obtain ⟨hl, as, e2⟩ := hP _ _ qz
  refine ⟨en1, ?_, h1⟩
  have e3 : datS y.1 ++ dd.map .d = datS (y.1 ++ dd) := by simp [datS]
  simp only [x_fCall, e1, Option.bind_some, argsOf_map, bors_map, e3, e2, putBack_map]
  rw [if_pos ⟨List.nodup_nil, by simpa [datS] using hl⟩]
end
/-- a def that draws: its first argument is the state -/
def StN (g : SF) (n m : Nat) (P : List PyData → List PyData → Option (PyData × List PyData)) : Prop := ∀ xs S r, P xs S = some r → xs.length + 1 = m ∧ ∃ as, fcall g n (.p S :: datS xs) = some (r.1, .p r.2 :: as)
def st0 (p : List PyData → Option (PyData × List PyData)) : List PyData → List PyData → Option (PyData × List PyData)
  | [], S => p S
  | _, _ => none
def st1 (p : List PyData → PyData → Option (PyData × List PyData)) : List PyData → List PyData → Option (PyData × List PyData)
  | [a], S => p S a
  | _, _ => none
def st2 (p : List PyData → PyData → PyData → Option (PyData × List PyData)) : List PyData → List PyData → Option (PyData × List PyData)
  | [a, b], S => p S a b
  | _, _ => none
def st3 (p : List PyData → PyData → PyData → PyData → Option (PyData × List PyData)) : List PyData → List PyData → Option (PyData × List PyData)
  | [a, b, c], S => p S a b c
  | _, _ => none
def st4 (p : List PyData → PyData → PyData → PyData → PyData → Option (PyData × List PyData)) : List PyData → List PyData → Option (PyData × List PyData)
  | [a, b, c, d], S => p S a b c d
  | _, _ => none
@[simp] theorem st0_ {p : List PyData → Option (PyData × List PyData)} {S : List PyData} : st0 p [] S = p S := rfl
@[simp] theorem st1_ {p : List PyData → PyData → Option (PyData × List PyData)} {S : List PyData} {a : PyData} : st1 p [a] S = p S a := rfl
@[simp] theorem st2_ {p : List PyData → PyData → PyData → Option (PyData × List PyData)} {S : List PyData} {a b : PyData} : st2 p [a, b] S = p S a b := rfl
@[simp] theorem st3_ {p : List PyData → PyData → PyData → PyData → Option (PyData × List PyData)} {S : List PyData} {a b c : PyData} : st3 p [a, b, c] S = p S a b c := rfl
@[simp] theorem st4_ {p : List PyData → PyData → PyData → PyData → PyData → Option (PyData × List PyData)} {S : List PyData} {a b c d : PyData} : st4 p [a, b, c, d] S = p S a b c d := rfl
section
variable {C : List PyData → Ctx} {q : AF} {A : List PyData → Option (List PyData × List PyData)} {gg : SF} {m n i : Nat} {P : List PyData → List PyData → Option (PyData × List PyData)}
theorem sd_st {w : List PyData → SV} (hw : w = .p ∨ w = .l) (hP : StN gg n m P) (a : SAd C q A) (hi : ∀ s, (C s)[i]? = some (.k (w s))) (hC : ∀ s s', (C s).set i (.k (w s')) = C s') : SD C (fCall gg m n [] (fCons (fVar i) q)) (sB A P) := fun s en hf x hx => by
  obtain ⟨y, qy, hx1⟩ := Option.bind_eq_some_iff.mp hx
  obtain ⟨en1, e1, h1⟩ := a s en hf _ qy
  obtain ⟨hl, as, e2⟩ := hP _ _ _ hx1
  obtain ⟨v, e3, e4⟩ := fits_get hf (hi s)
  obtain ⟨v1, e5, e6⟩ := fits_get h1 (hi y.2)
  cases e4
  cases e6
  have e7 : fVar i en = some (.b i, en) := by rcases hw with rfl | rfl <;> simp [e3]
  have e8 : live en1 i = some y.2 := by rcases hw with rfl | rfl <;> simp [live, e5]
  have e9 : putL en1 i x.2 = en1.set i (some (w x.2)) := by rcases hw with rfl | rfl <;> simp [putL, e5]
  refine ⟨en1.set i (some (w x.2)), ?_, ?_⟩
  · simp only [x_fCall, x_fCons, e1, e7, Option.bind_some, x_argsOf2, e8, argsOf_map, x_bors2, bors_map, List.map_nil, List.append_nil, e2, x_putBack2, putBack_map, e9]
    rw [if_pos ⟨by simp, by simpa [datS] using hl⟩]
  · rw [← hC y.2 x.2]
    exact fits_set (s := .k (w x.2)) (x := some (w x.2)) rfl i h1
end
end L2.FL
set_option Elab.async false
set_option linter.all false
set_option maxRecDepth 100000
set_option maxHeartbeats 4000000
/-! PL3: plain functions for the readings: statements, loops, defs. -/
namespace L2.FL
open PySem PySem.Spec PyProof.Rows L2

/-- a statement that goes on to the next one; t: what it gives -/
def PN {τ : Type} (Γ : Ctx) (s : SF) (A : Option τ) (Δ : τ → Ctx) : Prop := ∀ en, Fits Γ en → ∀ t, A = some t → ∃ en', s en = some (.nx, en') ∧ Fits (Δ t) en'
/-- a row of statements that returns (w: or goes on, and gives None) -/
def PR {ρ : Type} (w : Bool) (Γ : Ctx) (s : SF) (B : Option ρ) (v : ρ → PyData) (J : ρ → En → Prop) : Prop := ∀ en, Fits Γ en → ∀ r, B = some r → ∃ o en', s en = some (o, en') ∧ (o = .rt (v r) ∨ (w = true ∧ o = .nx ∧ v r = .none)) ∧ J r en'
/-- the ways out of a statement -/
inductive Oc (ρ κ τ : Type) where
  | nx (t : τ)
  | ct (k : κ)
  | bk (k : κ)
  | rt (r : ρ)
def OcOk {ρ κ τ : Type} (N : τ → En → Prop) (Λ : κ → Ctx) (v : ρ → PyData) (J : ρ → En → Prop) : Oc ρ κ τ → Out → En → Prop
  | .nx t, out, en => out = .nx ∧ N t en
  | .ct k, out, en => out = .ct ∧ Fits (Λ k) en
  | .bk k, out, en => out = .bk ∧ Fits (Λ k) en
  | .rt r, out, en => out = .rt (v r) ∧ J r en
def PO {ρ κ τ : Type} (Γ : Ctx) (s : SF) (B : Option (Oc ρ κ τ)) (N : τ → En → Prop) (Λ : κ → Ctx) (v : ρ → PyData) (J : ρ → En → Prop) : Prop := ∀ en, Fits Γ en → ∀ o, B = some o → ∃ out en', s en = some (out, en') ∧ OcOk N Λ v J o out en'
abbrev FtN {τ : Type} (Δ : τ → Ctx) : τ → En → Prop := fun t en => Fits (Δ t) en
/-- never goes on -/
abbrev NoN {τ : Type} : τ → En → Prop := fun _ _ => False
section
variable {Γ : Ctx} {f g : EF} {E E' : Option PyData} {τ : Type} {i : Nat}
theorem pn_asg {G : GF} {U : PyData → Option τ} {Δ : τ → Ctx} (a : PD Γ f E) (b : PGt Γ G U Δ) : PN Γ (sAsg G f) (E.bind U) Δ := fun en hf t ht => by
  obtain ⟨x, qx, ht1⟩ := Option.bind_eq_some_iff.mp ht
  obtain ⟨en1, e1, h1⟩ := a en hf x qx
  obtain ⟨en2, e2, h2⟩ := b x en1 h1 t ht1
  exact ⟨en2, by simp [e1, e2], h2⟩
theorem pn_set (a : PD Γ f E) (h : opn Γ i = true := by rfl) : PN Γ (sAsg (gSet i) f) E fun x => Γ.set i (.k (.d x)) := fun en hf t ht => by
  obtain ⟨en1, e1, h1⟩ := a en hf t ht
  obtain ⟨en2, e2, h2⟩ := pg_set h t en1 h1 t rfl
  exact ⟨en2, by simp only [x_sAsg, e1, Option.bind_some, e2], h2⟩
theorem pn_setL {l : LF} {A : Option (List PyData)} (a : PLs Γ l A) (h : opn Γ i = true := by rfl) : PN Γ (sAsgL i l) A fun xs => Γ.set i (.k (.l xs)) := fun en hf t ht => by
  obtain ⟨en1, e1, h1⟩ := a en hf t ht
  exact ⟨en1.set i (some (.l t)), by simp [e1, opn_of h1 h], fits_set (s := .k (.l t)) (x := some (.l t)) rfl i h1⟩
theorem pn_drop (a : PV_ Γ f E) : PN Γ (sDrop f) E fun _ => Γ := fun en hf t ht => by
  obtain ⟨r, en1, e1, h1, _⟩ := a en hf t ht
  exact ⟨en1, by simp [e1], h1⟩
@[simp] def pApp (xs : List PyData) (E : Option PyData) : Option (List PyData) := E.bind fun y => if xs.length < sizeLine then some (xs ++ [y]) else none
theorem pn_app {xs : List PyData} (a : PD Γ f E) (h : Γ[i]? = some (.k (.l xs)) := by rfl) : PN Γ (sApp i f) (pApp xs E) fun ys => Γ.set i (.k (.l ys)) := fun en hf t ht => by
  obtain ⟨y, qy, ht1⟩ := Option.bind_eq_some_iff.mp ht
  split at ht1
  · rename_i c
    cases ht1
    obtain ⟨en1, e1, h1⟩ := a en hf _ qy
    obtain ⟨v, e2, e3⟩ := fits_get hf h
    obtain ⟨v1, e4, e5⟩ := fits_get h1 h
    cases e3
    cases e5
    refine ⟨en1.set i (some (.l (xs ++ [y]))), ?_, fits_set (s := .k (.l (xs ++ [y]))) (x := some (.l (xs ++ [y]))) rfl i h1⟩
    have l0 : live en i = some xs := by simp [live, e2]
    have l1 : live en1 i = some xs := by simp [live, e4]
    simp only [x_sApp, l0, l1, e1, Option.bind_some]
    rw [if_pos c]
    simp [putL, e4]
  · cases ht1
def setD (xs : List PyData) (k y : PyData) : Option (List PyData) := (dInt k).bind fun k => (ixN xs.length k).map fun j => xs.set j y
@[simp] def pSetIx (xs : List PyData) (K E : Option PyData) : Option (List PyData) := E.bind fun y => K.bind fun k => setD xs k y
theorem pn_setIx {xs : List PyData} {K : Option PyData} (b : PD Γ g K) (a : PD Γ f E) (h : Γ[i]? = some (.k (.l xs)) := by rfl) : PN Γ (sSetIx i g f) (pSetIx xs K E) fun ys => Γ.set i (.k (.l ys)) := fun en hf t ht => by
  obtain ⟨y, qy, ht1⟩ := Option.bind_eq_some_iff.mp ht
  obtain ⟨k, qk, ht2⟩ := Option.bind_eq_some_iff.mp ht1
  obtain ⟨z, qz, ht3⟩ := Option.bind_eq_some_iff.mp ht2
  obtain ⟨j, qj, ht4⟩ := Option.map_eq_some_iff.mp ht3
  subst ht4
  have e0 := dInt_some qz
  obtain ⟨en1, e1, h1⟩ := a en hf _ qy
  obtain ⟨en2, e2, h2⟩ := b en1 h1 _ qk
  obtain ⟨v1, e4, e5⟩ := fits_get h1 h
  obtain ⟨v2, e6, e7⟩ := fits_get h2 h
  cases e5
  cases e7
  refine ⟨en2.set i (some (.l (xs.set j y))), ?_, fits_set (s := .k (.l (xs.set j y))) (x := some (.l (xs.set j y))) rfl i h2⟩
  have l1 : live en1 i = some xs := by simp [live, e4]
  have l2 : live en2 i = some xs := by simp [live, e6]
  simp only [x_sSetIx, e1, e2, l1, l2, e0, x_asInt, Option.bind_some, qj]
  simp [putL, e6]
theorem pn_aug {o : PyData → PyData → Option PyData} {x : PyData} (a : PV_ Γ f E) (h : Γ[i]? = some (.k (.d x)) := by rfl) : PN Γ (sAug i o f) (p2 o (some x) E) fun y => Γ.set i (.k (.d y)) := fun en hf t ht => by
  obtain ⟨y, qy, ht1⟩ := Option.bind_eq_some_iff.mp (show E.bind (fun y => o x y) = some t from ht)
  obtain ⟨r, en1, e1, h1, e2⟩ := a en hf _ qy
  obtain ⟨v, e3, e4⟩ := fits_get hf h
  cases e4
  have ho : open_ en1 i = true := opn_of h1 (by unfold opn; rw [h])
  exact ⟨en1.set i (some (.d t)), by simp [e3, e1, e2, ht1, ho], fits_set (s := .k (.d t)) (x := some (.d t)) rfl i h1⟩
/-! several at once -/
def PQ (Γ : Ctx) (q : PF) (A : Option τ) (w : τ → List PV) : Prop := ∀ en, Fits Γ en → ∀ t, A = some t → ∃ en', q en = some (w t, en') ∧ Fits Γ en'
theorem pq_nil : PQ Γ pNil (some ()) fun _ => [] := fun en hf t ht => ⟨en, rfl, hf⟩
theorem pq_e {q : PF} {A : Option τ} {w : τ → List PV} (a : PD Γ f E) (b : PQ Γ q A w) : PQ Γ (pE f q) (E.bind fun x => A.bind fun t => some (x, t)) fun t => .d t.1 :: w t.2 := fun en hf t ht => by
  obtain ⟨x, qx, ht1⟩ := Option.bind_eq_some_iff.mp ht
  obtain ⟨y, qy, ht2⟩ := Option.bind_eq_some_iff.mp ht1
  cases ht2
  obtain ⟨en1, e1, h1⟩ := a en hf _ qx
  obtain ⟨en2, e2, h2⟩ := b en1 h1 _ qy
  exact ⟨en2, by simp [e1, e2], h2⟩
theorem pq_l {q : PF} {l : LF} {L : Option (List PyData)} {A : Option τ} {w : τ → List PV} (a : PLs Γ l L) (b : PQ Γ q A w) : PQ Γ (pL l q) (L.bind fun x => A.bind fun t => some (x, t)) fun t => .l t.1 :: w t.2 := fun en hf t ht => by
  obtain ⟨x, qx, ht1⟩ := Option.bind_eq_some_iff.mp ht
  obtain ⟨y, qy, ht2⟩ := Option.bind_eq_some_iff.mp ht1
  cases ht2
  obtain ⟨en1, e1, h1⟩ := a en hf _ qx
  obtain ⟨en2, e2, h2⟩ := b en1 h1 _ qy
  exact ⟨en2, by simp [e1, e2], h2⟩
def parC : List Nat → List PV → Ctx → Ctx
  | i :: is, .d x :: r, Γ => parC is r (Γ.set i (.k (.d x)))
  | i :: is, .l x :: r, Γ => parC is r (Γ.set i (.k (.l x)))
  | _, _, Γ => Γ
theorem fits_par : ∀ (is : List Nat) (vs : List PV) {Γ : Ctx} {en : En}, is.length = vs.length → (∀ i ∈ is, opn Γ i = true) → Fits Γ en → ∃ en', parSet is vs en = some en' ∧ Fits (parC is vs Γ) en'
  | [], [], Γ, en, _, _, h => ⟨en, rfl, h⟩
  | [], _ :: _, _, _, hl, _, _ => by simp at hl
  | _ :: _, [], _, _, hl, _, _ => by simp at hl
  | i :: is, v :: vs, Γ, en, hl, ho, h => by
    have h0 := opn_of h (ho i (by simp))
    have opset : ∀ (j : Nat) (s : Sl), opn Γ j = true → (∀ y, s ≠ .k (.p y)) → opn (Γ.set i s) j = true := fun j s hj hs => by
      unfold opn at hj ⊢
      by_cases e : i = j
      · subst e
        have hi : i < Γ.length := by
          by_cases q : i < Γ.length
          · exact q
          · rw [List.getElem?_eq_none (by omega)] at hj
            cases hj
        rw [List.getElem?_set_self hi]
        cases s with
        | k s => cases s with
          | d x => rfl
          | l x => rfl
          | p x => exact absurd rfl (hs x)
        | z x => rfl
        | o => rfl
        | a => rfl
      · rw [List.getElem?_set_ne e]
        exact hj
    cases v with
    | d x =>
      obtain ⟨en', e1, h1⟩ := fits_par is vs (by simpa using hl) (fun j hj => opset j (.k (.d x)) (ho j (by simp [hj])) (fun y e => by cases e)) (fits_set (s := .k (.d x)) (x := some (.d x)) rfl i h)
      exact ⟨en', by simp [h0, e1], h1⟩
    | l x =>
      obtain ⟨en', e1, h1⟩ := fits_par is vs (by simpa using hl) (fun j hj => opset j (.k (.l x)) (ho j (by simp [hj])) (fun y e => by cases e)) (fits_set (s := .k (.l x)) (x := some (.l x)) rfl i h)
      exact ⟨en', by simp [h0, e1], h1⟩
theorem pn_par {is : List Nat} {q : PF} {A : Option τ} {w : τ → List PV} (a : PQ Γ q A w) (hl : ∀ t, is.length = (w t).length := by exact fun _ => rfl) (ho : is.all (opn Γ) = true := by rfl) : PN Γ (sPar is q) A fun t => parC is (w t) Γ := fun en hf t ht => by
  obtain ⟨en1, e1, h1⟩ := a en hf t ht
  obtain ⟨en2, e2, h2⟩ := fits_par is (w t) (hl t) (List.all_eq_true.mp ho) h1
  exact ⟨en2, by simp [e1, e2], h2⟩
/-! with the draws' state -/
section
variable {σ : Type} {C : σ → Ctx} {s : σ} {F : σ → Option (PyData × σ)}
theorem sn_asg {G : GF} {U : PyData → Option τ} {Δ : τ → σ → Ctx} (a : SD C f F) (b : ∀ s, PGt (C s) G U fun t => Δ t s) : PN (C s) (sAsg G f) ((F s).bind fun r => (U r.1).map fun t => (t, r.2)) fun q => Δ q.1 q.2 := fun en hf t ht => by
  obtain ⟨x, qx, ht1⟩ := Option.bind_eq_some_iff.mp ht
  obtain ⟨u, qu, rfl⟩ := Option.map_eq_some_iff.mp ht1
  obtain ⟨en1, e1, h1⟩ := a s en hf x qx
  obtain ⟨en2, e2, h2⟩ := b _ x.1 en1 h1 u qu
  exact ⟨en2, by simp [e1, e2], h2⟩
theorem sn_set (a : SD C f F) (h : ∀ s, opn (C s) i = true) : PN (C s) (sAsg (gSet i) f) (F s) fun q => (C q.2).set i (.k (.d q.1)) := fun en hf t ht => by
  obtain ⟨en1, e1, h1⟩ := a s en hf t ht
  obtain ⟨en2, e2, h2⟩ := pg_set (h t.2) t.1 en1 h1 t.1 rfl
  exact ⟨en2, by simp only [x_sAsg, e1, Option.bind_some, e2], h2⟩
theorem sn_setL {l : LF} {A : σ → Option (List PyData × σ)} (a : SLs C l A) (h : ∀ s, opn (C s) i = true) : PN (C s) (sAsgL i l) (A s) fun q => (C q.2).set i (.k (.l q.1)) := fun en hf t ht => by
  obtain ⟨en1, e1, h1⟩ := a s en hf t ht
  exact ⟨en1.set i (some (.l t.1)), by simp [e1, opn_of h1 (h _)], fits_set (s := .k (.l t.1)) (x := some (.l t.1)) rfl i h1⟩
theorem sn_drop (a : SD C f F) : PN (C s) (sDrop f) (F s) fun q => C q.2 := fun en hf t ht => by
  obtain ⟨en1, e1, h1⟩ := a s en hf t ht
  exact ⟨en1, by simp [e1], h1⟩
@[simp] def sApp_ (xs : List PyData) (F : σ → Option (PyData × σ)) (s : σ) : Option (List PyData × σ) := (F s).bind fun r => if xs.length < sizeLine then some (xs ++ [r.1], r.2) else none
theorem sn_app {xs : List PyData} (a : SD C f F) (h : ∀ s, (C s)[i]? = some (.k (.l xs))) : PN (C s) (sApp i f) (sApp_ xs F s) fun q => (C q.2).set i (.k (.l q.1)) := fun en hf t ht => by
  obtain ⟨y, qy, ht1⟩ := Option.bind_eq_some_iff.mp ht
  split at ht1
  · rename_i c
    cases ht1
    obtain ⟨en1, e1, h1⟩ := a s en hf _ qy
    obtain ⟨v, e2, e3⟩ := fits_get hf (h _)
    obtain ⟨v1, e4, e5⟩ := fits_get h1 (h _)
    cases e3
    cases e5
    refine ⟨en1.set i (some (.l (xs ++ [y.1]))), ?_, fits_set (s := .k (.l (xs ++ [y.1]))) (x := some (.l (xs ++ [y.1]))) rfl i h1⟩
    have l0 : live en i = some xs := by simp [live, e2]
    have l1 : live en1 i = some xs := by simp [live, e4]
    simp only [x_sApp, l0, l1, e1, Option.bind_some]
    rw [if_pos c]
    simp [putL, e4]
  · cases ht1
theorem sn_aug {o : PyData → PyData → Option PyData} {x : PyData} (a : SD C f F) (h : ∀ s, (C s)[i]? = some (.k (.d x))) : PN (C s) (sAug i o f) (sM (o x) F s) fun q => (C q.2).set i (.k (.d q.1)) := fun en hf t ht => by
  obtain ⟨y, qy, ht1⟩ := Option.bind_eq_some_iff.mp ht
  obtain ⟨z, qz, rfl⟩ := Option.map_eq_some_iff.mp ht1
  obtain ⟨en1, e1, h1⟩ := a s en hf _ qy
  obtain ⟨v, e3, e4⟩ := fits_get hf (h _)
  cases e4
  have ho : open_ en1 i = true := opn_of h1 (by unfold opn; rw [h])
  exact ⟨en1.set i (some (.d z)), by simp [e3, e1, qz, ho], fits_set (s := .k (.d z)) (x := some (.d z)) rfl i h1⟩
def SQ (C : σ → Ctx) (q : PF) (A : σ → Option (τ × σ)) (w : τ → List PV) : Prop := ∀ s en, Fits (C s) en → ∀ t, A s = some t → ∃ en', q en = some (w t.1, en') ∧ Fits (C t.2) en'
theorem sq_nil : SQ C pNil (sL (some ())) fun _ => [] := fun s en hf t ht => by
  cases ht
  exact ⟨en, rfl, hf⟩
theorem sq_e {q : PF} {A : σ → Option (τ × σ)} {w : τ → List PV} (a : SD C f F) (b : SQ C q A w) : SQ C (pE f q) (sB F fun x => sM (fun t => some (x, t)) A) fun t => .d t.1 :: w t.2 := fun s en hf t ht => by
  obtain ⟨x, qx, ht1⟩ := Option.bind_eq_some_iff.mp ht
  obtain ⟨y, qy, ht2⟩ := Option.bind_eq_some_iff.mp ht1
  cases ht2
  obtain ⟨en1, e1, h1⟩ := a s en hf _ qx
  obtain ⟨en2, e2, h2⟩ := b _ en1 h1 _ qy
  exact ⟨en2, by simp [e1, e2], h2⟩
theorem sq_l {q : PF} {l : LF} {L : σ → Option (List PyData × σ)} {A : σ → Option (τ × σ)} {w : τ → List PV} (a : SLs C l L) (b : SQ C q A w) : SQ C (pL l q) (sB L fun x => sM (fun t => some (x, t)) A) fun t => .l t.1 :: w t.2 := fun s en hf t ht => by
  obtain ⟨x, qx, ht1⟩ := Option.bind_eq_some_iff.mp ht
  obtain ⟨y, qy, ht2⟩ := Option.bind_eq_some_iff.mp ht1
  cases ht2
  obtain ⟨en1, e1, h1⟩ := a s en hf _ qx
  obtain ⟨en2, e2, h2⟩ := b _ en1 h1 _ qy
  exact ⟨en2, by simp [e1, e2], h2⟩
theorem sn_par {is : List Nat} {q : PF} {A : σ → Option (τ × σ)} {w : τ → List PV} (a : SQ C q A w) (hl : ∀ t, is.length = (w t).length := by exact fun _ => rfl) (ho : ∀ s, is.all (opn (C s)) = true) : PN (C s) (sPar is q) (A s) fun t => parC is (w t.1) (C t.2) := fun en hf t ht => by
  obtain ⟨en1, e1, h1⟩ := a s en hf t ht
  obtain ⟨en2, e2, h2⟩ := fits_par is (w t.1) (hl _) (List.all_eq_true.mp (ho _)) h1
  exact ⟨en2, by simp [e1, e2], h2⟩
end
/-! rows -/
section
variable {υ : Type} {a b : SF} {A : Option τ} {B : τ → Option υ} {Δ : τ → Ctx} {Δ' : υ → Ctx} {c : TF} {T : Option Bool}
theorem pn_seq (h : PN Γ a A Δ) (k : ∀ t, PN (Δ t) b (B t) Δ') : PN Γ (sSeq a b) (A.bind B) Δ' := fun en hf t ht => by
  obtain ⟨x, qx, ht1⟩ := Option.bind_eq_some_iff.mp ht
  obtain ⟨en1, e1, h1⟩ := h en hf _ qx
  obtain ⟨en2, e2, h2⟩ := k x en1 h1 _ ht1
  exact ⟨en2, by simp [e1, e2], h2⟩
/-- the last one: what is handed on -/
theorem pn_end {y : τ → υ} (h : PN Γ a A Δ) (k : ∀ t, WkC (Δ t) (Δ' (y t))) : PN Γ a (A.bind fun t => some (y t)) Δ' := fun en hf t ht => by
  obtain ⟨x, qx, ht1⟩ := Option.bind_eq_some_iff.mp ht
  cases ht1
  obtain ⟨en1, e1, h1⟩ := h en hf _ qx
  exact ⟨en1, e1, wkC_fits (k x) h1⟩
theorem pn_nil {y : υ} (k : WkC Γ (Δ' y)) : PN Γ sNil (some y) Δ' := fun en hf t ht => by
  cases ht
  exact ⟨en, rfl, wkC_fits k hf⟩
theorem pn_never : PN Γ sNever none Δ := fun en hf t ht => by cases ht
theorem pn_raise {B : Option υ} (t : PT_ Γ c T) (k : PN Γ b B Δ') : PN Γ (sSeq (sIf c sNever sNil) b) (pIfE T none B) Δ' := fun en hf r hr => by
  obtain ⟨x, qx, hr1⟩ := Option.bind_eq_some_iff.mp hr
  obtain ⟨en1, e1, h1⟩ := t en hf _ qx
  cases x with
  | true => cases hr1
  | false =>
    obtain ⟨en2, e2, h2⟩ := k en1 h1 _ (by simpa using hr1)
    exact ⟨en2, by simp [e1, e2], h2⟩
theorem pn_wk {Γ' : Ctx} (k : WkC Γ Γ') (h : PN Γ' a A Δ) : PN Γ a A Δ := fun en hf t ht => h en (wkC_fits k hf) t ht
theorem pn_if {A' : Option τ} (t : PT_ Γ c T) (h : PN Γ a A Δ) (k : PN Γ b A' Δ) : PN Γ (sIf c a b) (pIfE T A A') Δ := fun en hf r hr => by
  obtain ⟨x, qx, hr1⟩ := Option.bind_eq_some_iff.mp hr
  obtain ⟨en1, e1, h1⟩ := t en hf _ qx
  cases x with
  | true =>
    obtain ⟨en2, e2, h2⟩ := h en1 h1 _ (by simpa using hr1)
    exact ⟨en2, by simp [e1, e2], h2⟩
  | false =>
    obtain ⟨en2, e2, h2⟩ := k en1 h1 _ (by simpa using hr1)
    exact ⟨en2, by simp [e1, e2], h2⟩
theorem sn_if {σ : Type} {C : σ → Ctx} {s : σ} {T : σ → Option (Bool × σ)} {A A' : σ → Option τ} (t : STb C c T) (h : ∀ s, PN (C s) a (A s) Δ) (k : ∀ s, PN (C s) b (A' s) Δ) : PN (C s) (sIf c a b) (sIfE T A A' s) Δ := fun en hf r hr => by
  obtain ⟨x, qx, hr1⟩ := Option.bind_eq_some_iff.mp hr
  obtain ⟨en1, e1, h1⟩ := t s en hf _ qx
  by_cases w : x.1 = true
  · rw [if_pos w] at hr1
    obtain ⟨en2, e2, h2⟩ := h _ en1 h1 _ hr1
    exact ⟨en2, by simp [e1, e2, w], h2⟩
  · rw [if_neg w] at hr1
    obtain ⟨en2, e2, h2⟩ := k _ en1 h1 _ hr1
    exact ⟨en2, by simp [e1, e2, w], h2⟩
/-! that return -/
variable {ρ : Type} {w : Bool} {v : ρ → PyData} {J : ρ → En → Prop} {R R' : Option ρ}
abbrev NoJ {ρ : Type} : ρ → En → Prop := fun _ _ => True
/-- the draws' state is back in its slot -/
abbrev StJ (i : Nat) : PyData × List PyData → En → Prop := fun r en => en[i]? = some (some (.p r.2))
theorem pr_ret (a : PD Γ f E) : PR w Γ (sRet f) E id NoJ := fun en hf r hr => by
  obtain ⟨en1, e1, h1⟩ := a en hf r hr
  exact ⟨.rt r, en1, by simp [e1], .inl rfl, trivial⟩
theorem pr_retP {S : List PyData} (a : PD Γ f E) (h : Γ[i]? = some (.k (.p S)) := by rfl) : PR w Γ (sRet f) (E.map fun x => (x, S)) Prod.fst (StJ i) := fun en hf r hr => by
  obtain ⟨x, qx, rfl⟩ := Option.map_eq_some_iff.mp hr
  obtain ⟨en1, e1, h1⟩ := a en hf x qx
  obtain ⟨y, e2, e3⟩ := fits_get h1 h
  cases e3
  exact ⟨.rt x, en1, by simp [e1], .inl rfl, e2⟩
theorem sr_ret {C : List PyData → Ctx} {F : List PyData → Option (PyData × List PyData)} {s : List PyData} (a : SD C f F) (h : ∀ s, (C s)[i]? = some (.k (.p s))) : PR w (C s) (sRet f) (F s) Prod.fst (StJ i) := fun en hf r hr => by
  obtain ⟨en1, e1, h1⟩ := a s en hf r hr
  obtain ⟨y, e2, e3⟩ := fits_get h1 (h _)
  cases e3
  exact ⟨.rt r.1, en1, by simp [e1], .inl rfl, e2⟩
/-- as pr_ret, where a state runs beside (in law itself) -/
theorem sr_retL {σ : Type} {C : σ → Ctx} {F : σ → Option (PyData × σ)} {s : σ} (a : SD C f F) : PR w (C s) (sRet f) ((F s).map Prod.fst) id NoJ := fun en hf r hr => by
  obtain ⟨x, qx, rfl⟩ := Option.map_eq_some_iff.mp hr
  obtain ⟨en1, e1, h1⟩ := a s en hf x qx
  exact ⟨.rt x.1, en1, by simp [e1], .inl rfl, trivial⟩
theorem pr_retN : PR w Γ sRetN (some .none) id NoJ := fun en hf r hr => by
  cases hr
  exact ⟨.rt .none, en, rfl, .inl rfl, trivial⟩
theorem pr_never : PR w Γ sNever (none : Option ρ) v J := fun en hf r hr => by cases hr
theorem pr_seq {B : τ → Option ρ} (h : PN Γ a A Δ) (k : ∀ t, PR w (Δ t) b (B t) v J) : PR w Γ (sSeq a b) (A.bind B) v J := fun en hf t ht => by
  obtain ⟨x, qx, ht1⟩ := Option.bind_eq_some_iff.mp ht
  obtain ⟨en1, e1, h1⟩ := h en hf _ qx
  obtain ⟨o, en2, e2, h2⟩ := k x en1 h1 _ ht1
  exact ⟨o, en2, by simp [e1, e2], h2⟩
theorem pr_wk {Γ' : Ctx} (k : WkC Γ Γ') (h : PR w Γ' a R v J) : PR w Γ a R v J := fun en hf t ht => h en (wkC_fits k hf) t ht
theorem pr_guard (t : PT_ Γ c T) (h : PR false Γ a R v J) (k : PR w Γ b R' v J) : PR w Γ (sSeq (sIf c a sNil) b) (pIfE T R R') v J := fun en hf r hr => by
  obtain ⟨x, qx, hr1⟩ := Option.bind_eq_some_iff.mp hr
  obtain ⟨en1, e1, h1⟩ := t en hf _ qx
  cases x with
  | true =>
    obtain ⟨o, en2, e2, h2, h3⟩ := h en1 h1 _ (by simpa using hr1)
    rcases h2 with h2 | ⟨h2, _⟩
    · exact ⟨o, en2, by simp [e1, e2, h2], .inl h2, h3⟩
    · cases h2
  | false =>
    obtain ⟨o, en2, e2, h2⟩ := k en1 h1 _ (by simpa using hr1)
    exact ⟨o, en2, by simp [e1, e2], h2⟩
theorem pr_if (t : PT_ Γ c T) (h : PR w Γ a R v J) (k : PR w Γ b R' v J) : PR w Γ (sIf c a b) (pIfE T R R') v J := fun en hf r hr => by
  obtain ⟨x, qx, hr1⟩ := Option.bind_eq_some_iff.mp hr
  obtain ⟨en1, e1, h1⟩ := t en hf _ qx
  cases x with
  | true =>
    obtain ⟨o, en2, e2, h2⟩ := h en1 h1 _ (by simpa using hr1)
    exact ⟨o, en2, by simp [e1, e2], h2⟩
  | false =>
    obtain ⟨o, en2, e2, h2⟩ := k en1 h1 _ (by simpa using hr1)
    exact ⟨o, en2, by simp [e1, e2], h2⟩
theorem sr_guard {σ : Type} {C : σ → Ctx} {s : σ} {T : σ → Option (Bool × σ)} {R R' : σ → Option ρ} (t : STb C c T) (h : ∀ s, PR false (C s) a (R s) v J) (k : ∀ s, PR w (C s) b (R' s) v J) : PR w (C s) (sSeq (sIf c a sNil) b) (sIfE T R R' s) v J := fun en hf r hr => by
  obtain ⟨x, qx, hr1⟩ := Option.bind_eq_some_iff.mp hr
  obtain ⟨en1, e1, h1⟩ := t s en hf _ qx
  by_cases q : x.1 = true
  · rw [if_pos q] at hr1
    obtain ⟨o, en2, e2, h2, h3⟩ := h _ en1 h1 _ hr1
    rcases h2 with h2 | ⟨h2, _⟩
    · exact ⟨o, en2, by simp [e1, e2, h2, q], .inl h2, h3⟩
    · cases h2
  · rw [if_neg q] at hr1
    obtain ⟨o, en2, e2, h2⟩ := k _ en1 h1 _ hr1
    exact ⟨o, en2, by simp [e1, e2, q], h2⟩
theorem sr_if {σ : Type} {C : σ → Ctx} {s : σ} {T : σ → Option (Bool × σ)} {R R' : σ → Option ρ} (t : STb C c T) (h : ∀ s, PR w (C s) a (R s) v J) (k : ∀ s, PR w (C s) b (R' s) v J) : PR w (C s) (sIf c a b) (sIfE T R R' s) v J := fun en hf r hr => by
  obtain ⟨x, qx, hr1⟩ := Option.bind_eq_some_iff.mp hr
  obtain ⟨en1, e1, h1⟩ := t s en hf _ qx
  by_cases q : x.1 = true
  · rw [if_pos q] at hr1
    obtain ⟨o, en2, e2, h2⟩ := h _ en1 h1 _ hr1
    exact ⟨o, en2, by simp [e1, e2, q], h2⟩
  · rw [if_neg q] at hr1
    obtain ⟨o, en2, e2, h2⟩ := k _ en1 h1 _ hr1
    exact ⟨o, en2, by simp [e1, e2, q], h2⟩
/-- the end of a def that returns nothing -/
theorem pr_end (h : PN Γ a A Δ) : PR true Γ a (A.bind fun _ => some PyData.none) id NoJ := fun en hf r hr => by
  obtain ⟨x, qx, hr1⟩ := Option.bind_eq_some_iff.mp hr
  cases hr1
  obtain ⟨en1, e1, h1⟩ := h en hf _ qx
  exact ⟨.nx, en1, e1, .inr ⟨rfl, rfl, rfl⟩, trivial⟩
theorem pr_nil : PR true Γ sNil (some PyData.none) id NoJ := fun en hf r hr => by
  cases hr
  exact ⟨.nx, en, rfl, .inr ⟨rfl, rfl, rfl⟩, trivial⟩
/-! with several ways out -/
variable {κ : Type} {Λ : κ → Ctx} {N : τ → En → Prop}
theorem po_N {A : Option τ} (h : PN Γ a A Δ) : PO (ρ := ρ) Γ a (A.map Oc.nx) (FtN Δ) Λ v J := fun en hf o ho => by
  obtain ⟨x, qx, rfl⟩ := Option.map_eq_some_iff.mp ho
  obtain ⟨en1, e1, h1⟩ := h en hf _ qx
  exact ⟨_, en1, e1, rfl, h1⟩
theorem po_R (h : PR false Γ a R v J) : PO Γ a (R.map Oc.rt) N Λ v J := fun en hf o ho => by
  obtain ⟨x, qx, rfl⟩ := Option.map_eq_some_iff.mp ho
  obtain ⟨o, en1, e1, h1, h2⟩ := h en hf _ qx
  rcases h1 with h1 | ⟨h1, _⟩
  · exact ⟨_, en1, e1, h1, h2⟩
  · cases h1
theorem po_cont {y : κ} (k : WkC Γ (Λ y)) : PO Γ sCont (some (Oc.ct y)) N Λ v J := fun en hf o ho => by
  cases ho
  exact ⟨_, en, rfl, rfl, wkC_fits k hf⟩
theorem po_break {y : κ} (k : WkC Γ (Λ y)) : PO Γ sBreak (some (Oc.bk y)) N Λ v J := fun en hf o ho => by
  cases ho
  exact ⟨_, en, rfl, rfl, wkC_fits k hf⟩
theorem po_never : PO Γ sNever none N Λ v J := fun en hf r hr => by cases hr
theorem po_wk {Γ' : Ctx} {B : Option (Oc ρ κ τ)} (k : WkC Γ Γ') (h : PO Γ' a B N Λ v J) : PO Γ a B N Λ v J := fun en hf t ht => h en (wkC_fits k hf) t ht
theorem po_seqN {A : Option υ} {B : υ → Option (Oc ρ κ τ)} (h : PN Γ a A Δ') (k : ∀ t, PO (Δ' t) b (B t) N Λ v J) : PO Γ (sSeq a b) (A.bind B) N Λ v J := fun en hf o ho => by
  obtain ⟨x, qx, ho1⟩ := Option.bind_eq_some_iff.mp ho
  obtain ⟨en1, e1, h1⟩ := h en hf _ qx
  obtain ⟨out, en2, e2, h2⟩ := k x en1 h1 _ ho1
  exact ⟨out, en2, by simp [e1, e2], h2⟩
def thenO {ρ κ τ υ : Type} (A : Option (Oc ρ κ υ)) (B : υ → Option (Oc ρ κ τ)) : Option (Oc ρ κ τ) := A.bind fun o => match o with
  | .nx t => B t
  | .ct k => some (.ct k)
  | .bk k => some (.bk k)
  | .rt r => some (.rt r)
@[simp] theorem thenO_nx {ρ κ τ υ : Type} {B : υ → Option (Oc ρ κ τ)} {t : υ} : thenO (some (.nx t)) B = B t := rfl
@[simp] theorem thenO_rt {ρ κ τ υ : Type} {B : υ → Option (Oc ρ κ τ)} {t : ρ} : thenO (some (.rt t)) B = some (.rt t) := rfl
@[simp] theorem thenO_bk {ρ κ τ υ : Type} {B : υ → Option (Oc ρ κ τ)} {t : κ} : thenO (some (.bk t)) B = some (.bk t) := rfl
@[simp] theorem thenO_ct {ρ κ τ υ : Type} {B : υ → Option (Oc ρ κ τ)} {t : κ} : thenO (some (.ct t)) B = some (.ct t) := rfl
theorem po_seqO {A : Option (Oc ρ κ υ)} {B : υ → Option (Oc ρ κ τ)} (h : PO Γ a A (FtN Δ') Λ v J) (k : ∀ t, PO (Δ' t) b (B t) N Λ v J) : PO Γ (sSeq a b) (thenO A B) N Λ v J := fun en hf o ho => by
  obtain ⟨x, qx, ho1⟩ := Option.bind_eq_some_iff.mp ho
  obtain ⟨out, en1, e1, h1⟩ := h en hf _ qx
  cases x with
  | nx t =>
    obtain ⟨rfl, h1⟩ := h1
    obtain ⟨out, en2, e2, h2⟩ := k t en1 h1 _ ho1
    exact ⟨out, en2, by simp [e1, e2], h2⟩
  | ct t =>
    cases ho1
    obtain ⟨rfl, h1⟩ := h1
    exact ⟨_, en1, by simp [e1], rfl, h1⟩
  | bk t =>
    cases ho1
    obtain ⟨rfl, h1⟩ := h1
    exact ⟨_, en1, by simp [e1], rfl, h1⟩
  | rt t =>
    cases ho1
    obtain ⟨rfl, h1⟩ := h1
    exact ⟨_, en1, by simp [e1], rfl, h1⟩
theorem po_if {B B' : Option (Oc ρ κ τ)} (t : PT_ Γ c T) (h : PO Γ a B N Λ v J) (k : PO Γ b B' N Λ v J) : PO Γ (sIf c a b) (pIfE T B B') N Λ v J := fun en hf r hr => by
  obtain ⟨x, qx, hr1⟩ := Option.bind_eq_some_iff.mp hr
  obtain ⟨en1, e1, h1⟩ := t en hf _ qx
  cases x with
  | true =>
    obtain ⟨o, en2, e2, h2⟩ := h en1 h1 _ (by simpa using hr1)
    exact ⟨o, en2, by simp [e1, e2], h2⟩
  | false =>
    obtain ⟨o, en2, e2, h2⟩ := k en1 h1 _ (by simpa using hr1)
    exact ⟨o, en2, by simp [e1, e2], h2⟩
theorem so_if {σ : Type} {C : σ → Ctx} {s : σ} {T : σ → Option (Bool × σ)} {B B' : σ → Option (Oc ρ κ τ)} (t : STb C c T) (h : ∀ s, PO (C s) a (B s) N Λ v J) (k : ∀ s, PO (C s) b (B' s) N Λ v J) : PO (C s) (sIf c a b) (sIfE T B B' s) N Λ v J := fun en hf r hr => by
  obtain ⟨x, qx, hr1⟩ := Option.bind_eq_some_iff.mp hr
  obtain ⟨en1, e1, h1⟩ := t s en hf _ qx
  by_cases q : x.1 = true
  · rw [if_pos q] at hr1
    obtain ⟨o, en2, e2, h2⟩ := h _ en1 h1 _ hr1
    exact ⟨o, en2, by simp [e1, e2, q], h2⟩
  · rw [if_neg q] at hr1
    obtain ⟨o, en2, e2, h2⟩ := k _ en1 h1 _ hr1
    exact ⟨o, en2, by simp [e1, e2, q], h2⟩
theorem po_nil {y : τ} {Δ : τ → Ctx} (k : WkC Γ (Δ y)) : PO (ρ := ρ) Γ sNil (some (Oc.nx y)) (FtN Δ) Λ v J := fun en hf o ho => by
  cases ho
  exact ⟨_, en, rfl, rfl, wkC_fits k hf⟩
/-- c: leave; else on -/
theorem po_guard {B B' : Option (Oc ρ κ τ)} (t : PT_ Γ c T) (h : PO Γ a B NoN Λ v J) (k : PO Γ b B' N Λ v J) : PO Γ (sSeq (sIf c a sNil) b) (pIfE T B B') N Λ v J := fun en hf r hr => by
  obtain ⟨x, qx, hr1⟩ := Option.bind_eq_some_iff.mp hr
  obtain ⟨en1, e1, h1⟩ := t en hf _ qx
  cases x with
  | true =>
    obtain ⟨o, en2, e2, h2⟩ := h en1 h1 _ (by simpa using hr1)
    cases r with
    | nx t => exact h2.2.elim
    | ct t => obtain ⟨rfl, h2⟩ := h2; exact ⟨_, en2, by simp [e1, e2], rfl, h2⟩
    | bk t => obtain ⟨rfl, h2⟩ := h2; exact ⟨_, en2, by simp [e1, e2], rfl, h2⟩
    | rt t => obtain ⟨rfl, h2⟩ := h2; exact ⟨_, en2, by simp [e1, e2], rfl, h2⟩
  | false =>
    obtain ⟨o, en2, e2, h2⟩ := k en1 h1 _ (by simpa using hr1)
    exact ⟨o, en2, by simp [e1, e2], h2⟩
theorem so_guard {σ : Type} {C : σ → Ctx} {s : σ} {T : σ → Option (Bool × σ)} {B B' : σ → Option (Oc ρ κ τ)} (t : STb C c T) (h : ∀ s, PO (C s) a (B s) NoN Λ v J) (k : ∀ s, PO (C s) b (B' s) N Λ v J) : PO (C s) (sSeq (sIf c a sNil) b) (sIfE T B B' s) N Λ v J := fun en hf r hr => by
  obtain ⟨x, qx, hr1⟩ := Option.bind_eq_some_iff.mp hr
  obtain ⟨en1, e1, h1⟩ := t s en hf _ qx
  by_cases q : x.1 = true
  · rw [if_pos q] at hr1
    obtain ⟨o, en2, e2, h2⟩ := h _ en1 h1 _ hr1
    cases r with
    | nx t => exact h2.2.elim
    | ct t => obtain ⟨rfl, h2⟩ := h2; exact ⟨_, en2, by simp [e1, e2, q], rfl, h2⟩
    | bk t => obtain ⟨rfl, h2⟩ := h2; exact ⟨_, en2, by simp [e1, e2, q], rfl, h2⟩
    | rt t => obtain ⟨rfl, h2⟩ := h2; exact ⟨_, en2, by simp [e1, e2, q], rfl, h2⟩
  · rw [if_neg q] at hr1
    obtain ⟨o, en2, e2, h2⟩ := k _ en1 h1 _ hr1
    exact ⟨o, en2, by simp [e1, e2, q], h2⟩
/-- the end of a loop's body: what the next turn has -/
theorem po_end {y : υ → τ} {A : Option υ} {Δ : τ → Ctx} (h : PN Γ a A Δ') (k : ∀ t, WkC (Δ' t) (Δ (y t))) : PO (ρ := ρ) Γ a (A.bind fun t => some (Oc.nx (y t))) (FtN Δ) Λ v J := fun en hf t ht => by
  obtain ⟨x, qx, ht1⟩ := Option.bind_eq_some_iff.mp ht
  cases ht1
  obtain ⟨en1, e1, h1⟩ := h en hf _ qx
  exact ⟨_, en1, e1, rfl, wkC_fits (k x) h1⟩
/-- a way that is left, in a def: the rest returns -/
def thenR {ρ τ : Type} (A : Option (Oc ρ Empty τ)) (B : τ → Option ρ) : Option ρ := A.bind fun o => match o with
  | .nx t => B t
  | .rt r => some r
@[simp] theorem thenR_nx {ρ τ : Type} {B : τ → Option ρ} {t : τ} : thenR (some (.nx t)) B = B t := rfl
@[simp] theorem thenR_rt {ρ τ : Type} {B : τ → Option ρ} {t : ρ} : thenR (some (.rt t)) B = some t := rfl
abbrev NoC : Empty → Ctx := fun e => nomatch e
theorem pr_seqO {A : Option (Oc ρ Empty τ)} {B : τ → Option ρ} (h : PO Γ a A (FtN Δ) NoC v J) (k : ∀ t, PR w (Δ t) b (B t) v J) : PR w Γ (sSeq a b) (thenR A B) v J := fun en hf r hr => by
  obtain ⟨x, qx, hr1⟩ := Option.bind_eq_some_iff.mp hr
  obtain ⟨out, en1, e1, h1⟩ := h en hf _ qx
  cases x with
  | nx t =>
    obtain ⟨rfl, h1⟩ := h1
    obtain ⟨out, en2, e2, h2⟩ := k t en1 h1 _ hr1
    exact ⟨out, en2, by simp [e1, e2], h2⟩
  | ct t => cases t
  | bk t => cases t
  | rt t =>
    cases hr1
    obtain ⟨rfl, h1⟩ := h1
    exact ⟨_, en1, by simp [e1], .inl rfl, h1⟩
theorem pr_endO {A : Option (Oc PyData Empty τ)} (h : PO Γ a A (FtN Δ) NoC id NoJ) : PR true Γ a (thenR A fun _ => some PyData.none) id NoJ := fun en hf r hr => by
  obtain ⟨x, qx, hr1⟩ := Option.bind_eq_some_iff.mp hr
  obtain ⟨out, en1, e1, h1⟩ := h en hf _ qx
  cases x with
  | nx t =>
    cases hr1
    obtain ⟨rfl, h1⟩ := h1
    exact ⟨_, en1, e1, .inr ⟨rfl, rfl, rfl⟩, trivial⟩
  | ct t => cases t
  | bk t => cases t
  | rt t =>
    cases hr1
    obtain ⟨rfl, h1⟩ := h1
    exact ⟨_, en1, e1, .inl rfl, trivial⟩
end
/-! ### loops -/
section
variable {κ ρ υ κ' : Type}
def foldP (F : PyData → κ → Option κ) : List PyData → κ → Option κ
  | [], s => some s
  | x :: xs, s => (F x s).bind (foldP F xs)
def forP (F : PyData → κ → Option (Oc ρ κ κ)) : List PyData → κ → Option (Oc ρ κ' κ)
  | [], s => some (.nx s)
  | x :: xs, s => (F x s).bind fun o => match o with
    | .nx t => forP F xs t
    | .ct t => forP F xs t
    | .bk t => some (.nx t)
    | .rt r => some (.rt r)
def whP (T : κ → Option Bool) (F : κ → Option κ) : Nat → κ → Option κ
  | 0, _ => none
  | n + 1, s => (T s).bind fun b => if b = true then (F s).bind (whP T F n) else some s
def whO (T : κ → Option Bool) (F : κ → Option (Oc ρ κ κ)) : Nat → κ → Option (Oc ρ κ' κ)
  | 0, _ => none
  | n + 1, s => (T s).bind fun b => if b = true then (F s).bind (fun o => match o with
    | .nx t => whO T F n t
    | .ct t => whO T F n t
    | .bk t => some (.nx t)
    | .rt r => some (.rt r)) else some (.nx s)
@[simp] def pFold (I : Option (List PyData)) (F : PyData → κ → Option κ) (s : κ) : Option κ := I.bind fun xs => foldP F xs s
@[simp] def pFor (I : Option (List PyData)) (F : PyData → κ → Option (Oc ρ κ κ)) (s : κ) : Option (Oc ρ κ' κ) := I.bind fun xs => forP F xs s
/-- a loop that no return leaves -/
def nxO {α : Type} : Option (Oc Empty Empty α) → Option α
  | some (.nx t) => some t
  | _ => none
@[simp] theorem nxO_nx {α : Type} {t : α} : nxO (some (.nx t)) = some t := rfl
abbrev NoV : Empty → PyData := fun e => nomatch e
variable {it : IF} {G : GF} {b : SF} {Λ : κ → Ctx} {Λ' : κ' → Ctx} {U : PyData → Option υ} {Δ : κ → υ → Ctx} {v : ρ → PyData} {J : ρ → En → Prop}
theorem foldP_go {B : κ → υ → Option κ} (hg : ∀ s, PGt (Λ s) G U (Δ s)) (hb : ∀ s t, PN (Δ s t) b (B s t) Λ) : ∀ {xs : List PyData} {s s' : κ} {en : En}, Fits (Λ s) en → foldP (fun x s => (U x).bind fun t => B s t) xs s = some s' → ∃ en', forL G b xs en = some (.nx, en') ∧ Fits (Λ s') en'
  | [], s, s', en, hf, h => by
    cases h
    exact ⟨en, rfl, hf⟩
  | x :: xs, s, s', en, hf, h => by
    obtain ⟨s1, h1, h2⟩ := Option.bind_eq_some_iff.mp h
    obtain ⟨t, h3, h4⟩ := Option.bind_eq_some_iff.mp h1
    obtain ⟨en1, e1, k1⟩ := hg s x en hf t h3
    obtain ⟨en2, e2, k2⟩ := hb s t en1 k1 _ h4
    obtain ⟨en3, e3, k3⟩ := foldP_go hg hb k2 h2
    exact ⟨en3, by rw [x_forL1, e1, Option.bind_some, e2, Option.bind_some]; exact e3, k3⟩
theorem forP_go {B : κ → υ → Option (Oc ρ κ κ)} (hg : ∀ s, PGt (Λ s) G U (Δ s)) (hb : ∀ s t, PO (Δ s t) b (B s t) (FtN Λ) Λ v J) : ∀ {xs : List PyData} {s : κ} {o : Oc ρ κ' κ} {en : En}, Fits (Λ s) en → forP (fun x s => (U x).bind fun t => B s t) xs s = some o → ∃ out en', forL G b xs en = some (out, en') ∧ OcOk (FtN Λ) Λ' v J o out en'
  | [], s, o, en, hf, h => by
    cases h
    exact ⟨_, en, rfl, rfl, hf⟩
  | x :: xs, s, o, en, hf, h => by
    obtain ⟨o1, h1, h2⟩ := Option.bind_eq_some_iff.mp h
    obtain ⟨t, h3, h4⟩ := Option.bind_eq_some_iff.mp h1
    obtain ⟨en1, e1, k1⟩ := hg s x en hf t h3
    obtain ⟨out, en2, e2, k2⟩ := hb s t en1 k1 _ h4
    cases o1 with
    | nx t =>
      obtain ⟨rfl, k2⟩ := k2
      obtain ⟨out, en3, e3, k3⟩ := forP_go hg hb k2 h2
      exact ⟨out, en3, by rw [x_forL1, e1, Option.bind_some, e2, Option.bind_some]; exact e3, k3⟩
    | ct t =>
      obtain ⟨rfl, k2⟩ := k2
      obtain ⟨out, en3, e3, k3⟩ := forP_go hg hb k2 h2
      exact ⟨out, en3, by rw [x_forL1, e1, Option.bind_some, e2, Option.bind_some]; exact e3, k3⟩
    | bk t =>
      obtain ⟨rfl, k2⟩ := k2
      cases h2
      exact ⟨_, en2, by rw [x_forL1, e1, Option.bind_some, e2, Option.bind_some], rfl, k2⟩
    | rt t =>
      obtain ⟨rfl, k2⟩ := k2
      cases h2
      exact ⟨_, en2, by rw [x_forL1, e1, Option.bind_some, e2, Option.bind_some], rfl, k2⟩
variable {Γ : Ctx} {I : Option (List PyData)} {s0 : κ}
theorem pn_for {B : κ → υ → Option κ} (hi : PIt Γ it I) (hw : WkC Γ (Λ s0)) (hg : ∀ s, PGt (Λ s) G U (Δ s)) (hb : ∀ s t, PN (Δ s t) b (B s t) Λ) : PN Γ (sFor it G b) (pFold I (fun x s => (U x).bind fun t => B s t) s0) Λ := fun en hf t ht => by
  obtain ⟨xs, qx, ht1⟩ := Option.bind_eq_some_iff.mp ht
  obtain ⟨en1, e1, h1⟩ := hi en hf _ qx
  obtain ⟨en2, e2, h2⟩ := foldP_go hg hb (wkC_fits hw h1) ht1
  exact ⟨en2, by simp [e1, e2], h2⟩
theorem po_for {B : κ → υ → Option (Oc ρ κ κ)} (hi : PIt Γ it I) (hw : WkC Γ (Λ s0)) (hg : ∀ s, PGt (Λ s) G U (Δ s)) (hb : ∀ s t, PO (Δ s t) b (B s t) (FtN Λ) Λ v J) : PO (κ := κ') Γ (sFor it G b) (pFor I (fun x s => (U x).bind fun t => B s t) s0) (FtN Λ) Λ' v J := fun en hf t ht => by
  obtain ⟨xs, qx, ht1⟩ := Option.bind_eq_some_iff.mp ht
  obtain ⟨en1, e1, h1⟩ := hi en hf _ qx
  obtain ⟨out, en2, e2, h2⟩ := forP_go hg hb (wkC_fits hw h1) ht1
  exact ⟨out, en2, by simp [e1, e2], h2⟩
theorem nxO_ok {α : Type} {Γ : Ctx} {a : SF} {A : Option (Oc Empty Empty α)} {Δ : α → Ctx} (h : PO Γ a A (FtN Δ) NoC NoV NoJ) : PN Γ a (nxO A) Δ := fun en hf t ht => by
  cases A with
  | none => cases ht
  | some o =>
    cases o with
    | nx u =>
      cases ht
      obtain ⟨out, en1, e1, rfl, h1⟩ := h en hf _ rfl
      exact ⟨en1, e1, h1⟩
    | ct u => cases u
    | bk u => cases u
    | rt u => cases u
theorem pn_forB {B : κ → υ → Option (Oc Empty κ κ)} (hi : PIt Γ it I) (hw : WkC Γ (Λ s0)) (hg : ∀ s, PGt (Λ s) G U (Δ s)) (hb : ∀ s t, PO (Δ s t) b (B s t) (FtN Λ) Λ NoV NoJ) : PN Γ (sFor it G b) (nxO (pFor I (fun x s => (U x).bind fun t => B s t) s0)) Λ := nxO_ok (po_for hi hw hg hb)
section
variable {σ : Type} {C : σ → Ctx} {s : σ} {I : σ → Option (List PyData × σ)} {y : σ → κ}
@[simp] def sFold (I : σ → Option (List PyData × σ)) (F : PyData → κ → Option κ) (y : σ → κ) (s : σ) : Option κ := (I s).bind fun r => foldP F r.1 (y r.2)
@[simp] def sFor_ (I : σ → Option (List PyData × σ)) (F : PyData → κ → Option (Oc ρ κ κ)) (y : σ → κ) (s : σ) : Option (Oc ρ κ' κ) := (I s).bind fun r => forP F r.1 (y r.2)
theorem sn_for {B : κ → υ → Option κ} (hi : SIs C it I) (hw : ∀ s, WkC (C s) (Λ (y s))) (hg : ∀ s, PGt (Λ s) G U (Δ s)) (hb : ∀ s t, PN (Δ s t) b (B s t) Λ) : PN (C s) (sFor it G b) (sFold I (fun x s => (U x).bind fun t => B s t) y s) Λ := fun en hf t ht => by
  obtain ⟨xs, qx, ht1⟩ := Option.bind_eq_some_iff.mp ht
  obtain ⟨en1, e1, h1⟩ := hi _ en hf _ qx
  obtain ⟨en2, e2, h2⟩ := foldP_go hg hb (wkC_fits (hw _) h1) ht1
  exact ⟨en2, by simp [e1, e2], h2⟩
theorem so_for {B : κ → υ → Option (Oc ρ κ κ)} (hi : SIs C it I) (hw : ∀ s, WkC (C s) (Λ (y s))) (hg : ∀ s, PGt (Λ s) G U (Δ s)) (hb : ∀ s t, PO (Δ s t) b (B s t) (FtN Λ) Λ v J) : PO (κ := κ') (C s) (sFor it G b) (sFor_ I (fun x s => (U x).bind fun t => B s t) y s) (FtN Λ) Λ' v J := fun en hf t ht => by
  obtain ⟨xs, qx, ht1⟩ := Option.bind_eq_some_iff.mp ht
  obtain ⟨en1, e1, h1⟩ := hi _ en hf _ qx
  obtain ⟨out, en2, e2, h2⟩ := forP_go hg hb (wkC_fits (hw _) h1) ht1
  exact ⟨out, en2, by simp [e1, e2], h2⟩
theorem sn_forB {B : κ → υ → Option (Oc Empty κ κ)} (hi : SIs C it I) (hw : ∀ s, WkC (C s) (Λ (y s))) (hg : ∀ s, PGt (Λ s) G U (Δ s)) (hb : ∀ s t, PO (Δ s t) b (B s t) (FtN Λ) Λ NoV NoJ) : PN (C s) (sFor it G b) (nxO (sFor_ I (fun x s => (U x).bind fun t => B s t) y s)) Λ := nxO_ok (so_for hi hw hg hb)
end
variable {c : TF} {T : κ → Option Bool}
theorem whP_go {B : κ → Option κ} (ht : ∀ s, PT_ (Λ s) c (T s)) (hb : ∀ s, PN (Λ s) b (B s) Λ) : ∀ {n : Nat} {s s' : κ} {en : En}, Fits (Λ s) en → whP T B n s = some s' → ∃ en', whileF c b n en = some (.nx, en') ∧ Fits (Λ s') en'
  | 0, s, s', en, hf, h => by cases h
  | n + 1, s, s', en, hf, h => by
    obtain ⟨x, h1, h2⟩ := Option.bind_eq_some_iff.mp h
    obtain ⟨en1, e1, k1⟩ := ht s en hf _ h1
    cases x with
    | true =>
      obtain ⟨s1, h3, h4⟩ := Option.bind_eq_some_iff.mp (show (B s).bind (whP T B n) = some s' by simpa using h2)
      obtain ⟨en2, e2, k2⟩ := hb s en1 k1 _ h3
      obtain ⟨en3, e3, k3⟩ := whP_go ht hb k2 h4
      exact ⟨en3, by simp only [whileF, e1, e2, Option.bind_some, if_true]; exact e3, k3⟩
    | false =>
      simp at h2
      subst h2
      exact ⟨en1, by simp [whileF, e1], k1⟩
theorem whO_go {B : κ → Option (Oc ρ κ κ)} (ht : ∀ s, PT_ (Λ s) c (T s)) (hb : ∀ s, PO (Λ s) b (B s) (FtN Λ) Λ v J) : ∀ {n : Nat} {s : κ} {o : Oc ρ κ' κ} {en : En}, Fits (Λ s) en → whO T B n s = some o → ∃ out en', whileF c b n en = some (out, en') ∧ OcOk (FtN Λ) Λ' v J o out en'
  | 0, s, s', en, hf, h => by cases h
  | n + 1, s, o, en, hf, h => by
    obtain ⟨x, h1, h2⟩ := Option.bind_eq_some_iff.mp h
    obtain ⟨en1, e1, k1⟩ := ht s en hf _ h1
    cases x with
    | true =>
      rw [if_pos rfl] at h2
      obtain ⟨o1, h3, h4⟩ := Option.bind_eq_some_iff.mp h2
      obtain ⟨out, en2, e2, k2⟩ := hb s en1 k1 _ h3
      cases o1 with
      | nx t =>
        obtain ⟨rfl, k2⟩ := k2
        obtain ⟨out, en3, e3, k3⟩ := whO_go ht hb k2 h4
        exact ⟨out, en3, by simp only [whileF, e1, e2, Option.bind_some, if_true]; exact e3, k3⟩
      | ct t =>
        obtain ⟨rfl, k2⟩ := k2
        obtain ⟨out, en3, e3, k3⟩ := whO_go ht hb k2 h4
        exact ⟨out, en3, by simp only [whileF, e1, e2, Option.bind_some, if_true]; exact e3, k3⟩
      | bk t =>
        obtain ⟨rfl, k2⟩ := k2
        cases h4
        exact ⟨_, en2, by simp only [whileF, e1, e2, Option.bind_some, if_true], rfl, k2⟩
      | rt t =>
        obtain ⟨rfl, k2⟩ := k2
        cases h4
        exact ⟨_, en2, by simp only [whileF, e1, e2, Option.bind_some, if_true], rfl, k2⟩
    | false =>
      simp at h2
      subst h2
      exact ⟨_, en1, by simp [whileF, e1], rfl, k1⟩
@[simp] def pWh (T : κ → Option Bool) (F : κ → Option κ) (s : κ) : Option κ := whP T F fuel s
@[simp] def pWhO (T : κ → Option Bool) (F : κ → Option (Oc ρ κ κ)) (s : κ) : Option (Oc ρ κ' κ) := whO T F fuel s
theorem pn_while {B : κ → Option κ} (hw : WkC Γ (Λ s0)) (ht : ∀ s, PT_ (Λ s) c (T s)) (hb : ∀ s, PN (Λ s) b (B s) Λ) : PN Γ (sWhile c b) (pWh T B s0) Λ := fun en hf t h => whP_go ht hb (wkC_fits hw hf) h
theorem po_while {B : κ → Option (Oc ρ κ κ)} (hw : WkC Γ (Λ s0)) (ht : ∀ s, PT_ (Λ s) c (T s)) (hb : ∀ s, PO (Λ s) b (B s) (FtN Λ) Λ v J) : PO (κ := κ') Γ (sWhile c b) (pWhO T B s0) (FtN Λ) Λ' v J := fun en hf t h => whO_go ht hb (wkC_fits hw hf) h
theorem pn_whileB {B : κ → Option (Oc Empty κ κ)} (hw : WkC Γ (Λ s0)) (ht : ∀ s, PT_ (Λ s) c (T s)) (hb : ∀ s, PO (Λ s) b (B s) (FtN Λ) Λ NoV NoJ) : PN Γ (sWhile c b) (nxO (pWhO T B s0)) Λ := nxO_ok (po_while hw ht hb)
end
end
/-! ### defs -/
theorem fits_datS : ∀ (xs : List PyData) (n : Nat), Fits (xs.map (fun x => Sl.k (.d x)) ++ List.replicate n .o) ((datS xs).map some ++ List.replicate n none)
  | [], 0 => .nil
  | [], n + 1 => .cons (.inl rfl) (by simpa [datS] using fits_datS [] n)
  | x :: xs, n => .cons rfl (by simpa [datS] using fits_datS xs n)
theorem fits_opens : ∀ n, Fits (List.replicate n .o) (List.replicate n none)
  | 0 => .nil
  | n + 1 => .cons (.inl rfl) (fits_opens n)
theorem fn_pu {g : SF} {n : Nat} {xs : List PyData} {B : Option PyData} {x : PyData} (h : PR true (xs.map (fun x => Sl.k (.d x)) ++ List.replicate n .o) g B id NoJ) (hx : B = some x) : ∃ as, fcall g n (datS xs) = some (x, as) := by
  obtain ⟨o, en', e1, e2, _⟩ := h _ (fits_datS xs n) x hx
  unfold fcall
  rw [e1]
  rcases e2 with rfl | ⟨_, rfl, e2⟩
  · exact ⟨_, rfl⟩
  · have e3 : x = .none := e2
    subst e3
    exact ⟨_, rfl⟩
theorem fn_st {g : SF} {n : Nat} {xs S : List PyData} {B : Option (PyData × List PyData)} {x : PyData × List PyData} (h : PR true (Sl.k (.p S) :: (xs.map (fun x => Sl.k (.d x)) ++ List.replicate n .o)) g B Prod.fst (StJ 0)) (hx : B = some x) : ∃ as, fcall g n (.p S :: datS xs) = some (x.1, .p x.2 :: as) := by
  obtain ⟨o, en', e1, e2, e3⟩ := h _ (.cons rfl (fits_datS xs n)) x hx
  have e4 : outP (.p S :: datS xs) en' = .p x.2 :: outP (datS xs) en'.tail := by
    cases en' with
    | nil => cases e3
    | cons a en' =>
      have e5 : some a = some (some (SV.p x.2)) := e3
      cases e5
      rfl
  unfold fcall
  rw [show (SV.p S :: datS xs).map some ++ List.replicate n none = some (SV.p S) :: ((datS xs).map some ++ List.replicate n none) from rfl, e1]
  rcases e2 with rfl | ⟨_, rfl, e2⟩
  · exact ⟨_, by rw [Option.bind_some]; show some (x.1, outP (.p S :: datS xs) en') = _; rw [e4]⟩
  · exact ⟨_, by rw [Option.bind_some]; show some (PyData.none, outP (.p S :: datS xs) en') = _; rw [e4, e2]⟩
/-- the law's own list -/
def hrun (h : LF) (n : Nat) (xs : List PyData) : Option (List PyData) := (h ((datS xs).map some ++ List.replicate n none)).map Prod.fst
theorem fits_noLv : ∀ {Γ : Ctx} {en : En}, Fits Γ en → (Γ.all fun s => match s with | .k (.d _) => true | .o => true | _ => false) = true → noLv en = true
  | _, _, .nil, _ => rfl
  | _, _, .cons (s := s) (x := x) h1 h2, h => by
    simp only [List.all_cons, Bool.and_eq_true] at h
    have := fits_noLv h2 h.2
    unfold noLv at this ⊢
    rw [List.all_cons, this, Bool.and_true]
    have h3 := h.1
    cases s with
    | k s =>
      cases s with
      | d y => cases h1; rfl
      | l y => cases h3
      | p y => cases h3
    | z y => cases h3
    | o => rcases h1 with rfl | ⟨y, rfl⟩ <;> rfl
    | a => cases h3
theorem pl_start {Γ : Ctx} {h : LF} {m n : Nat} {q : AF} {A : Option (List PyData)} (a : PAd Γ q A) (hm : ∀ xs, A = some xs → xs.length = m) (hn : (Γ.all fun s => match s with | .k (.d _) => true | .o => true | _ => false) = true := by rfl) : PLs Γ (fCallL h m n q) (A.bind (hrun h n)) := fun en hf x hx => by
  obtain ⟨xs, qx, hx1⟩ := Option.bind_eq_some_iff.mp hx
  obtain ⟨r, qr, rfl⟩ := Option.map_eq_some_iff.mp hx1
  obtain ⟨en1, e1, h1⟩ := a en hf _ qx
  refine ⟨en1, ?_, h1⟩
  simp only [x_fCallL, e1, Option.bind_some, datL_map]
  rw [if_pos ⟨fits_noLv h1 hn, hm xs qx⟩, qr, Option.bind_some]
end L2.FL
set_option Elab.async false
set_option linter.all false
set_option maxRecDepth 100000
set_option maxHeartbeats 4000000
/-! PL4: draws; how plain texts are reckoned. -/
namespace L2.FL
open PySem PySem.Spec PyProof.Rows L2

theorem ap0_inv {p : Option PyData} {xs : List PyData} {r : PyData} (h : ap0 p xs = some r) : xs = [] := by
  unfold ap0 at h; split at h
  · rfl
  · cases h
theorem ap1_inv {p : PyData → Option PyData} {xs : List PyData} {r : PyData} (h : ap1 p xs = some r) : ∃ a, xs = [a] := by
  unfold ap1 at h; split at h
  · exact ⟨_, rfl⟩
  · cases h
theorem ap2_inv {p : PyData → PyData → Option PyData} {xs : List PyData} {r : PyData} (h : ap2 p xs = some r) : ∃ a b, xs = [a, b] := by
  unfold ap2 at h; split at h
  · exact ⟨_, _, rfl⟩
  · cases h
theorem ap3_inv {p : PyData → PyData → PyData → Option PyData} {xs : List PyData} {r : PyData} (h : ap3 p xs = some r) : ∃ a b c, xs = [a, b, c] := by
  unfold ap3 at h; split at h
  · exact ⟨_, _, _, rfl⟩
  · cases h
theorem ap4_inv {p : PyData → PyData → PyData → PyData → Option PyData} {xs : List PyData} {r : PyData} (h : ap4 p xs = some r) : ∃ a b c d, xs = [a, b, c, d] := by
  unfold ap4 at h; split at h
  · exact ⟨_, _, _, _, rfl⟩
  · cases h
theorem ap5_inv {p : PyData → PyData → PyData → PyData → PyData → Option PyData} {xs : List PyData} {r : PyData} (h : ap5 p xs = some r) : ∃ a b c d e, xs = [a, b, c, d, e] := by
  unfold ap5 at h; split at h
  · exact ⟨_, _, _, _, _, rfl⟩
  · cases h
theorem ap6_inv {p : PyData → PyData → PyData → PyData → PyData → PyData → Option PyData} {xs : List PyData} {r : PyData} (h : ap6 p xs = some r) : ∃ a b c d e f, xs = [a, b, c, d, e, f] := by
  unfold ap6 at h; split at h
  · exact ⟨_, _, _, _, _, _, rfl⟩
  · cases h
theorem ap7_inv {p : PyData → PyData → PyData → PyData → PyData → PyData → PyData → Option PyData} {xs : List PyData} {r : PyData} (h : ap7 p xs = some r) : ∃ a b c d e f g, xs = [a, b, c, d, e, f, g] := by
  unfold ap7 at h; split at h
  · exact ⟨_, _, _, _, _, _, _, rfl⟩
  · cases h
theorem st0_inv {p : List PyData → Option (PyData × List PyData)} {xs S : List PyData} {r : PyData × List PyData} (h : st0 p xs S = some r) : xs = [] := by
  unfold st0 at h; split at h
  · rfl
  · cases h
theorem st1_inv {p : List PyData → PyData → Option (PyData × List PyData)} {xs S : List PyData} {r : PyData × List PyData} (h : st1 p xs S = some r) : ∃ a, xs = [a] := by
  unfold st1 at h; split at h
  · exact ⟨_, rfl⟩
  · cases h
theorem st2_inv {p : List PyData → PyData → PyData → Option (PyData × List PyData)} {xs S : List PyData} {r : PyData × List PyData} (h : st2 p xs S = some r) : ∃ a b, xs = [a, b] := by
  unfold st2 at h; split at h
  · exact ⟨_, _, rfl⟩
  · cases h
theorem st3_inv {p : List PyData → PyData → PyData → PyData → Option (PyData × List PyData)} {xs S : List PyData} {r : PyData × List PyData} (h : st3 p xs S = some r) : ∃ a b c, xs = [a, b, c] := by
  unfold st3 at h; split at h
  · exact ⟨_, _, _, rfl⟩
  · cases h
theorem st4_inv {p : List PyData → PyData → PyData → PyData → PyData → Option (PyData × List PyData)} {xs S : List PyData} {r : PyData × List PyData} (h : st4 p xs S = some r) : ∃ a b c d, xs = [a, b, c, d] := by
  unfold st4 at h; split at h
  · exact ⟨_, _, _, _, rfl⟩
  · cases h
theorem po_endO {ρ κ τ υ : Type} {Γ : Ctx} {a : SF} {Δ' : υ → Ctx} {Δ : τ → Ctx} {Λ : κ → Ctx} {v : ρ → PyData} {J : ρ → En → Prop} {A : Option (Oc ρ κ υ)} {y : υ → τ} (h : PO Γ a A (FtN Δ') Λ v J) (k : ∀ t, WkC (Δ' t) (Δ (y t))) : PO Γ a (thenO A fun t => some (Oc.nx (y t))) (FtN Δ) Λ v J := fun en hf o ho => by
  obtain ⟨x, qx, ho1⟩ := Option.bind_eq_some_iff.mp ho
  obtain ⟨out, en1, e1, h1⟩ := h en hf _ qx
  cases x with
  | nx t =>
    cases ho1
    obtain ⟨rfl, h1⟩ := h1
    exact ⟨_, en1, e1, rfl, wkC_fits (k t) h1⟩
  | ct t =>
    cases ho1
    exact ⟨_, en1, e1, h1⟩
  | bk t =>
    cases ho1
    exact ⟨_, en1, e1, h1⟩
  | rt t =>
    cases ho1
    exact ⟨_, en1, e1, h1⟩
/-! len({k: c for ..}) -/
noncomputable def lenK (ks : List PyData) : Option PyData := (keysD ks).map fun ks => .int ((unlike [] ks).length : Nat)
noncomputable def pLenDc (I : Option (List PyData)) (F : PyData → Option (Option PyData)) : Option PyData := (pLc I F).bind lenK
theorem pd_lenDc {τ : Type} {Γ : Ctx} {it : IF} {g : GF} {tt : TF} {te : EF} {vs : List Nat} {I : Option (List PyData)} {U : PyData → Option τ} {Δ : τ → Ctx} {T : τ → Option Bool} {E : τ → Option PyData}
    (hi : PIt Γ it I) (hg : PGt (wipC Γ vs) g U Δ) (ht : ∀ t, PT_ (Δ t) tt (T t)) (he : ∀ t, PD (Δ t) te (E t)) (hp : vs.all (pln Γ) = true := by rfl) (hw : ∀ t, WkC (wipC (Δ t) vs) (wipC Γ vs)) :
    PD Γ (fLenDc it g tt te vs) (pLenDc I fun x => (U x).bind fun t => pIfS (T t) (E t)) := fun en hf x hx => by
  obtain ⟨ks, qk, hx0⟩ := Option.bind_eq_some_iff.mp hx
  obtain ⟨zs, qz, rfl⟩ := Option.map_eq_some_iff.mp hx0
  obtain ⟨xs, qx, hx1⟩ := Option.bind_eq_some_iff.mp qk
  obtain ⟨ys, hy, hx2⟩ := Option.bind_eq_some_iff.mp hx1
  obtain ⟨hs, rfl⟩ := szL_some hy
  obtain ⟨en1, e1, h1⟩ := hi en hf _ qx
  obtain ⟨en2, e2, h2⟩ := lcP_go hg ht he hw (fits_wipe h1 vs) hx2
  refine ⟨backE en1 en2 vs, ?_, fits_back h1 h2⟩
  simp only [fLenDc, e1, Option.bind_some]
  rw [if_pos ⟨hs, plns_of h1 hp⟩, e2, Option.bind_some, qz, Option.bind_some]
theorem pd_lenDcA {τ : Type} {Γ : Ctx} {it : IF} {g : GF} {te : EF} {vs : List Nat} {I : Option (List PyData)} {U : PyData → Option τ} {Δ : τ → Ctx} {E : τ → Option PyData}
    (hi : PIt Γ it I) (hg : PGt (wipC Γ vs) g U Δ) (he : ∀ t, PD (Δ t) te (E t)) (hp : vs.all (pln Γ) = true := by rfl) (hw : ∀ t, WkC (wipC (Δ t) vs) (wipC Γ vs)) :
    PD Γ (fLenDc it g fYes te vs) (pLenDc I fun x => (U x).bind fun t => pAll (E t)) := pd_lenDc (T := fun _ => some true) hi hg (fun _ => pt_yes) he hp hw
/-- a draw -/
noncomputable def p_draw (S : List PyData) (m : PyData) : Option (PyData × List PyData) := match fcall rDraw 1 [.p S, .d m] with
  | some (x, .p S' :: _) => some (x, S')
  | _ => none
theorem st_draw : StN rDraw 1 2 (st1 p_draw) := fun xs S r h => by
  obtain ⟨m, rfl⟩ := st1_inv h
  refine ⟨rfl, ?_⟩
  have h' : p_draw S m = some r := h
  unfold p_draw at h'
  split at h'
  · rename_i x S' as e
    cases h'
    exact ⟨as, e⟩
  · cases h'
/-- what a draw gives -/
theorem draw {S : List PyData} {b : Nat} {m : Int} (h : Drawn b S) (hb : b < 4611686018427387904) (hm : 1 ≤ m) (hm2 : m < 4611686018427387904) : ∃ r S', 0 ≤ r ∧ r < m ∧ Drawn (b + 1) S' ∧ p_draw S (.int m) = some (.int r, S') := by
  obtain ⟨r, S', h1, h2, h3, h4⟩ := ev_rDraw h hb hm hm2
  exact ⟨r, S', h1, h2, h3, by unfold p_draw; rw [h4]⟩
theorem start {ns : List Int} (h : ns.length ≤ 63) : ∃ S, Drawn 0 S ∧ hrun rStart 2 [.list (ns.map .int)] = some S := by
  obtain ⟨S, en, h1, h2⟩ := ev_rStart h
  refine ⟨S, h1, ?_⟩
  unfold hrun
  show (rStart [some (.d (.list (ns.map .int))), none, none]).map Prod.fst = _
  rw [h2]
  rfl
@[simp] theorem szL_of {xs : List PyData} (h : xs.length ≤ 1000000) : szL xs = some xs := if_pos (small_size h)
@[simp] theorem szL_0 : szL [] = some [] := szL_of (by simp)
@[simp] theorem szL_1 {a : PyData} : szL [a] = some [a] := szL_of (by simp)
@[simp] theorem szL_2 {a b : PyData} : szL [a, b] = some [a, b] := szL_of (by simp)
@[simp] theorem szL_3 {a b c : PyData} : szL [a, b, c] = some [a, b, c] := szL_of (by simp)
@[simp] theorem szL_4 {a b c d : PyData} : szL [a, b, c, d] = some [a, b, c, d] := szL_of (by simp)
@[simp] theorem szL_5 {a b c d e : PyData} : szL [a, b, c, d, e] = some [a, b, c, d, e] := szL_of (by simp)
@[simp] theorem szL_6 {a b c d e f : PyData} : szL [a, b, c, d, e, f] = some [a, b, c, d, e, f] := szL_of (by simp)
end L2.FL
set_option Elab.async false
set_option linter.all false
set_option maxRecDepth 100000
set_option maxHeartbeats 4000000
/-! PL5: how plain texts are reckoned: comprehensions, loops. -/
namespace L2.FL
open PySem PySem.Spec L2

theorem lcP_enc {α : Type} {F : PyData → Option (Option PyData)} {e : α → PyData} (G : α → Option PyData) : ∀ {as : List α}, (∀ a ∈ as, F (e a) = some (G a)) → lcP F (as.map e) = some (as.filterMap G)
  | [], _ => rfl
  | a :: as, h => by
    rw [List.map_cons, lcP, h a (by simp), Option.bind_some, lcP_enc G fun b hb => h b (by simp [hb]), Option.bind_some]
    cases hG : G a with
    | none => simp [hG]
    | some y => simp [hG]
theorem pLc_enc {α : Type} {F : PyData → Option (Option PyData)} {as : List α} (e : α → PyData) (G : α → Option PyData) (hl : as.length ≤ 1000000) (h : ∀ a ∈ as, F (e a) = some (G a)) : pLc (some (as.map e)) F = some (as.filterMap G) := by
  unfold pLc
  rw [Option.bind_some, szL_of (by simpa using hl), Option.bind_some, lcP_enc G h]
theorem filterMap_some {α β : Type} (f : α → β) (as : List α) : as.filterMap (fun a => some (f a)) = as.map f := by simp
theorem filterMap_if {α β : Type} (p : α → Bool) (f : α → β) : ∀ as : List α, as.filterMap (fun a => if p a = true then some (f a) else none) = (as.filter p).map f
  | [] => rfl
  | a :: as => by
    rw [List.filterMap_cons, List.filter_cons]
    by_cases c : p a = true
    · simp [c, filterMap_if p f as]
    · simp [c, filterMap_if p f as]
/-- [f a for a in as] -/
theorem pLc_all {α : Type} {F : PyData → Option (Option PyData)} {as : List α} (e f : α → PyData) (hl : as.length ≤ 1000000) (h : ∀ a ∈ as, F (e a) = some (some (f a))) : pLc (some (as.map e)) F = some (as.map f) := by
  rw [pLc_enc e (fun a => some (f a)) hl h, filterMap_some]
/-- [f a for a in as if p a] -/
theorem pLc_fil {α : Type} {F : PyData → Option (Option PyData)} {as : List α} (e : α → PyData) (p : α → Bool) (f : α → PyData) (hl : as.length ≤ 1000000) (h : ∀ a ∈ as, F (e a) = if p a = true then some (some (f a)) else some none) : pLc (some (as.map e)) F = some ((as.filter p).map f) := by
  rw [pLc_enc e (fun a => if p a = true then some (f a) else none) hl fun a ha => by rw [h a ha]; split <;> rfl, filterMap_if]
theorem pLc_filP {α : Type} {F : PyData → Option (Option PyData)} {as : List α} (e : α → PyData) (p : α → Prop) [DecidablePred p] (f : α → PyData) (hl : as.length ≤ 1000000) (h : ∀ a ∈ as, F (e a) = if p a then some (some (f a)) else some none) : pLc (some (as.map e)) F = some ((as.filter fun a => decide (p a)).map f) :=
  pLc_fil e (fun a => decide (p a)) f hl fun a ha => by rw [h a ha]; by_cases c : p a <;> simp [c]
theorem lcP_filP {α : Type} {F : PyData → Option (Option PyData)} {as : List α} (e : α → PyData) (p : α → Prop) [DecidablePred p] (f : α → PyData) (h : ∀ a ∈ as, F (e a) = if p a then some (some (f a)) else some none) : lcP F (as.map e) = some ((as.filter fun a => decide (p a)).map f) := by
  have := lcP_enc (F := F) (e := e) (as := as) (fun a => if decide (p a) = true then some (f a) else none) fun a ha => by rw [h a ha]; by_cases c : p a <;> simp [c]
  rw [this, filterMap_if]
theorem lcP_fil {α : Type} {F : PyData → Option (Option PyData)} {as : List α} (e : α → PyData) (p : α → Bool) (f : α → PyData) (h : ∀ a ∈ as, F (e a) = if p a = true then some (some (f a)) else some none) : lcP F (as.map e) = some ((as.filter p).map f) := by
  rw [lcP_enc (fun a => if p a = true then some (f a) else none) fun a ha => by rw [h a ha]; split <;> rfl, filterMap_if]
theorem lcP_all {α : Type} {F : PyData → Option (Option PyData)} {as : List α} (e f : α → PyData) (h : ∀ a ∈ as, F (e a) = some (some (f a))) : lcP F (as.map e) = some (as.map f) := by
  rw [lcP_enc (fun a => some (f a)) h, filterMap_some]
theorem lc2P_enc {α : Type} {F : PyData → Option (List PyData)} {e : α → PyData} (G : α → List PyData) : ∀ {as : List α}, (∀ a ∈ as, F (e a) = some (G a)) → lc2P F (as.map e) = some (as.flatMap G)
  | [], _ => rfl
  | a :: as, h => by
    rw [List.map_cons, lc2P, h a (by simp), Option.bind_some, lc2P_enc G fun b hb => h b (by simp [hb]), Option.bind_some, List.flatMap_cons]
theorem pLc2_enc {α : Type} {F : PyData → Option (List PyData)} {as : List α} (e : α → PyData) (G : α → List PyData) (hl : (as.flatMap G).length ≤ 1000000) (h : ∀ a ∈ as, F (e a) = some (G a)) : pLc2 (some (as.map e)) F = some (as.flatMap G) := by
  unfold pLc2
  rw [Option.bind_some, lc2P_enc G h, Option.bind_some, szL_of hl]
/-- the draws of a row: some P of the state holds from turn to turn -/
theorem lcS_inv {α σ : Type} {F : PyData → σ → Option (Option PyData × σ)} {e : α → PyData} (I : Nat → σ → Prop) (Q : PyData → Prop) : ∀ {as : List α} {k : Nat} {s : σ}, (∀ i a s, as[i]? = some a → I (k + i) s → ∃ y s', F (e a) s = some (some y, s') ∧ Q y ∧ I (k + i + 1) s') → I k s → ∃ ys s', lcS F (as.map e) s = some (ys, s') ∧ ys.length = as.length ∧ (∀ y ∈ ys, Q y) ∧ I (k + as.length) s'
  | [], k, s, _, hi => ⟨[], s, rfl, rfl, by simp, hi⟩
  | a :: as, k, s, h, hi => by
    obtain ⟨y, s1, e1, h1, h2⟩ := h 0 a s rfl (by simpa using hi)
    obtain ⟨ys, s2, e2, h3, h4, h5⟩ := lcS_inv I Q (as := as) (k := k + 1) (s := s1) (fun i b s hb hI => by
      have := h (i + 1) b s (by simpa using hb) (by rw [show k + (i + 1) = k + 1 + i by omega]; exact hI)
      rwa [show k + (i + 1) + 1 = k + 1 + i + 1 by omega] at this) (by simpa using h2)
    refine ⟨y :: ys, s2, ?_, by simp [h3], ?_, by rw [List.length_cons, show k + (as.length + 1) = k + 1 + as.length by omega]; exact h5⟩
    · rw [List.map_cons, lcS, e1, Option.bind_some, e2, Option.bind_some]
      rfl
    · intro z hz
      rcases List.mem_cons.mp hz with rfl | hz
      · exact h1
      · exact h4 z hz
/-- numbers drawn below m, one for each of a row -/
theorem drawn_row {α : Type} {F : PyData → List PyData → Option (Option PyData × List PyData)} {e : α → PyData} {m : Int} (hm : 1 ≤ m) (hm2 : m < 4611686018427387904) {as : List α} {b : Nat} {S : List PyData} (hd : Drawn b S) (hb : b + as.length < 4611686018427387904)
    (h : ∀ a s, F (e a) s = (p_draw s (.int m)).map fun r => (some r.1, r.2)) : ∃ (ns : List Int) (S' : List PyData), lcS F (as.map e) S = some (ns.map .int, S') ∧ ns.length = as.length ∧ (∀ n ∈ ns, 0 ≤ n ∧ n < m) ∧ Drawn (b + as.length) S' := by
  obtain ⟨ys, S', e1, h1, h2, h3⟩ := lcS_inv (F := F) (e := e) (I := fun k s => Drawn (b + k) s) (Q := fun y => ∃ n : Int, y = .int n ∧ 0 ≤ n ∧ n < m) (as := as) (k := 0) (s := S) (fun i a s ha hI => by
    have hi : i < as.length := (List.getElem?_eq_some_iff.mp ha).1
    obtain ⟨r, S', r1, r2, r3, r4⟩ := draw (m := m) hI (by omega) hm hm2
    refine ⟨.int r, S', by rw [h, r4]; rfl, ⟨r, rfl, r1, r2⟩, ?_⟩
    exact r3.mono (by omega)) (by simpa using hd)
  have : ∃ ns : List Int, ys = ns.map .int ∧ ∀ n ∈ ns, 0 ≤ n ∧ n < m := by
    clear e1 h1
    induction ys with
    | nil => exact ⟨[], rfl, by simp⟩
    | cons y ys ih =>
      obtain ⟨n, rfl, h3, h4⟩ := h2 y (by simp)
      obtain ⟨ns, rfl, h5⟩ := ih fun z hz => h2 z (by simp [hz])
      exact ⟨n :: ns, rfl, fun z hz => by
        rcases List.mem_cons.mp hz with rfl | hz
        · exact ⟨h3, h4⟩
        · exact h5 z hz⟩
  obtain ⟨ns, rfl, h4⟩ := this
  exact ⟨ns, S', e1, by simpa using h1, h4, by simpa using h3⟩
/-! loops -/
theorem foldP_map {α κ κ0 : Type} {F : PyData → κ → Option κ} {e : α → PyData} (c : κ0 → κ) (st : κ0 → α → κ0) : ∀ {as : List α} {k : κ0}, (∀ a ∈ as, ∀ k, F (e a) (c k) = some (c (st k a))) → foldP F (as.map e) (c k) = some (c (as.foldl st k))
  | [], k, _ => rfl
  | a :: as, k, h => by
    rw [List.map_cons, foldP, h a (by simp), Option.bind_some, foldP_map c st fun b hb => h b (by simp [hb]), List.foldl_cons]
theorem foldP_inv {α κ : Type} {F : PyData → κ → Option κ} {e : α → PyData} (I : Nat → κ → Prop) : ∀ {as : List α} {k : Nat} {s : κ}, (∀ i a s, as[i]? = some a → I (k + i) s → ∃ s', F (e a) s = some s' ∧ I (k + i + 1) s') → I k s → ∃ s', foldP F (as.map e) s = some s' ∧ I (k + as.length) s'
  | [], k, s, _, hi => ⟨s, rfl, hi⟩
  | a :: as, k, s, h, hi => by
    obtain ⟨s1, e1, h1⟩ := h 0 a s rfl (by simpa using hi)
    obtain ⟨s2, e2, h2⟩ := foldP_inv I (as := as) (k := k + 1) (s := s1) (fun i b s hb hI => by
      have := h (i + 1) b s (by simpa using hb) (by rw [show k + (i + 1) = k + 1 + i by omega]; exact hI)
      rwa [show k + (i + 1) + 1 = k + 1 + i + 1 by omega] at this) (by simpa using h1)
    exact ⟨s2, by rw [List.map_cons, foldP, e1, Option.bind_some, e2], by rw [List.length_cons, show k + (as.length + 1) = k + 1 + as.length by omega]; exact h2⟩
/-- a loop of checks -/
theorem foldP_unit {α : Type} {F : PyData → Unit → Option Unit} {e : α → PyData} {as : List α} (h : ∀ a ∈ as, F (e a) () = some ()) : foldP F (as.map e) () = some () := by
  have := foldP_map (F := F) (e := e) (as := as) (k := ()) (fun (_ : Unit) => ()) (fun _ _ => ()) (fun a ha _ => h a ha)
  simpa using this
theorem forP_inv {α ρ κ κ' : Type} {F : PyData → κ → Option (Oc ρ κ κ)} {e : α → PyData} (I : Nat → κ → Prop) (Post : Oc ρ κ' κ → Prop) : ∀ {as : List α} {k : Nat} {s : κ},
    (∀ i a s, as[i]? = some a → I (k + i) s → ∃ o, F (e a) s = some o ∧ match o with | .nx t => I (k + i + 1) t | .ct t => I (k + i + 1) t | .bk t => Post (.nx t) | .rt r => Post (.rt r)) →
    (∀ s, I (k + as.length) s → Post (.nx s)) → I k s → ∃ o, forP F (as.map e) s = some o ∧ Post o
  | [], k, s, _, hp, hi => ⟨.nx s, rfl, hp s hi⟩
  | a :: as, k, s, h, hp, hi => by
    obtain ⟨o, e1, h1⟩ := h 0 a s rfl (by simpa using hi)
    rw [List.map_cons, forP, e1, Option.bind_some]
    have go : ∀ t, I (k + 1) t → ∃ o, forP F (as.map e) t = some o ∧ Post o := fun t ht =>
      forP_inv I Post (as := as) (k := k + 1) (s := t) (fun i b s hb hI => by
        have := h (i + 1) b s (by simpa using hb) (by rw [show k + (i + 1) = k + 1 + i by omega]; exact hI)
        rwa [show k + (i + 1) + 1 = k + 1 + i + 1 by omega] at this) (fun s hs => hp s (by rw [List.length_cons, show k + (as.length + 1) = k + 1 + as.length by omega]; exact hs)) ht
    cases o with
    | nx t => exact go t (by simpa using h1)
    | ct t => exact go t (by simpa using h1)
    | bk t => exact ⟨_, rfl, h1⟩
    | rt r => exact ⟨_, rfl, h1⟩
/-- a loop that no turn leaves, and that changes nothing -/
theorem forP_unit {α ρ κ' : Type} {F : PyData → Unit → Option (Oc ρ Unit Unit)} {e : α → PyData} : ∀ {as : List α}, (∀ a ∈ as, F (e a) () = some (.nx ())) → (forP F (as.map e) () : Option (Oc ρ κ' Unit)) = some (.nx ())
  | [], _ => rfl
  | a :: as, h => by
    rw [List.map_cons, forP, h a (by simp), Option.bind_some]
    exact forP_unit fun b hb => h b (by simp [hb])
theorem whP_inv {κ : Type} {T : κ → Option Bool} {F : κ → Option κ} (I : Nat → κ → Prop) (Post : κ → Prop) (h : ∀ m s, I m s → (T s = some false ∧ Post s) ∨ (T s = some true ∧ ∃ s' m', F s = some s' ∧ m' < m ∧ I m' s')) : ∀ (n m : Nat) (s : κ), m < n → I m s → ∃ s', whP T F n s = some s' ∧ Post s'
  | 0, m, s, hm, _ => absurd hm (Nat.not_lt_zero _)
  | n + 1, m, s, hm, hi => by
    rcases h m s hi with ⟨e1, h1⟩ | ⟨e1, s', m', e2, h2, h3⟩
    · exact ⟨s, by simp [whP, e1], h1⟩
    · obtain ⟨s2, e3, h4⟩ := whP_inv I Post h n m' s' (by omega) h3
      exact ⟨s2, by simp [whP, e1, e2, e3], h4⟩
theorem whO_inv {ρ κ κ' : Type} {T : κ → Option Bool} {F : κ → Option (Oc ρ κ κ)} (I : Nat → κ → Prop) (Post : Oc ρ κ' κ → Prop) (h : ∀ m s, I m s → (T s = some false ∧ Post (.nx s)) ∨ (T s = some true ∧ ∃ o, F s = some o ∧ match o with | .nx t => ∃ m', m' < m ∧ I m' t | .ct t => ∃ m', m' < m ∧ I m' t | .bk t => Post (.nx t) | .rt r => Post (.rt r))) : ∀ (n m : Nat) (s : κ), m < n → I m s → ∃ o, whO T F n s = some o ∧ Post o
  | 0, m, s, hm, _ => absurd hm (Nat.not_lt_zero _)
  | n + 1, m, s, hm, hi => by
    rcases h m s hi with ⟨e1, h1⟩ | ⟨e1, o, e2, h2⟩
    · exact ⟨.nx s, by simp [whO, e1], h1⟩
    · cases o with
      | nx t =>
        obtain ⟨m', h3, h4⟩ := h2
        obtain ⟨s2, e3, h4⟩ := whO_inv (κ' := κ') I Post h n m' t (by omega) h4
        exact ⟨s2, by simp [whO, e1, e2, e3], h4⟩
      | ct t =>
        obtain ⟨m', h3, h4⟩ := h2
        obtain ⟨s2, e3, h4⟩ := whO_inv (κ' := κ') I Post h n m' t (by omega) h4
        exact ⟨s2, by simp [whO, e1, e2, e3], h4⟩
      | bk t => exact ⟨_, by simp [whO, e1, e2], h2⟩
      | rt t => exact ⟨_, by simp [whO, e1, e2], h2⟩
theorem fuel_big {n : Nat} (h : n < 1000000000) : n < fuel := by
  have q : fuel = 1099511627776 := rfl
  omega
/-! ranges as rows -/
theorem rg1_nat {n : Nat} (h : n ≤ 1000000000) : rg1 (.int (n : Int)) = some ((List.range n).map nI) := by
  unfold rg1
  rw [dInt_i, Option.bind_some, if_pos (rngIn (by omega) (by omega)), Int.toNat_natCast, rngL_nat]
theorem rg1_int {n : Int} (h : n ≤ 1000000000) (h0 : -1000000000 ≤ n) : rg1 (.int n) = some ((rng 0 n).map .int) := by
  unfold rg1
  rw [dInt_i, Option.bind_some, if_pos (rngIn h0 h)]
  have := rngL_rng 0 n
  rw [Int.sub_zero] at this
  rw [this]
theorem rg2_int {a b : Int} (h1 : -1000000000 ≤ a) (h2 : a ≤ 1000000000) (h3 : -1000000000 ≤ b) (h4 : b ≤ 1000000000) : rg2 (.int a) (.int b) = some ((rng a b).map .int) := by
  unfold rg2
  rw [dInt_i, dInt_i, Option.bind_some, Option.bind_some, if_pos ⟨rngIn h1 h2, rngIn h3 h4⟩, rngL_rng]
theorem lr1_nat {n : Nat} (h : n ≤ 1000000) : lr1 (.int (n : Int)) = some ((List.range n).map nI) := by
  unfold lr1
  rw [dInt_i, Option.bind_some, if_pos (rgOk_of (by omega) (by omega) (by omega) (by omega)), Int.sub_zero, Int.toNat_natCast, rngL_nat]
@[simp] theorem enum_map {α : Type} (e : α → PyData) (as : List α) : enumD 0 (as.map e) = (as.zipIdx).map fun q => .tuple [.int (q.2 : Int), e q.1] := enumD_map e as 0
/-! step by step -/
theorem bs {α β : Type} {A : Option α} {F : α → Option β} {r : Option β} (y : α) (h : A = some y) (k : F y = r) : Option.bind A F = r := by rw [h]; exact k
theorem gf {α : Type} {T : Option Bool} {A B r : Option α} (h : T = some false) (k : B = r) : pIfE T A B = r := by rw [h]; exact k
theorem gt {α : Type} {T : Option Bool} {A B r : Option α} (h : T = some true) (k : A = r) : pIfE T A B = r := by rw [h]; exact k
theorem sgf {α σ : Type} {T : σ → Option (Bool × σ)} {A B : σ → Option α} {s s' : σ} {r : Option α} (h : T s = some (false, s')) (k : B s' = r) : sIfE T A B s = r := by simp only [sIfE, h, Option.bind_some]; exact k
theorem sgt {α σ : Type} {T : σ → Option (Bool × σ)} {A B : σ → Option α} {s s' : σ} {r : Option α} (h : T s = some (true, s')) (k : A s' = r) : sIfE T A B s = r := by simp only [sIfE, h, Option.bind_some]; exact k
/-! the same, where the state that is left is to be told -/
theorem bsE {α β γ : Type} {A : Option α} {F : α → Option β} {D : γ → Prop} {r : γ → Option β} (y : α) (h : A = some y) (k : ∃ s, D s ∧ F y = r s) : ∃ s, D s ∧ Option.bind A F = r s := by
  obtain ⟨s, h1, h2⟩ := k
  exact ⟨s, h1, bs y h h2⟩
theorem gfE {α γ : Type} {T : Option Bool} {A B : Option α} {D : γ → Prop} {r : γ → Option α} (h : T = some false) (k : ∃ s, D s ∧ B = r s) : ∃ s, D s ∧ pIfE T A B = r s := by
  obtain ⟨s, h1, h2⟩ := k
  exact ⟨s, h1, gf h h2⟩
theorem lcS_fil {α σ : Type} {F : PyData → σ → Option (Option PyData × σ)} {e : α → PyData} (G : α → Option PyData) {s : σ} : ∀ {as : List α}, (∀ a ∈ as, F (e a) s = some (G a, s)) → lcS F (as.map e) s = some (as.filterMap G, s)
  | [], _ => rfl
  | a :: as, h => by
    rw [List.map_cons, lcS, h a (by simp), Option.bind_some, lcS_fil G fun b hb => h b (by simp [hb]), Option.bind_some]
    cases hG : G a with
    | none => simp [hG]
    | some y => simp [hG]
theorem sLc_pure {α σ : Type} {I : σ → Option (List PyData × σ)} {F : PyData → σ → Option (Option PyData × σ)} {s s' : σ} {as : List α} (e : α → PyData) (G : α → Option PyData) (hi : I s = some (as.map e, s')) (hl : as.length ≤ 1000000) (h : ∀ a ∈ as, F (e a) s' = some (G a, s')) : sLc I F s = some (as.filterMap G, s') := by
  unfold sLc
  rw [hi, Option.bind_some]
  simp only
  rw [szL_of (by simpa using hl), Option.bind_some, lcS_fil G h]
end L2.FL
set_option Elab.async false
set_option linter.all false
set_option maxRecDepth 100000
set_option maxHeartbeats 4000000
/-! PL6: defs that may raise: the plain text of the call that catches. -/
namespace L2.FL
open PySem PySem.Spec L2
def pTk (P : List PyData → Option PyData) (A : Option PyData) : Option PyData := A.bind fun v => match v with
  | .list xs => (P xs).bind fun r => some (.bool (isN r))
  | _ => none
section
variable {Γ : Ctx} {g : SF} {n m : Nat} {P : List PyData → Option PyData} {f : EF} {A : Option PyData}
theorem pd_tk (hP : PuN g n m P) (a : PD Γ f A) : PD Γ (fTk g m n f) (pTk P A) := fun en hf x hx => by
  obtain ⟨v, e1, hx⟩ := Option.bind_eq_some_iff.mp hx
  match v, hx with
  | .list xs, hx =>
    obtain ⟨r, e2, hx⟩ := Option.bind_eq_some_iff.mp hx
    cases hx
    obtain ⟨en', q1, q2⟩ := a en hf _ e1
    obtain ⟨hl, as, q3⟩ := hP xs r e2
    refine ⟨en', ?_, q2⟩
    have q3' : fcall g n (xs.map SV.d) = some (r, as) := q3
    simp only [fTk, q1, Option.bind_some, hl, if_true, q3']
theorem pd_2V {o : PyData → PyData → Option PyData} {E : Option PyData} {c : PyData} (a : PV_ Γ f E) : PD Γ (f2 o f (fC c)) (p2 o E (some c)) := fun en hf x hx => by
  obtain ⟨y, qy, hx1⟩ := Option.bind_eq_some_iff.mp hx
  obtain ⟨z, qz, e⟩ := Option.bind_eq_some_iff.mp hx1
  cases qz
  obtain ⟨r, en1, e1, h1, e2⟩ := a en hf _ qy
  refine ⟨en1, ?_, h1⟩
  rw [x_f2, e1, Option.bind_some, x_fC, Option.bind_some, e2, Option.bind_some]
  show ((some c).bind fun y' => (o y y').bind fun z => some (RV.d z, en1)) = _
  rw [Option.bind_some, e]
  rfl
end
end L2.FL
set_option Elab.async false
set_option linter.all false
set_option maxRecDepth 100000
set_option maxHeartbeats 4000000
/-! plain texts of integers, printed by pgen.py -/
namespace HR
open PySem PySem.Spec L2 L2.FL

noncomputable def p_integers_is_integer (v_value : PyData) : Option PyData :=
  (pAndT (p1 (isKind "int") (some v_value)) (pNotT (p1 (isKind "bool") (some v_value))))
-- same_value: not printed
end HR
set_option Elab.async false
set_option linter.all false
set_option maxRecDepth 100000
set_option maxHeartbeats 4000000
/-! F_base: facts that all parts share. -/
namespace HR
open PySem PySem.Spec L2 L2.FL

@[simp] theorem is_int (n : Int) : p_integers_is_integer (.int n) = some (.bool true) := by simp [p_integers_is_integer]
@[simp] theorem is_int_b (b : Bool) : p_integers_is_integer (.bool b) = some (.bool false) := by
  have h1 : isKind "int" (.bool b) = some (.bool true) := kind_of (show kitB "bool" "int" = some true by decide +kernel)
  have h2 : isKind "bool" (.bool b) = some (.bool true) := kind_of (show kitB "bool" "bool" = some true by decide +kernel)
  simp [p_integers_is_integer, h1, h2]
abbrev tI (ns : List Int) : PyData := .tuple (ns.map .int)
abbrev tP (ps : List (Int × Int)) : PyData := .tuple (ps.map pr)
abbrev nT (ns : List Nat) : PyData := .tuple (ns.map nI)
abbrev sTr (s : String) : PyData := .str (PySem.Str.ofString s)
def tag3 (t : Str) (a b : Int) : PyData := .tuple [.str t, .int a, .int b]
@[simp] theorem pr0 (p : Int × Int) : oIx (pr p) (.int 0) = some (.int p.1) := rfl
@[simp] theorem pr1 (p : Int × Int) : oIx (pr p) (.int 1) = some (.int p.2) := rfl
@[simp] theorem isN_pr (p : Int × Int) : isN (pr p) = false := rfl
@[simp] theorem u2_pr {τ υ : Type} (U : PyData → Option τ) (V : PyData → Option υ) (p : Int × Int) : uTup (uCons U (uCons V uNil)) (pr p) = (U (.int p.1)).bind fun t => (V (.int p.2)).bind fun u => some (t, u, ()) := by
  simp only [pr, uTup_1, uCons_1, uNil_0]
  cases U (.int p.1) <;> simp
  cases V (.int p.2) <;> simp
theorem tup2 (a b : Int) : PyData.tuple [.int a, .int b] = pr (a, b) := rfl
/-- the i-th of a row of pairs -/
def gP (sps : List (Int × Int)) (i : Nat) : Int × Int := sps.getD i (0, 0)
def gF (sps : List (Int × Int)) (i : Nat) : Int := (gP sps i).1
def gL (sps : List (Int × Int)) (i : Nat) : Int := (gP sps i).2
@[simp] theorem gP1 (sps : List (Int × Int)) (i : Nat) : (gP sps i).1 = gF sps i := rfl
@[simp] theorem gP2 (sps : List (Int × Int)) (i : Nat) : (gP sps i).2 = gL sps i := rfl
theorem gP_at {sps : List (Int × Int)} {i : Nat} (h : i < sps.length) : sps[i]? = some (gP sps i) := by simp [gP, h]
theorem gP_mem {sps : List (Int × Int)} {i : Nat} (h : i < sps.length) : gP sps i ∈ sps := List.mem_of_getElem? (gP_at h)
theorem mem_gP {sps : List (Int × Int)} {p : Int × Int} (h : p ∈ sps) : ∃ i, i < sps.length ∧ gP sps i = p := by
  obtain ⟨i, hi⟩ := List.mem_iff_getElem?.mp h
  have hl := (List.getElem?_eq_some_iff.mp hi).1
  refine ⟨i, hl, ?_⟩
  have := gP_at hl
  rw [hi] at this
  exact (Option.some.inj this).symm
theorem atI_P {sps : List (Int × Int)} {i : Nat} (h : i < sps.length) : atI (sps.map pr) (i : Int) = some (pr (gP sps i)) := atI_nat pr (0, 0) h
theorem fil_none {α : Type} {p : α → Bool} {as : List α} (h : ∀ a ∈ as, p a = false) : as.filter p = [] := by
  rw [List.filter_eq_nil_iff]
  intro a ha
  rw [h a ha]
  exact Bool.false_ne_true
/-- the first of a row that has p -/
def fst (p : Nat → Bool) : List Nat → Nat
  | [] => 0
  | i :: r => if p i = true then i else fst p r
theorem fst_fil {p : Nat → Bool} : ∀ {l : List Nat}, (∃ i ∈ l, p i = true) → ∃ r, l.filter p = fst p l :: r
  | [], h => by obtain ⟨i, h, _⟩ := h; cases h
  | i :: l, h => by
    by_cases c : p i = true
    · exact ⟨l.filter p, by rw [List.filter_cons, if_pos c]; simp [fst, c]⟩
    · obtain ⟨j, hj, h2⟩ := h
      have hj' : j ∈ l := by
        rcases List.mem_cons.mp hj with rfl | hj
        · exact absurd h2 c
        · exact hj
      obtain ⟨r, hr⟩ := fst_fil ⟨j, hj', h2⟩
      exact ⟨r, by rw [List.filter_cons, if_neg c, hr]; simp [fst, c]⟩
theorem fst_mem {p : Nat → Bool} {l : List Nat} (h : ∃ i ∈ l, p i = true) : fst p l ∈ l ∧ p (fst p l) = true := by
  obtain ⟨r, hr⟩ := fst_fil h
  have : fst p l ∈ l.filter p := by rw [hr]; simp
  exact List.mem_filter.mp this
theorem incr_len {n : Nat} : ∀ {l : List Nat} {k : Nat}, l.Pairwise (· < ·) → (∀ i ∈ l, k ≤ i ∧ i < n) → l.length ≤ n - k
  | [], _, _, _ => Nat.zero_le _
  | i :: l, k, h, hb => by
    rw [List.pairwise_cons] at h
    have := hb i (by simp)
    have := incr_len (l := l) (k := i + 1) h.2 fun j hj => ⟨h.1 j hj, (hb j (by simp [hj])).2⟩
    rw [List.length_cons]
    omega
theorem flatMap_len {α β : Type} {F : α → List β} {m : Nat} : ∀ {as : List α}, (∀ a ∈ as, (F a).length ≤ m) → (as.flatMap F).length ≤ as.length * m
  | [], _ => by simp
  | a :: as, h => by
    have h1 := h a (by simp)
    have h2 := flatMap_len (as := as) fun b hb => h b (by simp [hb])
    rw [List.flatMap_cons, List.length_append, List.length_cons, Nat.add_mul]
    omega
/-- pairs of places that r joins, in order -/
def prsBy (l : List Nat) (r : Nat → Nat → Bool) : List (Int × Int) := l.flatMap fun i => (l.filter (r i)).map fun (j : Nat) => ((i : Int), (j : Int))
theorem prsBy_map (l : List Nat) (r : Nat → Nat → Bool) : (l.flatMap fun (i : Nat) => (l.filter (r i)).map fun (j : Nat) => pr ((i : Int), (j : Int))) = (prsBy l r).map pr := by
  unfold prsBy
  rw [List.map_flatMap]
  congr 1
  funext i
  rw [List.map_map]
  rfl
theorem prsBy_len {l : List Nat} {r : Nat → Nat → Bool} {n : Nat} (h : l.length ≤ n) : (prsBy l r).length ≤ n * n := by
  have := flatMap_len (F := fun (i : Nat) => (l.filter (r i)).map fun (j : Nat) => ((i : Int), (j : Int))) (m := l.length) (as := l) fun i _ => by
    rw [List.length_map]
    exact List.length_filter_le _ _
  exact Nat.le_trans this (Nat.mul_le_mul h h)
theorem prsBy_congr {l : List Nat} {r r' : Nat → Nat → Bool} (h : ∀ i ∈ l, ∀ j ∈ l, r i j = r' i j) : prsBy l r = prsBy l r' := by
  unfold prsBy
  have : ∀ m : List Nat, (∀ i ∈ m, i ∈ l) → (m.flatMap fun i => (l.filter (r i)).map fun (j : Nat) => ((i : Int), (j : Int))) = m.flatMap fun i => (l.filter (r' i)).map fun (j : Nat) => ((i : Int), (j : Int)) := by
    intro m
    induction m with
    | nil => intro _; rfl
    | cons i m ih =>
      intro hm
      rw [List.flatMap_cons, List.flatMap_cons, ih fun j hj => hm j (by simp [hj])]
      congr 2
      exact List.filter_congr fun j hj => h i (hm i (by simp)) j hj
  exact this l fun i hi => hi
theorem mem_prsBy {l : List Nat} {r : Nat → Nat → Bool} {a b : Int} : (a, b) ∈ prsBy l r ↔ ∃ i j : Nat, a = i ∧ b = j ∧ i ∈ l ∧ j ∈ l ∧ r i j = true := by
  unfold prsBy
  simp only [List.mem_flatMap, List.mem_map, List.mem_filter, Prod.mk.injEq]
  constructor
  · rintro ⟨i, h1, j, ⟨h2, h3⟩, rfl, rfl⟩
    exact ⟨i, j, rfl, rfl, h1, h2, h3⟩
  · rintro ⟨i, j, rfl, rfl, h1, h2, h3⟩
    exact ⟨i, h1, j, ⟨h2, h3⟩, rfl, rfl⟩
theorem zipIdx_snd {α : Type} (xs : List α) : (xs.zipIdx).map (fun q => nI q.2) = (List.range xs.length).map nI := by
  have := List.zipIdx_map_snd 0 xs
  rw [← List.range_eq_range'] at this
  rw [← this, List.map_map]
  rfl
theorem perm_sorted : ∀ {a b : List Int}, a.Perm b → a.Pairwise (· ≤ ·) → b.Pairwise (· ≤ ·) → a = b
  | [], b, h, _, _ => (List.Perm.nil_eq h)
  | x :: a, [], h, _, _ => (List.Perm.eq_nil h)
  | x :: a, y :: b, h, h1, h2 => by
    rw [List.pairwise_cons] at h1 h2
    have e : x = y := by
      have k1 : x ∈ y :: b := h.mem_iff.mp (by simp)
      have k2 : y ∈ x :: a := h.mem_iff.mpr (by simp)
      rcases List.mem_cons.mp k1 with q | q
      · exact q
      · rcases List.mem_cons.mp k2 with q2 | q2
        · exact q2.symm
        · have := h2.1 _ q
          have := h1.1 _ q2
          omega
    subst e
    rw [perm_sorted (List.Perm.cons_inv h) h1.2 h2.2]
theorem dataLe_int (a b : Int) : PySem.W.dataLe false id (.int a) (.int b) = decide (a ≤ b) := by
  have e : PySem.W.dataLt (.int b) (.int a) = decide (b < a) := PySem.W.dataLt_int _ _
  show (!PySem.W.dataLt (.int b) (.int a)) = _
  rw [e, Bool.eq_iff_iff]
  simp
theorem sortedI {ns qs : List Int} (hl : ns.length ≤ 1000000) (hp : ns.Perm qs) (hq : qs.Pairwise (· ≤ ·)) : oSorted [.list (ns.map .int)] = some (qs.map .int) := by
  have e1 : sortD (ns.map .int) = (ns.mergeSort fun a b => decide (a ≤ b)).map .int := by
    unfold sortD
    rw [List.map_mergeSort]
    intro a _ b _
    exact (dataLe_int a b).symm
  have pm := List.mergeSort_perm ns (fun a b => decide (a ≤ b))
  have so := List.pairwise_mergeSort (le := fun a b : Int => decide (a ≤ b)) (fun a b c h1 h2 => by simp only [decide_eq_true_eq] at *; omega) (fun a b => by rw [Bool.or_eq_true, decide_eq_true_eq, decide_eq_true_eq]; omega) ns
  have e2 : (ns.mergeSort fun a b => decide (a ≤ b)) = qs := perm_sorted (pm.trans hp) (so.imp fun {a b} h => by simpa using h) hq
  have h2 : ns.length ≤ sizeLine := small_size hl
  have ok : sortOk (ns.map PyData.int) = true := by
    simp only [sortOk, Bool.and_eq_true, okdAllI, List.all_eq_true, decide_eq_true_eq, List.length_map, Bool.or_eq_true]
    refine ⟨⟨⟨?_, trivial⟩, h2⟩, .inr ?_⟩
    · intro x hx y hy
      obtain ⟨p, _, rfl⟩ := List.mem_map.mp hx
      obtain ⟨q, _, rfl⟩ := List.mem_map.mp hy
      rfl
    · intro x hx
      obtain ⟨p, _, rfl⟩ := List.mem_map.mp hx
      rfl
  show (if sortOk (ns.map .int) then some (sortD (ns.map .int)) else none) = _
  rw [ok, e1, e2]
  rfl
theorem eq_str (a b : Str) : oEq (.str a) (.str b) = some (.bool (a == b)) := by simp [oEq, okd, PyData.plain, PyData.depth, PyData.eqv]
theorem ne_str (a b : Str) : oNe (.str a) (.str b) = some (.bool (!(a == b))) := by simp [oNe, okd, PyData.plain, PyData.depth, PyData.eqv]
theorem str_refl (a : Str) : (a == a) = true := by simp
@[simp] theorem tag0 (t : Str) (a b : Int) : oIx (tag3 t a b) (.int 0) = some (.str t) := rfl
@[simp] theorem tag1 (t : Str) (a b : Int) : oIx (tag3 t a b) (.int 1) = some (.int a) := rfl
@[simp] theorem tag2 (t : Str) (a b : Int) : oIx (tag3 t a b) (.int 2) = some (.int b) := rfl
theorem tagS (t : Str) (a b : Int) : slD (tag3 t a b) (some 1) none = some (.tuple [.int a, .int b]) := rfl
theorem tagC (t : Str) (a b : Int) : oAdd (.tuple [.str t]) (.tuple [.int a, .int b]) = some (tag3 t a b) := o_cat (by simp)
theorem zip_fil2 {α : Type} (d : α) (p : Nat → α → Bool) (as : List α) : ((as.zipIdx).filter fun q => p q.2 q.1).map (fun q => nI q.2) = ((List.range as.length).filter fun i => p i (as.getD i d)).map nI := by
  have key : ∀ (as : List α) (k : Nat) (f : Nat → α), (∀ i, i < as.length → as.getD i d = f (k + i)) → ((as.zipIdx k).filter fun q => p q.2 q.1).map (fun q => nI q.2) = ((List.range' k as.length).filter fun i => p i (f i)).map nI := by
    intro as
    induction as with
    | nil => intros; rfl
    | cons a as ih =>
      intro k f hf
      have h0 := hf 0 (by simp)
      simp at h0
      have ih' := ih (k + 1) f fun i hi => by
        have := hf (i + 1) (by simpa using hi)
        simp at this
        rw [show k + 1 + i = k + (i + 1) by omega, ← this]
        simp
      rw [List.zipIdx_cons, List.length_cons, List.range'_succ, List.filter_cons, List.filter_cons]
      simp only
      rw [← h0]
      by_cases c : p k a = true
      · rw [if_pos c, if_pos c, List.map_cons, List.map_cons, ih']
      · rw [if_neg c, if_neg c, ih']
  have := key as 0 (fun i => as.getD i d) fun i _ => by simp
  rw [this, List.range_eq_range']
end HR
set_option Elab.async false
set_option linter.all false
set_option maxRecDepth 100000
set_option maxHeartbeats 4000000
/-! plain texts of wear, printed by pgen.py -/
namespace HR
open PySem PySem.Spec L2 L2.FL

noncomputable def p_wear_is_amount (v_value : PyData) : Option PyData :=
  (pAndT (pCl (ap1 HR.p_integers_is_integer) (pCs (some v_value) pNl)) (pChain oLe oLe (some (.int 0)) (some v_value) (some (.int 1000000000000))))
noncomputable def p_wear_check_standard (v_standard : PyData) : Option PyData :=
  (pIfE (pOr (pNot (pTr (p1 (isKind "tuple") (some v_standard)))) (pOr (pBl (p2 oNe (pB oLen (pCs (some v_standard) pNl)) (some (.int 4)))) (pNot (pTr (pB oAll (pCs (pOfL (pLc (pSeq (some v_standard)) fun x_1 => (uSet x_1).bind fun t_2 => pAll (pCl (ap1 HR.p_wear_is_amount) (pCs (some t_2) pNl)))) pNl)))))) none
  (pIfE (pOr (pNot (pBl (pChain oLe oLe (some (.int 1)) (p2 oIx (some v_standard) (some (.int 0))) (p2 oIx (some v_standard) (some (.int 1)))))) (pNot (pBl (p2 oLe (p2 oIx (some v_standard) (some (.int 2))) (p2 oIx (some v_standard) (some (.int 3))))))) none (some PyData.none)))
noncomputable def p_wear_check_weight (v_weight : PyData) : Option PyData :=
  (pIfE (pNot (pTr (pCl (ap1 HR.p_wear_is_amount) (pCs (some v_weight) pNl)))) none (some PyData.none))
noncomputable def p_wear_check_weights (v_weights : PyData) : Option PyData :=
  (pIfE (pOr (pNot (pTr (p1 (isKind "tuple") (some v_weights)))) (pNot (pBl (pChain oLe oLe (some (.int 1)) (pB oLen (pCs (some v_weights) pNl)) (some (.int 60)))))) none
  (pIfE (pNot (pTr (pB oAll (pCs (pOfL (pLc (pSeq (some v_weights)) fun x_1 => (uSet x_1).bind fun t_2 => pAll (pCl (ap1 HR.p_wear_is_amount) (pCs (some t_2) pNl)))) pNl)))) none (some PyData.none)))
noncomputable def p_wear_span_of (v_standard : PyData) (v_weight : PyData) : Option PyData :=
  (Option.bind (Option.bind (some v_standard) (uTup (uCons uSet (uCons uSet (uCons uSet (uCons uSet uNil)))))) fun t_1 =>
  (pIfE (pBl (p2 oGt (some v_weight) (some t_1.2.1))) (some .none)
  (Option.bind (some (.int 0)) fun v_first_2 =>
  (thenR (pIfE (pBl (p2 oLt (some v_weight) (some t_1.1))) (pIfE (pBl (p2 oEq (some t_1.2.2.2.1) (some (.int 0)))) (Option.map Oc.rt (some .none))
  (Option.bind (p1 oNeg (p2 oDiv (p2 oSub (some v_weight) (some t_1.1)) (some t_1.2.2.2.1))) fun v_first_4 => some (Oc.nx v_first_4))) (some (Oc.nx v_first_2))) fun t_3 =>
  (Option.bind (some (.int 5000)) fun v_last_5 =>
  (Option.bind (pIfE (pAnd (pBl (p2 oGt (some t_1.2.2.1) (some (.int 0)))) (pBl (p2 oGt (some v_weight) (some (.int 0))))) (Option.bind (pB oMin (pCs (some v_last_5) (pCs (p2 oDiv (p2 oSub (some t_1.2.1) (some v_weight)) (some t_1.2.2.1)) pNl))) fun v_last_7 => some v_last_7) (some v_last_5)) fun t_6 =>
  (pIfE (pBl (p2 oLe (some t_3) (some t_6))) (pTup (pCs (some t_3) (pCs (some t_6) pNl))) (some .none))))))))
noncomputable def p_wear_years_for (v_standard : PyData) (v_weight : PyData) : Option PyData :=
  (Option.bind (pCl (ap1 HR.p_wear_check_standard) (pCs (some v_standard) pNl)) fun _u_1 =>
  (Option.bind (pCl (ap1 HR.p_wear_check_weight) (pCs (some v_weight) pNl)) fun _u_2 =>
  (pCl (ap2 HR.p_wear_span_of) (pCs (some v_standard) (pCs (some v_weight) pNl)))))
noncomputable def p_wear_check_years (v_years : PyData) : Option PyData :=
  (pIfE (pOr (pNot (pTr (pCl (ap1 HR.p_integers_is_integer) (pCs (some v_years) pNl)))) (pNot (pBl (pChain oLe oLe (some (.int 0)) (some v_years) (some (.int 5000)))))) none (some PyData.none))
noncomputable def p_wear_can_weigh (v_standard : PyData) (v_years : PyData) : Option PyData :=
  (Option.bind (pCl (ap1 HR.p_wear_check_standard) (pCs (some v_standard) pNl)) fun _u_1 =>
  (Option.bind (pCl (ap1 HR.p_wear_check_years) (pCs (some v_years) pNl)) fun _u_2 =>
  (Option.bind (Option.bind (some v_standard) (uTup (uCons uSet (uCons uSet (uCons uSet (uCons uSet uNil)))))) fun t_3 =>
  (pTup (pCs (pB oMax (pCs (some (.int 0)) (pCs (p2 oSub (some t_3.1) (p2 oMul (some t_3.2.2.2.1) (some v_years))) pNl))) (pCs (pB oMax (pCs (some (.int 0)) (pCs (p2 oSub (some t_3.2.1) (p2 oMul (some t_3.2.2.1) (some v_years))) pNl))) pNl))))))
noncomputable def p_wear_judge_common (v_standard : PyData) (v_weights : PyData) : Option PyData :=
  (Option.bind (pCl (ap1 HR.p_wear_check_standard) (pCs (some v_standard) pNl)) fun _u_1 =>
  (Option.bind (pCl (ap1 HR.p_wear_check_weights) (pCs (some v_weights) pNl)) fun _u_2 =>
  (Option.bind (pOfL (pLc (pSeq (some v_weights)) fun x_4 => (uSet x_4).bind fun t_5 => pAll (pCl (ap2 HR.p_wear_span_of) (pCs (some v_standard) (pCs (some t_5) pNl))))) fun v_spans_3 =>
  (pIfE (pBl (p2 oIn (some .none) (some v_spans_3))) (pTup (pCs (some (.str (PySem.Str.ofString "never"))) (pCs (pMethL oIndex (some v_spans_3) (some .none)) pNl)))
  (Option.bind (Option.bind (pOfL (pLc (pSeq (some v_spans_3)) fun x_7 => (uSet x_7).bind fun t_8 => pAll (p2 oIx (some t_8) (some (.int 0))))) fun u_13 => Option.bind (Option.bind (pOfL (pLc (pSeq (some v_spans_3)) fun x_9 => (uSet x_9).bind fun t_10 => pAll (p2 oIx (some t_10) (some (.int 1))))) fun u_11 => Option.bind (some ()) fun w_12 => some (u_11, w_12)) fun w_14 => some (u_13, w_14)) fun t_6 =>
  (pIfE (pBl (p2 oGt (pB oMax (pCs (some t_6.1) pNl)) (pB oMin (pCs (some t_6.2.1) pNl)))) (pTup (pCs (some (.str (PySem.Str.ofString "apart"))) (pCs (pMethL oIndex (some t_6.2.1) (pB oMin (pCs (some t_6.2.1) pNl))) (pCs (pMethL oIndex (some t_6.1) (pB oMax (pCs (some t_6.1) pNl))) pNl))))
  (pTup (pCs (some (.str (PySem.Str.ofString "years"))) (pCs (pB oMax (pCs (some t_6.1) pNl)) (pCs (pB oMin (pCs (some t_6.2.1) pNl)) pNl))))))))))
noncomputable def p_wear_accept_apart (v_standard : PyData) (v_weights : PyData) (v_one : PyData) (v_other : PyData) : Option PyData :=
  (Option.bind (pCl (ap1 HR.p_wear_check_standard) (pCs (some v_standard) pNl)) fun _u_1 =>
  (Option.bind (pCl (ap1 HR.p_wear_check_weights) (pCs (some v_weights) pNl)) fun _u_2 =>
  (pIfE (pNot (pTr (pB oAll (pCs (pOfL (pLc (pSeq (pTup (pCs (some v_one) (pCs (some v_other) pNl)))) fun x_3 => (uSet x_3).bind fun t_4 => pAll (pAndT (pCl (ap1 HR.p_integers_is_integer) (pCs (some t_4) pNl)) (pChain oLe oLt (some (.int 0)) (some t_4) (pB oLen (pCs (some v_weights) pNl)))))) pNl)))) none
  (Option.bind (pOfL (pLc (pSeq (pTup (pCs (some v_one) (pCs (some v_other) pNl)))) fun x_6 => (uSet x_6).bind fun t_7 => pAll (pCl (ap2 HR.p_wear_span_of) (pCs (some v_standard) (pCs (p2 oIx (some v_weights) (some t_7)) pNl))))) fun v_spans_5 =>
  (pIfE (pBl (p2 oIn (some .none) (some v_spans_5))) none
  (pIfE (pBl (p2 oGe (p2 oIx (p2 oIx (some v_spans_5) (some (.int 0))) (some (.int 1))) (p2 oIx (p2 oIx (some v_spans_5) (some (.int 1))) (some (.int 0))))) none (some PyData.none)))))))
noncomputable def p_wear_x_accept_apart (v_standard : PyData) (v_weights : PyData) (v_one : PyData) (v_other : PyData) : Option PyData :=
  (Option.bind (pCl (ap1 HR.p_wear_check_standard) (pCs (some v_standard) pNl)) fun _u_1 =>
  (Option.bind (pCl (ap1 HR.p_wear_check_weights) (pCs (some v_weights) pNl)) fun _u_2 =>
  (pIfE (pNot (pTr (pB oAll (pCs (pOfL (pLc (pSeq (pTup (pCs (some v_one) (pCs (some v_other) pNl)))) fun x_3 => (uSet x_3).bind fun t_4 => pAll (pAndT (pCl (ap1 HR.p_integers_is_integer) (pCs (some t_4) pNl)) (pChain oLe oLt (some (.int 0)) (some t_4) (pB oLen (pCs (some v_weights) pNl)))))) pNl)))) (some (.bool false))
  (Option.bind (pOfL (pLc (pSeq (pTup (pCs (some v_one) (pCs (some v_other) pNl)))) fun x_6 => (uSet x_6).bind fun t_7 => pAll (pCl (ap2 HR.p_wear_span_of) (pCs (some v_standard) (pCs (p2 oIx (some v_weights) (some t_7)) pNl))))) fun v_spans_5 =>
  (pIfE (pBl (p2 oIn (some .none) (some v_spans_5))) (some (.bool false))
  (pIfE (pBl (p2 oGe (p2 oIx (p2 oIx (some v_spans_5) (some (.int 0))) (some (.int 1))) (p2 oIx (p2 oIx (some v_spans_5) (some (.int 1))) (some (.int 0))))) (some (.bool false)) (some PyData.none)))))))
noncomputable def p_wear_accept_years (v_standard : PyData) (v_weights : PyData) (v_years : PyData) : Option PyData :=
  (Option.bind (pCl (ap1 HR.p_wear_check_standard) (pCs (some v_standard) pNl)) fun _u_1 =>
  (Option.bind (pCl (ap1 HR.p_wear_check_weights) (pCs (some v_weights) pNl)) fun _u_2 =>
  (pIfE (pOr (pNot (pTr (pCl (ap1 HR.p_integers_is_integer) (pCs (some v_years) pNl)))) (pNot (pBl (pChain oLe oLe (some (.int 0)) (some v_years) (some (.int 5000)))))) none
  (Option.bind (pFold (pSeq (some v_weights)) (fun (x_4 : PyData) (st_3 : Unit) => (uSet x_4).bind fun t_5 => (Option.bind (pCl (ap2 HR.p_wear_span_of) (pCs (some v_standard) (pCs (some t_5) pNl))) fun v_span_6 =>
  (Option.bind (pIfE (pOr (pBl (pIsN (some v_span_6))) (pNot (pBl (pChain oLe oLe (p2 oIx (some v_span_6) (some (.int 0))) (some v_years) (p2 oIx (some v_span_6) (some (.int 1))))))) none (some ())) fun t_7 => some ()))) ()) fun _ => some PyData.none))))
noncomputable def p_wear_x_accept_years (v_standard : PyData) (v_weights : PyData) (v_years : PyData) : Option PyData :=
  (Option.bind (pCl (ap1 HR.p_wear_check_standard) (pCs (some v_standard) pNl)) fun _u_1 =>
  (Option.bind (pCl (ap1 HR.p_wear_check_weights) (pCs (some v_weights) pNl)) fun _u_2 =>
  (pIfE (pOr (pNot (pTr (pCl (ap1 HR.p_integers_is_integer) (pCs (some v_years) pNl)))) (pNot (pBl (pChain oLe oLe (some (.int 0)) (some v_years) (some (.int 5000)))))) (some (.bool false))
  (thenR (pFor (pSeq (some v_weights)) (fun (x_4 : PyData) (st_3 : Unit) => (uSet x_4).bind fun t_5 => (Option.bind (pCl (ap2 HR.p_wear_span_of) (pCs (some v_standard) (pCs (some t_5) pNl))) fun v_span_6 =>
  (pIfE (pOr (pBl (pIsN (some v_span_6))) (pNot (pBl (pChain oLe oLe (p2 oIx (some v_span_6) (some (.int 0))) (some v_years) (p2 oIx (some v_span_6) (some (.int 1))))))) (Option.map Oc.rt (some (.bool false))) (some (Oc.nx ()))))) ()) fun _ => some PyData.none))))
noncomputable def p_wear_struck_between (v_standard : PyData) (v_weights : PyData) (v_closed : PyData) : Option PyData :=
  (Option.bind (pCl (ap1 HR.p_wear_check_standard) (pCs (some v_standard) pNl)) fun _u_1 =>
  (Option.bind (pCl (ap1 HR.p_wear_check_weights) (pCs (some v_weights) pNl)) fun _u_2 =>
  (pIfE (pOr (pNot (pTr (pCl (ap1 HR.p_integers_is_integer) (pCs (some v_closed) pNl)))) (pNot (pBl (pChain oLe oLe (p1 oNeg (some (.int 5000))) (some v_closed) (some (.int 5000)))))) none
  (Option.bind (pLst pNl) fun v_found_3 =>
  (Option.bind (pFold (pSeq (some v_weights)) (fun (x_5 : PyData) (st_4 : List PyData) => (uSet x_5).bind fun t_6 => (Option.bind (pCl (ap2 HR.p_wear_span_of) (pCs (some v_standard) (pCs (some t_6) pNl))) fun v_span_7 =>
  (Option.bind (pApp st_4 (pIfE (pBl (pIsN (some v_span_7))) (some .none) (pTup (pCs (p2 oSub (some v_closed) (p2 oIx (some v_span_7) (some (.int 1)))) (pCs (p2 oSub (some v_closed) (p2 oIx (some v_span_7) (some (.int 0)))) pNl))))) fun v_found_8 => some v_found_8))) v_found_3) fun st_4 =>
  (pB oTuple (pCs (some (.list st_4)) pNl)))))))
noncomputable def p_wear_surely_older (v_standard : PyData) (v_weights : PyData) : Option PyData :=
  (Option.bind (pCl (ap1 HR.p_wear_check_standard) (pCs (some v_standard) pNl)) fun _u_1 =>
  (Option.bind (pCl (ap1 HR.p_wear_check_weights) (pCs (some v_weights) pNl)) fun _u_2 =>
  (Option.bind (pOfL (pLc (pSeq (some v_weights)) fun x_4 => (uSet x_4).bind fun t_5 => pAll (pCl (ap2 HR.p_wear_span_of) (pCs (some v_standard) (pCs (some t_5) pNl))))) fun v_spans_3 =>
  (Option.bind (pOfL (pLc (pEnum (some v_spans_3)) fun x_7 => ((uTup (uCons uSet (uCons uSet uNil))) x_7).bind fun t_8 => pIfS (pBl (pNotN (some t_8.2.1))) (some t_8.1))) fun v_good_6 =>
  (pB oTuple (pCs (pOfL (pLc2 (pSeq (some v_good_6)) fun x_9 => (uSet x_9).bind fun t_10 => pIfL (some true) (pSeq (some v_good_6)) fun x_11 => (uSet x_11).bind fun t_12 => pIfS (pBl (p2 oGt (p2 oIx (p2 oIx (some v_spans_3) (some t_10)) (some (.int 0))) (p2 oIx (p2 oIx (some v_spans_3) (some t_12)) (some (.int 1))))) (pTup (pCs (some t_10) (pCs (some t_12) pNl))))) pNl))))))
noncomputable def p_wear_check_dated (v_dated : PyData) : Option PyData :=
  (pIfE (pOr (pNot (pTr (p1 (isKind "tuple") (some v_dated)))) (pNot (pBl (pChain oLe oLe (some (.int 1)) (pB oLen (pCs (some v_dated) pNl)) (some (.int 60)))))) none
  (Option.bind (pFold (pSeq (some v_dated)) (fun (x_2 : PyData) (st_1 : Unit) => (uSet x_2).bind fun t_3 => (pIfE (pOr (pNot (pTr (p1 (isKind "tuple") (some t_3)))) (pOr (pBl (p2 oNe (pB oLen (pCs (some t_3) pNl)) (some (.int 3)))) (pNot (pTr (pB oAll (pCs (pOfL (pLc (pSeq (some t_3)) fun x_4 => (uSet x_4).bind fun t_5 => pAll (pCl (ap1 HR.p_wear_is_amount) (pCs (some t_5) pNl)))) pNl)))))) none
  (Option.bind (pIfE (pOr (pBl (p2 oGt (p2 oIx (some t_3) (some (.int 0))) (p2 oIx (some t_3) (some (.int 1))))) (pNot (pBl (pChain oLe oLe (some (.int 1)) (p2 oIx (some t_3) (some (.int 2))) (some (.int 5000)))))) none (some ())) fun t_6 => some ()))) ()) fun _ => some PyData.none))
noncomputable def p_wear_less (v_one : PyData) (v_other : PyData) : Option PyData :=
  (p2 oLt (p2 oMul (p2 oIx (some v_one) (some (.int 0))) (p2 oIx (some v_other) (some (.int 1)))) (p2 oMul (p2 oIx (some v_other) (some (.int 0))) (p2 oIx (some v_one) (some (.int 1)))))
noncomputable def p_wear_quotient (v_up : PyData) (v_down : PyData) : Option PyData :=
  (Option.bind (Option.bind (some v_up) fun u_4 => Option.bind (Option.bind (some v_down) fun u_2 => Option.bind (some ()) fun w_3 => some (u_2, w_3)) fun w_5 => some (u_4, w_5)) fun t_1 =>
  (Option.bind (pWh (fun (st_6 : PyData × PyData) => (pTr (some st_6.2))) (fun (st_6 : PyData × PyData) => (Option.bind (Option.bind (some st_6.2) fun u_10 => Option.bind (Option.bind (p2 oMod (some st_6.1) (some st_6.2)) fun u_8 => Option.bind (some ()) fun w_9 => some (u_8, w_9)) fun w_11 => some (u_10, w_11)) fun t_7 => some (t_7.1, t_7.2.1))) (t_1.1, t_1.2.1)) fun st_6 =>
  (pTup (pCs (p2 oDiv (some v_up) (some st_6.1)) (pCs (p2 oDiv (some v_down) (some st_6.1)) pNl)))))
noncomputable def p_wear_judge_rate (v_dated : PyData) : Option PyData :=
  (Option.bind (pCl (ap1 HR.p_wear_check_dated) (pCs (some v_dated) pNl)) fun _u_1 =>
  (Option.bind (Option.bind (some (.int 0)) fun u_5 => Option.bind (Option.bind (some (.int 0)) fun u_3 => Option.bind (some ()) fun w_4 => some (u_3, w_4)) fun w_6 => some (u_5, w_6)) fun t_2 =>
  (Option.bind (pFold (pEnum (some v_dated)) (fun (x_8 : PyData) (st_7 : PyData × PyData) => ((uTup (uCons uSet (uCons (uTup (uCons uSet (uCons uSet (uCons uSet uNil)))) uNil))) x_8).bind fun t_9 => (Option.bind (pIfE (pTr (pCl (ap2 HR.p_wear_less) (pCs (pTup (pCs (some t_9.2.1.2.1) (pCs (some t_9.2.1.2.2.1) pNl))) (pCs (pSl (p2 oIx (some v_dated) (some st_7.1)) (pPt (some (.int 1))) pNoP) pNl)))) (Option.bind (some t_9.1) fun v_one_11 => some v_one_11) (some st_7.1)) fun t_10 =>
  (Option.bind (pIfE (pTr (pCl (ap2 HR.p_wear_less) (pCs (pTup (pCs (p2 oIx (p2 oIx (some v_dated) (some st_7.2)) (some (.int 0))) (pCs (p2 oIx (p2 oIx (some v_dated) (some st_7.2)) (some (.int 2))) pNl))) (pCs (pTup (pCs (some t_9.2.1.1) (pCs (some t_9.2.1.2.2.1) pNl))) pNl)))) (Option.bind (some t_9.1) fun v_other_13 => some v_other_13) (some st_7.2)) fun t_12 => some (t_10, t_12)))) (t_2.1, t_2.2.1)) fun st_7 =>
  (pIfE (pTr (pCl (ap2 HR.p_wear_less) (pCs (pSl (p2 oIx (some v_dated) (some st_7.1)) (pPt (some (.int 1))) pNoP) (pCs (pTup (pCs (p2 oIx (p2 oIx (some v_dated) (some st_7.2)) (some (.int 0))) (pCs (p2 oIx (p2 oIx (some v_dated) (some st_7.2)) (some (.int 2))) pNl))) pNl)))) (pTup (pCs (some (.str (PySem.Str.ofString "apart"))) (pCs (some st_7.1) (pCs (some st_7.2) pNl))))
  (pTup (pCs (some (.str (PySem.Str.ofString "rate"))) (pCs (pCl (ap2 HR.p_wear_quotient) (pCs (p2 oIx (p2 oIx (some v_dated) (some st_7.2)) (some (.int 0))) (pCs (p2 oIx (p2 oIx (some v_dated) (some st_7.2)) (some (.int 2))) pNl))) (pCs (pCl (ap2 HR.p_wear_quotient) (pCs (p2 oIx (p2 oIx (some v_dated) (some st_7.1)) (some (.int 1))) (pCs (p2 oIx (p2 oIx (some v_dated) (some st_7.1)) (some (.int 2))) pNl))) pNl))))))))
noncomputable def p_wear_accept_rate (v_dated : PyData) (v_rate : PyData) : Option PyData :=
  (Option.bind (pCl (ap1 HR.p_wear_check_dated) (pCs (some v_dated) pNl)) fun _u_1 =>
  (pIfE (pOr (pNot (pTr (p1 (isKind "tuple") (some v_rate)))) (pOr (pBl (p2 oNe (pB oLen (pCs (some v_rate) pNl)) (some (.int 2)))) (pNot (pTr (pB oAll (pCs (pOfL (pLc (pSeq (some v_rate)) fun x_2 => (uSet x_2).bind fun t_3 => pAll (pCl (ap1 HR.p_integers_is_integer) (pCs (some t_3) pNl)))) pNl)))))) none
  (pIfE (pOr (pBl (p2 oLt (p2 oIx (some v_rate) (some (.int 0))) (some (.int 0)))) (pOr (pBl (p2 oLt (p2 oIx (some v_rate) (some (.int 1))) (some (.int 1)))) (pBl (p2 oNe (pCl (ap2 HR.p_wear_quotient) (pCs (p2 oIx (some v_rate) (some (.int 0))) (pCs (p2 oIx (some v_rate) (some (.int 1))) pNl))) (some v_rate))))) none
  (Option.bind (pFold (pSeq (some v_dated)) (fun (x_5 : PyData) (st_4 : Unit) => ((uTup (uCons uSet (uCons uSet (uCons uSet uNil)))) x_5).bind fun t_6 => (Option.bind (pIfE (pOr (pTr (pCl (ap2 HR.p_wear_less) (pCs (some v_rate) (pCs (pTup (pCs (some t_6.1) (pCs (some t_6.2.2.1) pNl))) pNl)))) (pTr (pCl (ap2 HR.p_wear_less) (pCs (pTup (pCs (some t_6.2.1) (pCs (some t_6.2.2.1) pNl))) (pCs (some v_rate) pNl))))) none (some ())) fun t_7 => some ())) ()) fun _ => some PyData.none))))
noncomputable def p_wear_x_accept_rate (v_dated : PyData) (v_rate : PyData) : Option PyData :=
  (Option.bind (pCl (ap1 HR.p_wear_check_dated) (pCs (some v_dated) pNl)) fun _u_1 =>
  (pIfE (pOr (pNot (pTr (p1 (isKind "tuple") (some v_rate)))) (pOr (pBl (p2 oNe (pB oLen (pCs (some v_rate) pNl)) (some (.int 2)))) (pNot (pTr (pB oAll (pCs (pOfL (pLc (pSeq (some v_rate)) fun x_2 => (uSet x_2).bind fun t_3 => pAll (pCl (ap1 HR.p_integers_is_integer) (pCs (some t_3) pNl)))) pNl)))))) (some (.bool false))
  (pIfE (pOr (pBl (p2 oLt (p2 oIx (some v_rate) (some (.int 0))) (some (.int 0)))) (pOr (pBl (p2 oLt (p2 oIx (some v_rate) (some (.int 1))) (some (.int 1)))) (pBl (p2 oNe (pCl (ap2 HR.p_wear_quotient) (pCs (p2 oIx (some v_rate) (some (.int 0))) (pCs (p2 oIx (some v_rate) (some (.int 1))) pNl))) (some v_rate))))) (some (.bool false))
  (thenR (pFor (pSeq (some v_dated)) (fun (x_5 : PyData) (st_4 : Unit) => ((uTup (uCons uSet (uCons uSet (uCons uSet uNil)))) x_5).bind fun t_6 => (pIfE (pOr (pTr (pCl (ap2 HR.p_wear_less) (pCs (some v_rate) (pCs (pTup (pCs (some t_6.1) (pCs (some t_6.2.2.1) pNl))) pNl)))) (pTr (pCl (ap2 HR.p_wear_less) (pCs (pTup (pCs (some t_6.2.1) (pCs (some t_6.2.2.1) pNl))) (pCs (some v_rate) pNl))))) (Option.map Oc.rt (some (.bool false))) (some (Oc.nx ())))) ()) fun _ => some PyData.none))))
end HR
set_option Elab.async false
set_option linter.all false
set_option maxRecDepth 100000
set_option maxHeartbeats 4000000
/-! F_wear: what the defs of wear give. -/
namespace HR
open PySem PySem.Spec L2 L2.FL

structure Std where
  lo : Int
  hi : Int
  le : Int
  mo : Int
  h1 : 1 ≤ lo
  h2 : lo ≤ hi
  h3 : hi ≤ 1000000000000
  h4 : 0 ≤ le
  h5 : le ≤ mo
  h6 : mo ≤ 1000000000000
def stdD (s : Std) : PyData := tI [s.lo, s.hi, s.le, s.mo]
theorem w_amount {n : Int} (h : 0 ≤ n) (h2 : n ≤ 1000000000000) : p_wear_is_amount (.int n) = some (.bool true) := by simp [p_wear_is_amount, h, h2]
theorem w_check_weight {n : Int} (h : 0 ≤ n) (h2 : n ≤ 1000000000000) : p_wear_check_weight (.int n) = some .none := by simp [p_wear_check_weight, w_amount h h2]
theorem w_check_years {n : Int} (h : 0 ≤ n) (h2 : n ≤ 5000) : p_wear_check_years (.int n) = some .none := by simp [p_wear_check_years, h, h2]
theorem w_check_standard (s : Std) : p_wear_check_standard (stdD s) = some .none := by
  have := s.h1; have := s.h2; have := s.h3; have := s.h4; have := s.h5; have := s.h6
  have z1 := s.h1
  have z2 := s.h2
  have z3 := s.h5
  simp [p_wear_check_standard, stdD]
  rw [show [PyData.int s.lo, .int s.hi, .int s.le, .int s.mo] = [s.lo, s.hi, s.le, s.mo].map .int from rfl, pLc_all (as := [s.lo, s.hi, s.le, s.mo]) .int (fun _ => .bool true) (by simp) fun n hn => ?_]
  · simp [oAll, toBls, z1, z2, z3]
  · have hb : 0 ≤ n ∧ n ≤ 1000000000000 := by
      simp only [List.mem_cons, List.not_mem_nil, or_false] at hn
      omega
    simp [w_amount hb.1 hb.2]
structure Wts (ws : List Int) : Prop where
  ne : 1 ≤ ws.length
  len : ws.length ≤ 60
  b : ∀ w ∈ ws, 0 ≤ w ∧ w ≤ 1000000000000
theorem w_check_weights {ws : List Int} (h : Wts ws) : p_wear_check_weights (tI ws) = some .none := by
  have h1 := h.ne
  have h2 := h.len
  have z1 : (1 : Int) ≤ (ws.length : Int) := by omega
  have z2 : (ws.length : Int) ≤ 60 := by omega
  simp [p_wear_check_weights, z1, z2]
  rw [pLc_all (as := ws) .int (fun _ => .bool true) (by omega) fun n hn => by simp [w_amount (h.b n hn).1 (h.b n hn).2]]
  simp [allT]
/-- the years that a weight may have been worn -/
def fi (s : Std) (w : Int) : Int := if w < s.lo then -((w - s.lo) / s.mo) else 0
def la (s : Std) (w : Int) : Int := if 0 < s.le ∧ 0 < w then min 5000 ((s.hi - w) / s.le) else 5000
def sp (s : Std) (w : Int) : Option (Int × Int) := if s.hi < w then none else if w < s.lo ∧ s.mo = 0 then none else if fi s w ≤ la s w then some (fi s w, la s w) else none
def spD : Option (Int × Int) → PyData
  | none => .none
  | some p => pr p
@[simp] theorem spD_n : spD none = .none := rfl
@[simp] theorem spD_s (p : Int × Int) : spD (some p) = pr p := rfl
theorem w_span_of (s : Std) (w : Int) : p_wear_span_of (stdD s) (.int w) = some (spD (sp s w)) := by
  have h4 := s.h4
  have h5 := s.h5
  have h6 := s.h6
  have el : ∀ x : Int, la s w = x → (if fi s w ≤ x then some (pr (fi s w, x)) else some PyData.none) = some (spD (if fi s w ≤ la s w then some (fi s w, la s w) else none)) := fun x e => by
    rw [e]
    split <;> rfl
  simp only [p_wear_span_of, stdD, sp]
  by_cases c1 : s.hi < w
  · simp [c1]
  · by_cases c2 : w < s.lo
    · by_cases c3 : s.mo = 0
      · simp [c1, c2, c3]
      · have d1 : ∀ i, oDiv (.int i) (.int s.mo) = some (.int (i / s.mo)) := fun i => o_div (by omega) (by omega)
        have ef : -((w - s.lo) / s.mo) = fi s w := (if_pos c2).symm
        by_cases c4 : 0 < s.le
        · have d2 : ∀ i, oDiv (.int i) (.int s.le) = some (.int (i / s.le)) := fun i => o_div c4 (by omega)
          by_cases c5 : 0 < w
          · have := el (min 5000 ((s.hi - w) / s.le)) (if_pos ⟨c4, c5⟩)
            simp [c1, c2, c3, c4, c5, d1, d2, ef, tup2, this]
          · have := el 5000 (if_neg (by omega))
            simp [c1, c2, c3, c4, c5, d1, d2, ef, tup2, this]
        · have := el 5000 (if_neg (by omega))
          simp [c1, c2, c3, c4, d1, ef, tup2, this]
    · have ef : fi s w = 0 := if_neg c2
      rw [ef] at el ⊢
      by_cases c4 : 0 < s.le
      · have d2 : ∀ i, oDiv (.int i) (.int s.le) = some (.int (i / s.le)) := fun i => o_div c4 (by omega)
        by_cases c5 : 0 < w
        · have := el (min 5000 ((s.hi - w) / s.le)) (if_pos ⟨c4, c5⟩)
          simp only [c1, c2, if_false, false_and] at this ⊢
          simp [c1, c2, c4, c5, d2, tup2, ← this]
        · have := el 5000 (if_neg (by omega))
          simp only [c1, c2, if_false, false_and] at this ⊢
          simp [c1, c2, c4, c5, d2, tup2, ← this]
      · have := el 5000 (if_neg (by omega))
        simp only [c1, c2, if_false, false_and] at this ⊢
        simp [c1, c2, c4, tup2, ← this]
theorem sp_facts {s : Std} {w : Int} (h : 0 ≤ w) {p : Int × Int} (e : sp s w = some p) : 0 ≤ p.1 ∧ p.1 ≤ p.2 ∧ p.2 ≤ 5000 := by
  unfold sp at e
  split at e
  · cases e
  · split at e
    · cases e
    · split at e
      · rename_i h1 h2 h3
        cases e
        have l1 : la s w ≤ 5000 := by unfold la; split <;> omega
        have f1 : 0 ≤ fi s w := by
          have m0 := s.h5
          have m1 := s.h4
          unfold fi
          split
          · have : s.mo ≠ 0 := by omega
            have : (w - s.lo) / s.mo ≤ 0 := by
              have : (w - s.lo) / s.mo < 1 := Int.ediv_lt_of_lt_mul (by omega) (by omega)
              omega
            omega
          · omega
        exact ⟨f1, h3, l1⟩
      · cases e
theorem w_years_for {s : Std} {w : Int} (h : 0 ≤ w) (h2 : w ≤ 1000000000000) : p_wear_years_for (stdD s) (.int w) = some (spD (sp s w)) := by
  simp [p_wear_years_for, w_check_standard, w_check_weight h h2, w_span_of]
theorem none_in (sps : List (Option (Int × Int))) : oIn .none (.list (sps.map spD)) = some (.bool (decide (none ∈ sps))) := by
  have h2 : okd .none = true := by simp [okd, PyData.plain, PyData.depth]
  have h3 : okdAll (sps.map spD) = true := by
    have h : ∀ ps : List (Option (Int × Int)), PyData.plainAll (ps.map spD) = true ∧ PyData.depthAll (ps.map spD) ≤ 1 := fun ps => by
      induction ps with
      | nil => exact ⟨rfl, by simp [PyData.depthAll]⟩
      | cons p r ih => cases p <;> exact ⟨by simp [PyData.plainAll, PyData.plain, pr, ih.1], by simp [PyData.depthAll, PyData.depth, pr, ih.2]⟩
    have := (h sps).2
    simp only [okdAll, (h sps).1, Bool.true_and, decide_eq_true_eq]
    omega
  have : anyEq (sps.map spD) .none = decide (none ∈ sps) := by
    rw [Bool.eq_iff_iff]
    simp only [anyEq, List.any_map, List.any_eq_true, Function.comp, decide_eq_true_eq]
    constructor
    · rintro ⟨p, h1, h2⟩
      cases p with
      | none => exact h1
      | some p => simp [pr, PyData.eqv] at h2
    · intro h
      exact ⟨none, h, by simp [PyData.eqv]⟩
  simp [oIn, h2, h3, this]
/-- weights that years suit -/
structure Rows (s : Std) (ws : List Int) (sps : List (Int × Int)) : Prop where
  w : Wts ws
  e : ws.map (sp s) = sps.map some
theorem Rows.len {s : Std} {ws : List Int} {sps : List (Int × Int)} (h : Rows s ws sps) : sps.length = ws.length := by
  have := congrArg List.length h.e
  simpa using this.symm
theorem Rows.at {s : Std} {ws : List Int} {sps : List (Int × Int)} (h : Rows s ws sps) {i : Nat} {w : Int} (hw : ws[i]? = some w) : ∃ p, sps[i]? = some p ∧ sp s w = some p := by
  have := congrArg (fun l => l[i]?) h.e
  simp only [List.getElem?_map, hw, Option.map_some] at this
  obtain ⟨p, h1, h2⟩ := Option.map_eq_some_iff.mp this.symm
  exact ⟨p, h1, h2.symm⟩
theorem Rows.of {s : Std} {ws : List Int} {sps : List (Int × Int)} (h : Rows s ws sps) {w : Int} (hw : w ∈ ws) : ∃ p ∈ sps, sp s w = some p := by
  obtain ⟨i, hi⟩ := List.mem_iff_getElem?.mp hw
  obtain ⟨p, h1, h2⟩ := h.at hi
  exact ⟨p, List.mem_of_getElem? h1, h2⟩
theorem Rows.b {s : Std} {ws : List Int} {sps : List (Int × Int)} (h : Rows s ws sps) {p : Int × Int} (hp : p ∈ sps) : 0 ≤ p.1 ∧ p.1 ≤ p.2 ∧ p.2 ≤ 5000 := by
  have : some p ∈ ws.map (sp s) := by rw [h.e]; exact List.mem_map.mpr ⟨p, hp, rfl⟩
  obtain ⟨w, h1, h2⟩ := List.mem_map.mp this
  exact sp_facts (h.w.b w h1).1 h2
theorem Rows.atW {s : Std} {ws : List Int} {sps : List (Int × Int)} (h : Rows s ws sps) {k : Nat} (hk : k < sps.length) : ∃ w, ws[k]? = some w ∧ sp s w = some (gP sps k) := by
  have hk2 : k < ws.length := by rw [← h.len]; exact hk
  have hw : ws[k]? = some ws[k] := List.getElem?_eq_getElem hk2
  obtain ⟨r, h1, h2⟩ := h.at hw
  rw [gP_at hk] at h1
  cases h1
  exact ⟨_, hw, h2⟩
abbrev fs (sps : List (Int × Int)) : List Int := sps.map (·.1)
abbrev ls (sps : List (Int × Int)) : List Int := sps.map (·.2)
section
variable {s : Std} {ws : List Int} {sps : List (Int × Int)}
theorem Rows.map (h : Rows s ws sps) : (ws.map fun w => spD (sp s w)) = sps.map pr := by
  have := congrArg (List.map spD) h.e
  rw [List.map_map, List.map_map] at this
  exact this
theorem w_rows {F : PyData → Option (Option PyData)} (h : Rows s ws sps) (hF : ∀ w, F (.int w) = (p_wear_span_of (stdD s) (.int w)).map some) : pLc (some (ws.map .int)) F = some (sps.map pr) := by
  have := h.w.len
  rw [pLc_all (as := ws) .int (fun w => spD (sp s w)) (by omega) fun w hw => by rw [hF, w_span_of]; rfl, h.map]
theorem none_inP : oIn .none (.list (sps.map pr)) = some (.bool false) := by
  have := none_in (sps.map some)
  rw [List.map_map] at this
  rw [show sps.map pr = sps.map (spD ∘ some) from rfl, this]
  simp
def common (sps : List (Int × Int)) (a b : Str) : PyData := if mn (ls sps) < mx (fs sps) then tag3 a (fstAt (ls sps) (mn (ls sps))) (fstAt (fs sps) (mx (fs sps))) else tag3 b (mx (fs sps)) (mn (ls sps))
theorem w_judge_common (h : Rows s ws sps) : p_wear_judge_common (stdD s) (tI ws) = some (common sps (PySem.Str.ofString "apart") (PySem.Str.ofString "years")) := by
  have hl := h.w.len
  have hsl := h.len
  have hne := h.w.ne
  have nz : sps ≠ [] := by
    intro q
    subst q
    simp at hsl
    omega
  have n1 : fs sps ≠ [] := by simpa using nz
  have n2 : ls sps ≠ [] := by simpa using nz
  have m1 := maxL n1
  have m2 := minL n2
  have i1 := index1 (mx_mem n1)
  have i2 := index1 (mn_mem n2)
  simp [p_wear_judge_common, w_check_standard, w_check_weights h.w]
  rw [w_rows h fun w => by rfl]
  simp [none_inP]
  rw [pLc_all (as := sps) pr (fun p => .int p.1) (by omega) fun p hp => by simp, pLc_all (as := sps) pr (fun p => .int p.2) (by omega) fun p hp => by simp]
  simp only [List.map_map, Function.comp_def] at m1 m2 i1 i2
  simp [m1, m2, i1, i2, common, tag3]
  split
  · rfl
  · rfl
theorem w_accept_years (h : Rows s ws sps) {y : Int} (hy : 0 ≤ y) (hy2 : y ≤ 5000) (hin : ∀ p ∈ sps, p.1 ≤ y ∧ y ≤ p.2) : p_wear_accept_years (stdD s) (tI ws) (.int y) = some .none := by
  simp [p_wear_accept_years, w_check_standard, w_check_weights h.w, hy, hy2]
  rw [foldP_unit (e := .int) fun w hw => ?_]
  · rfl
  · obtain ⟨p, hp, e⟩ := h.of hw
    obtain ⟨q1, q2⟩ := hin p hp
    simp [w_span_of, e, q1, q2]
theorem w_accept_apart (h : Rows s ws sps) {i j : Nat} (hi : i < sps.length) (hj : j < sps.length) (hlt : gL sps i < gF sps j) : p_wear_accept_apart (stdD s) (tI ws) (nI i) (nI j) = some .none := by
  have hsl := h.len
  obtain ⟨w1, a1, e1⟩ := h.atW hi
  obtain ⟨w2, a2, e2⟩ := h.atW hj
  have f1 : atI (ws.map PyData.int) (i : Int) = some (.int w1) := atI_at (by simp [a1])
  have f2 : atI (ws.map PyData.int) (j : Int) = some (.int w2) := atI_at (by simp [a2])
  have c : ¬ gF sps j ≤ gL sps i := by omega
  simp [p_wear_accept_apart, w_check_standard, w_check_weights h.w]
  rw [show [PyData.int (i : Int), .int (j : Int)] = [i, j].map nI from rfl, pLc_all (as := [i, j]) nI (fun _ => .bool true) (by simp) fun k hk => ?_]
  · rw [show [i, j].map nI = [(i, w1, gP sps i), (j, w2, gP sps j)].map (fun x => nI x.1) from rfl, pLc_all (as := [(i, w1, gP sps i), (j, w2, gP sps j)]) (fun x => nI x.1) (fun x => pr x.2.2) (by simp) fun x hx => ?_]
    · have hn : oIn .none (.list [pr (gP sps i), pr (gP sps j)]) = some (.bool false) := none_inP (sps := [gP sps i, gP sps j])
      simp [oAll, toBls, hn, c]
    · simp only [List.mem_cons, List.not_mem_nil, or_false] at hx
      rcases hx with rfl | rfl
      · simp [f1, w_span_of, e1]
      · simp [f2, w_span_of, e2]
  · have : k < ws.length := by
      simp only [List.mem_cons, List.not_mem_nil, or_false] at hk
      omega
    simp [this]
theorem w_struck_between (h : Rows s ws sps) {y : Int} (hy : -5000 ≤ y) (hy2 : y ≤ 5000) : p_wear_struck_between (stdD s) (tI ws) (.int y) = some (tP (sps.map fun p => (y - p.2, y - p.1))) := by
  have hl := h.w.len
  have hsl := h.len
  simp [p_wear_struck_between, w_check_standard, w_check_weights h.w, hy, hy2]
  generalize hT : (foldP _ (ws.map PyData.int) []) = W
  have key : ∃ s', W = some s' ∧ s' = (sps.map fun p => pr (y - p.2, y - p.1)).take (0 + ws.length) := by
    rw [← hT]
    refine foldP_inv (I := fun k st => st = (sps.map fun p => pr (y - p.2, y - p.1)).take k) (fun i w st hw hI => ?_) (by simp)
    subst hI
    obtain ⟨p, hp, e⟩ := h.at hw
    have hi : i < sps.length := (List.getElem?_eq_some_iff.mp hp).1
    refine ⟨(sps.map fun p => pr (y - p.2, y - p.1)).take (0 + i + 1), ?_, rfl⟩
    have z : min i sps.length < 16777216 := by omega
    rw [show 0 + i + 1 = (0 + i) + 1 from rfl, List.take_succ]
    simp [w_span_of, e, z, hp, tup2]
  obtain ⟨s', rfl, rfl⟩ := key
  rw [Nat.zero_add, ← hsl]
  have : (sps.map fun p => pr (y - p.2, y - p.1)).take sps.length = sps.map fun p => pr (y - p.2, y - p.1) := List.take_of_length_le (by simp)
  rw [this]
  simp [Function.comp_def]
theorem w_surely_older (h : Rows s ws sps) : p_wear_surely_older (stdD s) (tI ws) = some (tP (prsBy (List.range sps.length) fun i j => decide (gL sps j < gF sps i))) := by
  have hl := h.w.len
  have hsl := h.len
  simp [p_wear_surely_older, w_check_standard, w_check_weights h.w]
  rw [w_rows h fun w => by rfl]
  simp
  rw [pLc_fil (as := sps.zipIdx) _ (fun _ => true) (fun q => nI q.2) (by simp; omega) fun q hq => by simp]
  rw [List.filter_eq_self.mpr fun _ _ => rfl, zipIdx_snd]
  simp
  rw [pLc2_enc (as := List.range sps.length) nI (fun i => ((List.range sps.length).filter fun j => decide (gL sps j < gF sps i)).map fun (j : Nat) => pr ((i : Int), (j : Int))) ?len fun i hi => ?_]
  case len =>
    rw [prsBy_map, List.length_map]
    exact Nat.le_trans (prsBy_len (n := 60) (by simp; omega)) (by decide)
  · rw [prsBy_map]
    rfl
  · have hi' := List.mem_range.mp hi
    simp
    rw [lcP_filP nI (fun j => gL sps j < gF sps i) (fun (j : Nat) => pr ((i : Int), (j : Int))) fun j hj => by simp [atI_P hi', atI_P (List.mem_range.mp hj), tup2]]
end
end HR
set_option Elab.async false
set_option linter.all false
set_option maxRecDepth 100000
set_option maxHeartbeats 4000000
/-! F_wear2: rates by dated coins. -/
namespace HR
open PySem PySem.Spec L2 L2.FL

/-- low, high, years -/
abbrev R3 := Int × Int × Int
def t3 (r : R3) : PyData := .tuple [.int r.1, .int r.2.1, .int r.2.2]
@[simp] theorem t3_0 (r : R3) : oIx (t3 r) (.int 0) = some (.int r.1) := rfl
@[simp] theorem t3_1 (r : R3) : oIx (t3 r) (.int 1) = some (.int r.2.1) := rfl
@[simp] theorem t3_2 (r : R3) : oIx (t3 r) (.int 2) = some (.int r.2.2) := rfl
@[simp] theorem u3_t3 {τ υ ω : Type} (U : PyData → Option τ) (V : PyData → Option υ) (W : PyData → Option ω) (r : R3) : uTup (uCons U (uCons V (uCons W uNil))) (t3 r) = (U (.int r.1)).bind fun t => (V (.int r.2.1)).bind fun u => (W (.int r.2.2)).bind fun w => some (t, u, w, ()) := by
  simp only [t3, uTup_1, uCons_1, uNil_0]
  cases U (.int r.1) <;> simp
  cases V (.int r.2.1) <;> simp
  cases W (.int r.2.2) <;> simp
abbrev tR (rs : List R3) : PyData := .tuple (rs.map t3)
structure Dated (rs : List R3) : Prop where
  ne : 1 ≤ rs.length
  len : rs.length ≤ 60
  b : ∀ r ∈ rs, 0 ≤ r.1 ∧ r.1 ≤ r.2.1 ∧ r.2.1 ≤ 1000000000000 ∧ 1 ≤ r.2.2 ∧ r.2.2 ≤ 5000
theorem w_check_dated {rs : List R3} (h : Dated rs) : p_wear_check_dated (tR rs) = some .none := by
  have h1 := h.ne
  have h2 := h.len
  have z1 : (1 : Int) ≤ (rs.length : Int) := by omega
  have z2 : (rs.length : Int) ≤ 60 := by omega
  simp [p_wear_check_dated, z1, z2]
  rw [foldP_unit (e := t3) fun r hr => ?_]
  · rfl
  · obtain ⟨q1, q2, q3, q4, q5⟩ := h.b r hr
    have c : ¬ r.2.1 < r.1 := by omega
    simp [t3]
    rw [show [PyData.int r.1, .int r.2.1, .int r.2.2] = [r.1, r.2.1, r.2.2].map .int from rfl, pLc_all (as := [r.1, r.2.1, r.2.2]) .int (fun _ => .bool true) (by simp) fun n hn => ?_]
    · simp [oAll, toBls, c, q4, q5]
    · have hb : 0 ≤ n ∧ n ≤ 1000000000000 := by
        simp only [List.mem_cons, List.not_mem_nil, or_false] at hn
        omega
      simp [w_amount hb.1 hb.2]
/-- less, for numbers that are not too great -/
theorem w_less {a b c d : Int} (h1 : 0 ≤ b) (h2 : b ≤ 1000000000000) (h3 : 0 ≤ d) (h4 : d ≤ 1000000000000) : p_wear_less (pr (a, b)) (pr (c, d)) = some (.bool (decide (a * d < c * b))) := by
  have m1 : oMul (.int a) (.int d) = some (.int (a * d)) := o_mulR (by omega) (by omega)
  have m2 : oMul (.int c) (.int b) = some (.int (c * b)) := o_mulR (by omega) (by omega)
  simp [p_wear_less, m1, m2]
/-! Euclid -/
def gc (a b : Int) : Int := (Nat.gcd a.toNat b.toNat : Nat)
theorem gc_zero {a : Int} (h : 0 ≤ a) : gc a 0 = a := by
  simp [gc]
  omega
theorem gc_step {a b : Int} (ha : 0 ≤ a) (hb : 0 < b) : gc b (a % b) = gc a b := by
  obtain ⟨m, rfl⟩ := Int.eq_ofNat_of_zero_le ha
  obtain ⟨n, rfl⟩ := Int.eq_ofNat_of_zero_le (Int.le_of_lt hb)
  unfold gc
  rw [← Int.natCast_emod, Int.toNat_natCast, Int.toNat_natCast, Int.toNat_natCast, Nat.gcd_comm n (m % n), ← Nat.gcd_rec, Nat.gcd_comm]
theorem gc_pos {a b : Int} (hb : 0 < b) : 0 < gc a b := by
  unfold gc
  have : 0 < Nat.gcd a.toNat b.toNat := Nat.gcd_pos_of_pos_right _ (by omega)
  omega
theorem gc_le {a b : Int} (hb : 0 < b) : gc a b ≤ b := by
  unfold gc
  have : Nat.gcd a.toNat b.toNat ≤ b.toNat := Nat.gcd_le_right _ (by omega)
  omega
theorem w_quotient {u d : Int} (hu : 0 ≤ u) (hd : 1 ≤ d) (hd2 : d ≤ 100000000) : p_wear_quotient (.int u) (.int d) = some (pr (u / gc u d, d / gc u d)) := by
  simp [p_wear_quotient]
  generalize hT : (whP _ _ fuel (PyData.int u, PyData.int d)) = W
  have key : ∃ s', W = some s' ∧ s' = (PyData.int (gc u d), PyData.int 0) := by
    rw [← hT]
    refine whP_inv (I := fun m s => ∃ a b : Int, 0 ≤ a ∧ 0 ≤ b ∧ m = b.toNat ∧ gc a b = gc u d ∧ s = (.int a, .int b)) (Post := fun s => s = _) ?_ fuel d.toNat _ (fuel_big (by omega)) ⟨u, d, hu, by omega, rfl, rfl, rfl⟩
    rintro m s ⟨a, b, ha, hb, rfl, hg, rfl⟩
    by_cases c : b = 0
    · subst c
      left
      rw [gc_zero ha] at hg
      exact ⟨by simp, by rw [hg]⟩
    · right
      have hb0 : 0 < b := by omega
      have md : oMod (.int a) (.int b) = some (.int (a % b)) := o_mod hb0
      have l1 := Int.emod_nonneg a (show b ≠ 0 by omega)
      have l2 := Int.emod_lt_of_pos a hb0
      exact ⟨by simp [c], (.int b, .int (a % b)), (a % b).toNat, by simp [md], by omega, b, a % b, by omega, l1, rfl, by rw [gc_step ha hb0]; exact hg, rfl⟩
  obtain ⟨s', rfl, rfl⟩ := key
  have g1 := gc_pos (a := u) (show 0 < d by omega)
  have g2 := gc_le (a := u) (show 0 < d by omega)
  have d1 : ∀ i, oDiv (.int i) (.int (gc u d)) = some (.int (i / gc u d)) := fun i => o_div g1 (by omega)
  simp [d1, tup2]
/-! the first best one of a row -/
def bst {α : Type} (lt : α → α → Bool) (g : Nat → α) : Nat → List α → Nat → Nat
  | _, [], s => s
  | k, a :: as, s => bst lt g (k + 1) as (if lt a (g s) = true then k else s)
/-- fractions, by cross products -/
def frLt (a b c d : Int) : Bool := decide (a * d < c * b)
theorem fr_neg {a b c d e f : Int} (hb : 0 < b) (hd : 0 < d) (hf : 0 < f) (h1 : ¬ a * d < c * b) (h2 : ¬ c * f < e * d) : ¬ a * f < e * b := by
  intro h
  have k1 : c * b * f ≤ a * d * f := Int.mul_le_mul_of_nonneg_right (by omega) (by omega)
  have k2 : e * d * b ≤ c * f * b := Int.mul_le_mul_of_nonneg_right (by omega) (by omega)
  have k3 : a * f * d < e * b * d := Int.mul_lt_mul_of_pos_right h hd
  have r1 : c * b * f = c * f * b := by rw [Int.mul_assoc, Int.mul_comm b f, ← Int.mul_assoc]
  have r2 : a * d * f = a * f * d := by rw [Int.mul_assoc, Int.mul_comm d f, ← Int.mul_assoc]
  have r3 : e * d * b = e * b * d := by rw [Int.mul_assoc, Int.mul_comm d b, ← Int.mul_assoc]
  omega
theorem bst_spec {α : Type} {lt : α → α → Bool} {g : Nat → α} {n : Nat} (irr : ∀ i, i < n → lt (g i) (g i) = false) (asy : ∀ i j, i < n → j < n → lt (g i) (g j) = true → lt (g j) (g i) = false) (neg : ∀ i j k, i < n → j < n → k < n → lt (g i) (g j) = false → lt (g j) (g k) = false → lt (g i) (g k) = false) :
    ∀ (as : List α) (k s : Nat), k + as.length = n → (∀ i a, as[i]? = some a → a = g (k + i)) → s < n → (s < k ∨ (k = 0 ∧ s = 0)) → (∀ j, j < k → lt (g j) (g s) = false) → (∀ j, j < s → lt (g s) (g j) = true) →
      bst lt g k as s < n ∧ (∀ j, j < n → lt (g j) (g (bst lt g k as s)) = false) ∧ ∀ j, j < bst lt g k as s → lt (g (bst lt g k as s)) (g j) = true
  | [], k, s, hk, ha, hs, hsk, h1, h2 => by
    simp at hk
    subst hk
    exact ⟨hs, h1, h2⟩
  | a :: as, k, s, hk, ha, hs, hsk, h1, h2 => by
    have ea : a = g k := ha 0 a rfl
    have hkn : k < n := by simp at hk; omega
    unfold bst
    rw [ea]
    by_cases c : lt (g k) (g s) = true
    · rw [if_pos c]
      refine bst_spec irr asy neg as (k + 1) k (by simp at hk; omega) (fun i b hb => by rw [ha (i + 1) b (by simpa using hb)]; congr 1; omega) hkn (.inl (by omega)) (fun j hj => ?_) fun j hj => ?_
      · by_cases e : j = k
        · subst e
          exact irr j hkn
        · exact neg j s k (by omega) hs hkn (h1 j (by omega)) (asy k s hkn hs c)
      · cases q : lt (g k) (g j) with
        | true => rfl
        | false =>
          have := neg k j s hkn (by omega) hs q (h1 j hj)
          rw [this] at c
          cases c
    · rw [if_neg c]
      have c' : lt (g k) (g s) = false := by simpa using c
      refine bst_spec irr asy neg as (k + 1) s (by simp at hk; omega) (fun i b hb => by rw [ha (i + 1) b (by simpa using hb)]; congr 1; omega) hs ?_ (fun j hj => ?_) h2
      · rcases hsk with h | ⟨h3, h4⟩ <;> exact .inl (by omega)
      · by_cases e : j = k
        · subst e
          exact c'
        · exact h1 j (by omega)
def gR (rs : List R3) (i : Nat) : R3 := rs.getD i (0, 0, 1)
theorem gR_at {rs : List R3} {i : Nat} (h : i < rs.length) : rs[i]? = some (gR rs i) := by simp [gR, h]
theorem gR_mem {rs : List R3} {i : Nat} (h : i < rs.length) : gR rs i ∈ rs := List.mem_of_getElem? (gR_at h)
theorem atI_R {rs : List R3} {i : Nat} (h : i < rs.length) : atI (rs.map t3) (i : Int) = some (t3 (gR rs i)) := atI_nat t3 (0, 0, 1) h
/-- less lost in a year, by the most; more, by the least -/
def ltHi (a b : R3) : Bool := frLt a.2.1 a.2.2 b.2.1 b.2.2
def gtLo (a b : R3) : Bool := frLt b.1 b.2.2 a.1 a.2.2
def bHi (rs : List R3) : Nat := bst ltHi (gR rs) 0 rs 0
def bLo (rs : List R3) : Nat := bst gtLo (gR rs) 0 rs 0
theorem bHi_spec {rs : List R3} (h : Dated rs) : bHi rs < rs.length ∧ (∀ j, j < rs.length → ltHi (gR rs j) (gR rs (bHi rs)) = false) ∧ ∀ j, j < bHi rs → ltHi (gR rs (bHi rs)) (gR rs j) = true := by
  have hn := h.ne
  have ps : ∀ i, i < rs.length → 0 < (gR rs i).2.2 := fun i hi => by have := h.b _ (gR_mem hi); omega
  refine bst_spec (n := rs.length) (fun i hi => by simp [ltHi, frLt]) (fun i j hi hj e => ?_) (fun i j k hi hj hk e1 e2 => ?_) rs 0 0 (by simp) (fun i a ha => ?_) (by omega) (.inr ⟨rfl, rfl⟩) (fun j hj => absurd hj (Nat.not_lt_zero _)) fun j hj => absurd hj (Nat.not_lt_zero _)
  · simp only [ltHi, frLt, decide_eq_true_eq, decide_eq_false_iff_not] at e ⊢
    omega
  · simp only [ltHi, frLt, decide_eq_false_iff_not] at e1 e2 ⊢
    exact fr_neg (ps i hi) (ps j hj) (ps k hk) e1 e2
  · have := gR_at (List.getElem?_eq_some_iff.mp ha).1
    rw [ha] at this
    simpa using Option.some.inj this
theorem bLo_spec {rs : List R3} (h : Dated rs) : bLo rs < rs.length ∧ (∀ j, j < rs.length → gtLo (gR rs j) (gR rs (bLo rs)) = false) ∧ ∀ j, j < bLo rs → gtLo (gR rs (bLo rs)) (gR rs j) = true := by
  have hn := h.ne
  have ps : ∀ i, i < rs.length → 0 < (gR rs i).2.2 := fun i hi => by have := h.b _ (gR_mem hi); omega
  refine bst_spec (n := rs.length) (fun i hi => by simp [gtLo, frLt]) (fun i j hi hj e => ?_) (fun i j k hi hj hk e1 e2 => ?_) rs 0 0 (by simp) (fun i a ha => ?_) (by omega) (.inr ⟨rfl, rfl⟩) (fun j hj => absurd hj (Nat.not_lt_zero _)) fun j hj => absurd hj (Nat.not_lt_zero _)
  · simp only [gtLo, frLt, decide_eq_true_eq, decide_eq_false_iff_not] at e ⊢
    omega
  · simp only [gtLo, frLt, decide_eq_false_iff_not] at e1 e2 ⊢
    exact fr_neg (ps k hk) (ps j hj) (ps i hi) e2 e1
  · have := gR_at (List.getElem?_eq_some_iff.mp ha).1
    rw [ha] at this
    simpa using Option.some.inj this
theorem cut_t3 (r : R3) : slD (t3 r) (some 1) none = some (pr (r.2.1, r.2.2)) := rfl
theorem w_judge_rate {rs : List R3} (h : Dated rs) : p_wear_judge_rate (tR rs) = some (if ltHi (gR rs (bHi rs)) ((gR rs (bLo rs)).1, (gR rs (bLo rs)).1, (gR rs (bLo rs)).2.2) = true then tag3 (PySem.Str.ofString "apart") (bHi rs) (bLo rs) else
    .tuple [.str (PySem.Str.ofString "rate"), pr ((gR rs (bLo rs)).1 / gc (gR rs (bLo rs)).1 (gR rs (bLo rs)).2.2, (gR rs (bLo rs)).2.2 / gc (gR rs (bLo rs)).1 (gR rs (bLo rs)).2.2), pr ((gR rs (bHi rs)).2.1 / gc (gR rs (bHi rs)).2.1 (gR rs (bHi rs)).2.2, (gR rs (bHi rs)).2.2 / gc (gR rs (bHi rs)).2.1 (gR rs (bHi rs)).2.2)]) := by
  have hl := h.len
  have hne := h.ne
  simp [p_wear_judge_rate, w_check_dated h]
  have hb : ∀ r ∈ rs, 0 ≤ r.2.2 ∧ r.2.2 ≤ 1000000000000 := fun r hr => by have := h.b r hr; omega
  have lessHi : ∀ r s : R3, r ∈ rs → s ∈ rs → p_wear_less (pr (r.2.1, r.2.2)) (pr (s.2.1, s.2.2)) = some (.bool (ltHi r s)) := fun r s h1 h2 => w_less (hb r h1).1 (hb r h1).2 (hb s h2).1 (hb s h2).2
  have lessLo : ∀ r s : R3, r ∈ rs → s ∈ rs → p_wear_less (pr (s.1, s.2.2)) (pr (r.1, r.2.2)) = some (.bool (gtLo r s)) := fun r s h1 h2 => w_less (hb s h2).1 (hb s h2).2 (hb r h1).1 (hb r h1).2
  generalize hT : (foldP _ _ (PyData.int 0, PyData.int 0)) = W
  have key : ∃ s', W = some s' ∧ ∃ s t : Nat, s' = (nI s, nI t) ∧ s < rs.length ∧ t < rs.length ∧ bst ltHi (gR rs) (0 + rs.zipIdx.length) (rs.drop (0 + rs.zipIdx.length)) s = bHi rs ∧ bst gtLo (gR rs) (0 + rs.zipIdx.length) (rs.drop (0 + rs.zipIdx.length)) t = bLo rs := by
    rw [← hT]
    refine foldP_inv (I := fun k st => ∃ s t : Nat, st = (nI s, nI t) ∧ s < rs.length ∧ t < rs.length ∧ bst ltHi (gR rs) k (rs.drop k) s = bHi rs ∧ bst gtLo (gR rs) k (rs.drop k) t = bLo rs) (fun i q st hq hI => ?_) ⟨0, 0, rfl, by omega, by omega, rfl, rfl⟩
    obtain ⟨s, t, rfl, hs, ht, e1, e2⟩ := hI
    obtain ⟨hi, eq⟩ : i < rs.length ∧ q = (gR rs i, i) := by
      have h1 : (rs.zipIdx 0)[i]? = _ := List.getElem?_zipIdx
      rw [hq] at h1
      obtain ⟨r, h2, h3⟩ := Option.map_eq_some_iff.mp h1.symm
      have h4 := (List.getElem?_eq_some_iff.mp h2).1
      rw [gR_at h4] at h2
      cases h2
      exact ⟨h4, by rw [← h3]; simp⟩
    subst eq
    have hd : rs.drop (0 + i) = gR rs i :: rs.drop (0 + i + 1) := by
      rw [Nat.zero_add, List.drop_eq_getElem_cons hi]
      congr 1
      have := gR_at hi
      rw [List.getElem?_eq_getElem hi] at this
      exact Option.some.inj this
    rw [hd, bst, Nat.zero_add] at e1 e2
    rw [Nat.zero_add]
    have m1 := gR_mem hi
    have m2 := gR_mem hs
    have m3 := gR_mem ht
    refine ⟨_, ?_, _, _, rfl, ?_, ?_, e1, e2⟩
    · simp [atI_R hs, atI_R ht, cut_t3, tup2, lessHi _ _ m1 m2, lessLo _ _ m1 m3]
      split <;> split <;> simp
    · split <;> assumption
    · split <;> assumption
  obtain ⟨s', rfl, s, t, rfl, hs, ht, e1, e2⟩ := key
  have z : rs.drop (0 + rs.zipIdx.length) = [] := List.drop_eq_nil_of_le (by simp)
  rw [z] at e1 e2
  simp only [bst] at e1 e2
  subst e1 e2
  have m2 := gR_mem hs
  have m3 := gR_mem ht
  obtain ⟨a1, a2, a3, a4, a5⟩ := h.b _ m2
  obtain ⟨b1, b2, b3, b4, b5⟩ := h.b _ m3
  have ll : p_wear_less (pr ((gR rs (bHi rs)).2.1, (gR rs (bHi rs)).2.2)) (pr ((gR rs (bLo rs)).1, (gR rs (bLo rs)).2.2)) = some (.bool (ltHi (gR rs (bHi rs)) ((gR rs (bLo rs)).1, (gR rs (bLo rs)).1, (gR rs (bLo rs)).2.2))) := w_less (by omega) (by omega) (by omega) (by omega)
  simp [atI_R hs, atI_R ht, cut_t3, tup2, ll]
  split
  · simp [tag3]
  · simp [w_quotient b1 b4 (show (gR rs (bLo rs)).2.2 ≤ 100000000 by omega), w_quotient (show 0 ≤ (gR rs (bHi rs)).2.1 by omega) a4 (show (gR rs (bHi rs)).2.2 ≤ 100000000 by omega)]
end HR
set_option Elab.async false
set_option linter.all false
set_option maxRecDepth 100000
set_option maxHeartbeats 4000000
/-! F_wear3: worn coins with weights that no years suit; papers that are refused. -/
namespace HR
open PySem PySem.Spec L2 L2.FL

theorem forP_all {α ρ κ' : Type} {F : PyData → Unit → Option (Oc ρ Unit Unit)} {e : α → PyData} {p : α → Bool} {r : ρ} : ∀ {as : List α}, (∀ a ∈ as, F (e a) () = some (if p a = true then .nx () else .rt r)) → (forP F (as.map e) () : Option (Oc ρ κ' Unit)) = some (if as.all p = true then .nx () else .rt r)
  | [], _ => rfl
  | a :: as, h => by
    have ih := forP_all (κ' := κ') (as := as) fun b hb => h b (by simp [hb])
    simp only [List.map_cons, forP, h a (by simp), Option.bind_some]
    cases q : p a with
    | true => simp [ih, q]
    | false => simp [q]
theorem pTk_list {P : List PyData → Option PyData} {xs : List PyData} {r : PyData} (h : P xs = some r) : pTk P (some (.list xs)) = some (.bool (isN r)) := by
  simp [pTk, h]

theorem w_can_weigh {s : Std} {y : Int} (h : 0 ≤ y) (h2 : y ≤ 5000) : p_wear_can_weigh (stdD s) (.int y) = some (pr (max 0 (s.lo - s.mo * y), max 0 (s.hi - s.le * y))) := by
  have h4 := s.h4
  have h5 := s.h5
  have h6 := s.h6
  have cs : p_wear_check_standard (tI [s.lo, s.hi, s.le, s.mo]) = some .none := w_check_standard s
  have m1 : oMul (.int s.mo) (.int y) = some (.int (s.mo * y)) := o_mulL (by omega) (by omega)
  have m2 : oMul (.int s.le) (.int y) = some (.int (s.le * y)) := o_mulL (by omega) (by omega)
  simp [p_wear_can_weigh, w_check_years h h2, stdD, cs, m1, m2, tup2]
/-- whether these years suit this weight -/
def okY (s : Std) (w y : Int) : Bool := decide (s.lo - s.mo * y ≤ w ∧ (w = 0 ∨ w + s.le * y ≤ s.hi))
theorem okY_fi {s : Std} {w y : Int} (hy : 0 ≤ y) (c2 : ¬ (w < s.lo ∧ s.mo = 0)) : fi s w ≤ y ↔ s.lo - s.mo * y ≤ w := by
  have h4 := s.h4
  have h5 := s.h5
  have hmy : 0 ≤ s.mo * y := Int.mul_nonneg (by omega) hy
  unfold fi
  split
  · rename_i hw
    have hm : 0 < s.mo := by omega
    have := Int.le_ediv_iff_mul_le (a := -y) (b := w - s.lo) hm
    rw [Int.neg_mul, Int.mul_comm y s.mo] at this
    omega
  · omega
theorem okY_la {s : Std} {w y : Int} (hw : 0 ≤ w) (hy : 0 ≤ y) (hy2 : y ≤ 5000) (c1 : w ≤ s.hi) : y ≤ la s w ↔ (w = 0 ∨ w + s.le * y ≤ s.hi) := by
  have h4 := s.h4
  unfold la
  split
  · rename_i hc
    have := Int.le_ediv_iff_mul_le (a := y) (b := s.hi - w) hc.1
    rw [Int.mul_comm y s.le] at this
    omega
  · rename_i hc
    by_cases hw0 : w = 0
    · simp [hw0, hy2]
    · have : s.le = 0 := by omega
      simp [this, hy2, c1]
theorem okY_sp {s : Std} {w y : Int} (hw : 0 ≤ w) (hy : 0 ≤ y) (hy2 : y ≤ 5000) : okY s w y = true ↔ ∃ p, sp s w = some p ∧ p.1 ≤ y ∧ y ≤ p.2 := by
  have h1 := s.h1
  have h2 := s.h2
  have h4 := s.h4
  have h5 := s.h5
  have hmy : 0 ≤ s.mo * y := Int.mul_nonneg (by omega) hy
  have hly : 0 ≤ s.le * y := Int.mul_nonneg h4 hy
  simp only [okY, decide_eq_true_eq]
  unfold sp
  by_cases c1 : s.hi < w
  · rw [if_pos c1]
    constructor
    · omega
    · rintro ⟨p, h, _⟩; cases h
  · rw [if_neg c1]
    by_cases c2 : w < s.lo ∧ s.mo = 0
    · rw [if_pos c2]
      constructor
      · rw [c2.2]; omega
      · rintro ⟨p, h, _⟩; cases h
    · rw [if_neg c2]
      have e1 := okY_fi hy c2
      have e2 := okY_la (s := s) hw hy hy2 (by omega)
      constructor
      · rintro ⟨q1, q2⟩
        have f1 := e1.mpr q1
        have f2 := e2.mpr q2
        exact ⟨_, if_pos (by omega), f1, f2⟩
      · rintro ⟨p, h, q1, q2⟩
        split at h
        · cases h
          exact ⟨e1.mp q1, e2.mp q2⟩
        · cases h
theorem w_x_accept_years {s : Std} {ws : List Int} (h : Wts ws) {y : Int} (hy : 0 ≤ y) (hy2 : y ≤ 5000) : p_wear_x_accept_years (stdD s) (tI ws) (.int y) = some (if ws.all (fun w => okY s w y) = true then .none else .bool false) := by
  generalize hb : (ws.all fun w => okY s w y) = b
  simp [p_wear_x_accept_years, w_check_standard, w_check_weights h, hy, hy2]
  rw [forP_all (e := .int) (p := fun w => okY s w y) (r := PyData.bool false) fun w hw => ?_, hb]
  · cases b <;> rfl
  · have e := okY_sp (s := s) (h.b w hw).1 hy hy2
    cases q : sp s w with
    | none =>
      have : okY s w y = false := by
        rw [Bool.eq_false_iff]
        intro c
        obtain ⟨p, h, _⟩ := e.mp c
        rw [q] at h; cases h
      simp [w_span_of, q, this]
    | some p =>
      by_cases c : p.1 ≤ y ∧ y ≤ p.2
      · have : okY s w y = true := e.mpr ⟨p, q, c⟩
        simp [w_span_of, q, this, c.1, c.2]
      · have : okY s w y = false := by
          rw [Bool.eq_false_iff]
          intro c'
          obtain ⟨p', h, hh⟩ := e.mp c'
          rw [q] at h; cases h
          exact c hh
        by_cases c1 : p.1 ≤ y
        · have c2 : ¬ y ≤ p.2 := fun z => c ⟨c1, z⟩
          simp [w_span_of, q, this, c1, c2]
        · simp [w_span_of, q, this, c1]
/-- x_accept_years, called with what it lets out caught -/
theorem w_taken_years {s : Std} {ws : List Int} (h : Wts ws) {y : Int} (hy : 0 ≤ y) (hy2 : y ≤ 5000) : pTk (ap3 p_wear_x_accept_years) (some (.list [stdD s, tI ws, .int y])) = some (.bool (ws.all fun w => okY s w y)) := by
  rw [pTk_list (r := if ws.all (fun w => okY s w y) = true then .none else .bool false) (w_x_accept_years h hy hy2)]
  cases ws.all (fun w => okY s w y) <;> rfl
theorem w_spans {s : Std} {ws : List Int} (h : Wts ws) {F : PyData → Option (Option PyData)} (hF : ∀ w, F (.int w) = (p_wear_span_of (stdD s) (.int w)).map some) : pLc (some (ws.map .int)) F = some (ws.map fun w => spD (sp s w)) := by
  have := h.len
  rw [pLc_all (as := ws) .int (fun w => spD (sp s w)) (by omega) fun w hw => by rw [hF, w_span_of]; rfl]
theorem rows_of {s : Std} {ws : List Int} (h : Wts ws) (hn : none ∉ ws.map (sp s)) : ∃ sps, Rows s ws sps := by
  refine ⟨(ws.map (sp s)).filterMap id, h, ?_⟩
  have : ∀ l : List (Option (Int × Int)), none ∉ l → l = (l.filterMap id).map some := fun l => by
    induction l with
    | nil => intro _; rfl
    | cons o r ih =>
      intro hn
      cases o with
      | none => exact absurd List.mem_cons_self hn
      | some p => simpa using ih fun c => hn (List.mem_cons_of_mem _ c)
  exact this _ hn
theorem index_none : ∀ {l : List (Option (Int × Int))}, none ∈ l → ∃ k : Nat, (l.map spD).findIdx? (fun z => PyData.eqv z .none) = some k
  | [], h => by cases h
  | none :: r, _ => ⟨0, by simp [List.findIdx?_cons, PyData.eqv]⟩
  | some p :: r, h => by
    obtain ⟨k, hk⟩ := index_none (l := r) (by simpa using h)
    exact ⟨k + 1, by simp [List.findIdx?_cons, PyData.eqv, pr, hk]⟩
theorem shaped_sp (l : List (Option (Int × Int))) : SeqAt.shaped (.list (l.map spD)) = true := by
  have h : PyData.canLayAll0 (l.map spD) = true ∧ PyData.depthAll (l.map spD) ≤ 1 := by
    induction l with
    | nil => exact ⟨rfl, by simp [PyData.depthAll]⟩
    | cons p r ih => cases p <;> exact ⟨by simp [PyData.canLayAll0, PyData.canLay0, pr, ih.1], by simp [PyData.depthAll, PyData.depth, pr, ih.2]⟩
  have h3 : PyData.depthAll (l.map spD) + 1 ≤ 64 := by have := h.2; omega
  simp [SeqAt.shaped, PyData.canLay0, PyData.depth, h.1]
  omega
theorem w_judge_common2 {s : Std} {ws : List Int} (h : Wts ws) : (none ∈ ws.map (sp s) ∧ ∃ k : Int, p_wear_judge_common (stdD s) (tI ws) = some (.tuple [.str (PySem.Str.ofString "never"), .int k])) ∨ ∃ sps, Rows s ws sps ∧ p_wear_judge_common (stdD s) (tI ws) = some (common sps (PySem.Str.ofString "apart") (PySem.Str.ofString "years")) := by
  by_cases hn : none ∈ ws.map (sp s)
  · refine .inl ⟨hn, ?_⟩
    have h1 := none_in (ws.map (sp s))
    obtain ⟨k, hk⟩ := index_none hn
    refine ⟨k, ?_⟩
    have hm : ws.map (fun w => spD (sp s w)) = (ws.map (sp s)).map spD := by rw [List.map_map]; rfl
    simp [p_wear_judge_common, w_check_standard, w_check_weights h]
    rw [w_spans h fun w => by rfl, hm]
    have hi : oIndex (.list ((ws.map (sp s)).map spD)) .none = some (.int (k : Nat)) := by
      have s2 : SeqAt.shaped .none = true := by simp [SeqAt.shaped, PyData.canLay0, PyData.depth]
      show (if SeqAt.shaped (.list ((ws.map (sp s)).map spD)) && SeqAt.shaped .none then (((ws.map (sp s)).map spD).findIdx? fun z => PyData.eqv z .none).map fun j => PyData.int (j : Nat) else none) = _
      rw [shaped_sp, s2, hk]
      rfl
    generalize hL : (ws.map (sp s)).map spD = L at *
    simp [h1, hn, hi]
  · obtain ⟨sps, hr⟩ := rows_of h hn
    exact .inr ⟨sps, hr, w_judge_common hr⟩
theorem w_struck2 {s : Std} {ws : List Int} (h : Wts ws) {y : Int} (hy : -5000 ≤ y) (hy2 : y ≤ 5000) : p_wear_struck_between (stdD s) (tI ws) (.int y) = some (.tuple (ws.map fun w => spD ((sp s w).map fun p => (y - p.2, y - p.1)))) := by
  have hl := h.len
  simp [p_wear_struck_between, w_check_standard, w_check_weights h, hy, hy2]
  generalize hT : (foldP _ (ws.map PyData.int) []) = W
  have key : ∃ s', W = some s' ∧ s' = (ws.map fun w => spD ((sp s w).map fun p => (y - p.2, y - p.1))).take (0 + ws.length) := by
    rw [← hT]
    refine foldP_inv (k := 0) (I := fun k st => st = (ws.map fun w => spD ((sp s w).map fun p => (y - p.2, y - p.1))).take k) (fun i w st hw hI => ?_) (by simp)
    subst hI
    have hi : i < ws.length := (List.getElem?_eq_some_iff.mp hw).1
    refine ⟨_, ?_, rfl⟩
    have z : min i ws.length < 16777216 := by omega
    rw [show 0 + i + 1 = (0 + i) + 1 from rfl, List.take_succ]
    cases q : sp s w with
    | none => simp [w_span_of, q, z, hw]
    | some p => simp [w_span_of, q, z, hw, tup2]
  obtain ⟨s', rfl, rfl⟩ := key
  rw [Nat.zero_add]
  have : (ws.map fun w => spD ((sp s w).map fun p => (y - p.2, y - p.1))).take ws.length = ws.map fun w => spD ((sp s w).map fun p => (y - p.2, y - p.1)) := List.take_of_length_le (by simp)
  rw [this]
  simp
/-- the places of those weights that some years suit, and which of two is surely older -/
def goodW (s : Std) (ws : List Int) : List Nat := (List.range ws.length).filter fun i => (sp s (ws.getD i 0)).isSome
def spW (s : Std) (ws : List Int) (i : Nat) : Int × Int := (sp s (ws.getD i 0)).getD (0, 0)
theorem mem_goodW {s : Std} {ws : List Int} {i : Nat} : i ∈ goodW s ws ↔ i < ws.length ∧ sp s (ws.getD i 0) = some (spW s ws i) := by
  simp only [goodW, List.mem_filter, List.mem_range, spW]
  constructor
  · rintro ⟨h1, h2⟩
    refine ⟨h1, ?_⟩
    cases q : sp s (ws.getD i 0) with
    | none => rw [q] at h2; cases h2
    | some p => rfl
  · rintro ⟨h1, h2⟩
    exact ⟨h1, by rw [h2]; rfl⟩
theorem w_older2 {s : Std} {ws : List Int} (h : Wts ws) : p_wear_surely_older (stdD s) (tI ws) = some (tP (prsBy (goodW s ws) fun i j => decide ((spW s ws j).2 < (spW s ws i).1))) := by
  have hl := h.len
  have hgl : (goodW s ws).length ≤ 60 := Nat.le_trans (List.length_filter_le _ _) (by simpa using hl)
  simp [p_wear_surely_older, w_check_standard, w_check_weights h]
  rw [w_spans h fun w => by rfl]
  simp
  rw [pLc_fil (as := ws.zipIdx) _ (fun q => (sp s q.1).isSome) (fun q => nI q.2) (by simp; omega) fun q hq => by cases sp s q.1 <;> simp [pr], zip_fil2 0 (fun _ w => (sp s w).isSome) ws]
  rw [show ((List.range ws.length).filter fun i => (sp s (ws.getD i 0)).isSome) = goodW s ws from rfl]
  have at_ : ∀ i ∈ goodW s ws, atI (ws.map fun w => spD (sp s w)) (i : Int) = some (pr (spW s ws i)) := fun i hi => by
    obtain ⟨h1, h2⟩ := mem_goodW.mp hi
    rw [atI_nat (fun w => spD (sp s w)) 0 h1, h2]
    rfl
  simp
  rw [pLc2_enc (as := goodW s ws) nI (fun i => ((goodW s ws).filter fun j => decide ((spW s ws j).2 < (spW s ws i).1)).map fun (j : Nat) => pr ((i : Int), (j : Int))) ?len fun i hi => ?_]
  case len =>
    rw [prsBy_map, List.length_map]
    exact Nat.le_trans (prsBy_len (n := 60) hgl) (by decide)
  · rw [prsBy_map]
    rfl
  · simp
    rw [lcP_filP nI (fun j => (spW s ws j).2 < (spW s ws i).1) (fun (j : Nat) => pr ((i : Int), (j : Int))) fun j hj => by simp [at_ i hi, at_ j hj, tup2]]
end HR
set_option Elab.async false
set_option linter.all false
set_option maxRecDepth 100000
set_option maxHeartbeats 4000000
/-! F_wear4: rates as fractions without a common divisor. -/
namespace HR
open PySem PySem.Spec L2 L2.FL

/-- a fraction without a common divisor -/
structure Red (p : Int × Int) : Prop where
  n : 0 ≤ p.1
  d : 1 ≤ p.2
  g : gc p.1 p.2 = 1
theorem gc_nat (m n : Nat) : gc (m : Int) (n : Int) = ((Nat.gcd m n : Nat) : Int) := by
  unfold gc
  rw [Int.toNat_natCast, Int.toNat_natCast]
theorem red_of {a b : Int} (ha : 0 ≤ a) (hb : 1 ≤ b) : Red (a / gc a b, b / gc a b) ∧ (a / gc a b) * b = a * (b / gc a b) := by
  obtain ⟨m, rfl⟩ := Int.eq_ofNat_of_zero_le ha
  obtain ⟨n, rfl⟩ := Int.eq_ofNat_of_zero_le (show 0 ≤ b by omega)
  have hn : 0 < n := by omega
  have eg := gc_nat m n
  have hg : 0 < Nat.gcd m n := Nat.gcd_pos_of_pos_right _ hn
  rw [eg]
  obtain ⟨x, hx⟩ := Nat.gcd_dvd_left m n
  obtain ⟨y, hy⟩ := Nat.gcd_dvd_right m n
  have e1 : (m : Int) / ((Nat.gcd m n : Nat) : Int) = ((m / Nat.gcd m n : Nat) : Int) := (Int.natCast_ediv _ _).symm
  have e2 : (n : Int) / ((Nat.gcd m n : Nat) : Int) = ((n / Nat.gcd m n : Nat) : Int) := (Int.natCast_ediv _ _).symm
  rw [e1, e2]
  have q1 : m / Nat.gcd m n = x := Nat.div_eq_of_eq_mul_right hg hx
  have q2 : n / Nat.gcd m n = y := Nat.div_eq_of_eq_mul_right hg hy
  have hy0 : 0 < y := Nat.pos_of_ne_zero fun z => by rw [z, Nat.mul_zero] at hy; omega
  rw [q1, q2]
  have g1 : Nat.gcd m n = Nat.gcd m n * Nat.gcd x y := by rw [← Nat.gcd_mul_left, ← hx, ← hy]
  have g2 : Nat.gcd x y = 1 := Nat.eq_of_mul_eq_mul_left hg (by omega)
  refine ⟨⟨Int.natCast_nonneg _, by show (1 : Int) ≤ (y : Int); omega, ?_⟩, ?_⟩
  · show gc (x : Int) (y : Int) = 1
    rw [gc_nat, g2]
    rfl
  · have : x * n = m * y := by
      have h1 : x * n = x * (Nat.gcd m n * y) := congrArg (x * ·) hy
      have h2 : m * y = Nat.gcd m n * x * y := congrArg (· * y) hx
      rw [h1, h2, ← Nat.mul_assoc, Nat.mul_comm x]
    show (x : Int) * (n : Int) = (m : Int) * (y : Int)
    exact_mod_cast this
theorem red_eq {p q : Int × Int} (hp : Red p) (hq : Red q) (h : p.1 * q.2 = q.1 * p.2) : p = q := by
  obtain ⟨a, b⟩ := p
  obtain ⟨c, d⟩ := q
  obtain ⟨a0, b0, g1⟩ := hp
  obtain ⟨c0, d0, g2⟩ := hq
  simp only at a0 b0 g1 c0 d0 g2 h
  obtain ⟨a, rfl⟩ := Int.eq_ofNat_of_zero_le a0
  obtain ⟨b, rfl⟩ := Int.eq_ofNat_of_zero_le (show 0 ≤ b by omega)
  obtain ⟨c, rfl⟩ := Int.eq_ofNat_of_zero_le c0
  obtain ⟨d, rfl⟩ := Int.eq_ofNat_of_zero_le (show 0 ≤ d by omega)
  have k1 : Nat.Coprime a b := by
    rw [gc_nat] at g1
    show Nat.gcd a b = 1
    exact_mod_cast g1
  have k2 : Nat.Coprime c d := by
    rw [gc_nat] at g2
    show Nat.gcd c d = 1
    exact_mod_cast g2
  have h' : a * d = c * b := by exact_mod_cast h
  have x1 : b ∣ d := k1.symm.dvd_of_dvd_mul_left (show b ∣ a * d from ⟨c, by rw [h', Nat.mul_comm]⟩)
  have x2 : d ∣ b := k2.symm.dvd_of_dvd_mul_left (show d ∣ c * b from ⟨a, by rw [← h', Nat.mul_comm]⟩)
  have e : b = d := Nat.dvd_antisymm x1 x2
  subst e
  have : a = c := Nat.eq_of_mul_eq_mul_right (by omega) h'
  subst this
  rfl
/-- less, of fractions -/
def fl (p q : Int × Int) : Prop := p.1 * q.2 < q.1 * p.2
instance (p q : Int × Int) : Decidable (fl p q) := by unfold fl; exact inferInstance
theorem fl_neg {p q r : Int × Int} (hp : 0 < p.2) (hq : 0 < q.2) (hr : 0 < r.2) (h1 : ¬ fl p q) (h2 : ¬ fl q r) : ¬ fl p r := fr_neg (a := p.1) (b := p.2) (c := q.1) (d := q.2) (e := r.1) (f := r.2) hp hq hr h1 h2
theorem fl_eq {p q : Int × Int} (hp : Red p) (hq : Red q) (h1 : ¬ fl p q) (h2 : ¬ fl q p) : p = q := red_eq hp hq (by unfold fl at *; omega)
theorem fl_irr (p : Int × Int) : ¬ fl p p := by unfold fl; omega
abbrev lo3 (r : R3) : Int × Int := (r.1, r.2.2)
abbrev hi3 (r : R3) : Int × Int := (r.2.1, r.2.2)
/-- what a heap tells: the least of its greatest rates, the greatest of its least ones -/
structure Judged (rs : List R3) (h l : Int × Int) : Prop where
  rh : Red h
  rl : Red l
  h1 : ∀ r ∈ rs, ¬ fl (hi3 r) h
  h2 : ∃ r ∈ rs, ¬ fl h (hi3 r)
  l1 : ∀ r ∈ rs, ¬ fl l (lo3 r)
  l2 : ∃ r ∈ rs, ¬ fl (lo3 r) l
  hb : h.1 ≤ 1000000000000 ∧ h.2 ≤ 5000
  lb : l.1 ≤ 1000000000000 ∧ l.2 ≤ 5000
theorem w_judged {rs : List R3} (hd : Dated rs) : ∃ h l, Judged rs h l ∧ ((fl h l ∧ ∃ i j : Nat, i ≠ j ∧ i < rs.length ∧ j < rs.length ∧ p_wear_judge_rate (tR rs) = some (tag3 (PySem.Str.ofString "apart") i j)) ∨ (¬ fl h l ∧ p_wear_judge_rate (tR rs) = some (.tuple [.str (PySem.Str.ofString "rate"), pr l, pr h]))) := by
  have hj := w_judge_rate hd
  obtain ⟨i1, i2, _⟩ := bHi_spec hd
  obtain ⟨j1, j2, _⟩ := bLo_spec hd
  have mi := gR_mem i1
  have mj := gR_mem j1
  have bi := hd.b _ mi
  have bj := hd.b _ mj
  obtain ⟨rh, eh⟩ := red_of (a := (gR rs (bHi rs)).2.1) (b := (gR rs (bHi rs)).2.2) (by omega) (by omega)
  obtain ⟨rl, el⟩ := red_of (a := (gR rs (bLo rs)).1) (b := (gR rs (bLo rs)).2.2) (by omega) (by omega)
  generalize hH : ((gR rs (bHi rs)).2.1 / gc (gR rs (bHi rs)).2.1 (gR rs (bHi rs)).2.2, (gR rs (bHi rs)).2.2 / gc (gR rs (bHi rs)).2.1 (gR rs (bHi rs)).2.2) = h at rh hj
  generalize hL : ((gR rs (bLo rs)).1 / gc (gR rs (bLo rs)).1 (gR rs (bLo rs)).2.2, (gR rs (bLo rs)).2.2 / gc (gR rs (bLo rs)).1 (gR rs (bLo rs)).2.2) = l at rl hj
  have eh' : h.1 * (gR rs (bHi rs)).2.2 = (gR rs (bHi rs)).2.1 * h.2 := by rw [← hH]; exact eh
  have el' : l.1 * (gR rs (bLo rs)).2.2 = (gR rs (bLo rs)).1 * l.2 := by rw [← hL]; exact el
  have hh1 : ¬ fl h (hi3 (gR rs (bHi rs))) := by unfold fl hi3; simp only; omega
  have hh2 : ¬ fl (hi3 (gR rs (bHi rs))) h := by unfold fl hi3; simp only; omega
  have ll1 : ¬ fl l (lo3 (gR rs (bLo rs))) := by unfold fl lo3; simp only; omega
  have ll2 : ¬ fl (lo3 (gR rs (bLo rs))) l := by unfold fl lo3; simp only; omega
  have rhd := rh.d
  have rld := rl.d
  have J : Judged rs h l := ⟨rh, rl, fun r hr => by
      obtain ⟨k, hk⟩ := List.mem_iff_getElem?.mp hr
      have hk' := (List.getElem?_eq_some_iff.mp hk).1
      rw [gR_at hk'] at hk
      cases hk
      have := hd.b _ (gR_mem hk')
      have q := i2 k hk'
      simp only [ltHi, frLt, decide_eq_false_iff_not] at q
      exact fl_neg (by show 0 < (gR rs k).2.2; omega) (by show 0 < (gR rs (bHi rs)).2.2; omega) (by omega) q hh2, ⟨_, mi, hh1⟩, fun r hr => by
      obtain ⟨k, hk⟩ := List.mem_iff_getElem?.mp hr
      have hk' := (List.getElem?_eq_some_iff.mp hk).1
      rw [gR_at hk'] at hk
      cases hk
      have := hd.b _ (gR_mem hk')
      have q := j2 k hk'
      simp only [gtLo, frLt, decide_eq_false_iff_not] at q
      exact fl_neg (by omega) (by show 0 < (gR rs (bLo rs)).2.2; omega) (by show 0 < (gR rs k).2.2; omega) ll1 q, ⟨_, mj, ll2⟩, by
      rw [← hH]
      have a1 := Int.ediv_le_self (b := gc (gR rs (bHi rs)).2.1 (gR rs (bHi rs)).2.2) (a := (gR rs (bHi rs)).2.1) (by omega)
      have a2 := Int.ediv_le_self (b := gc (gR rs (bHi rs)).2.1 (gR rs (bHi rs)).2.2) (a := (gR rs (bHi rs)).2.2) (by omega)
      exact ⟨by simp only; omega, by simp only; omega⟩, by
      rw [← hL]
      have a1 := Int.ediv_le_self (b := gc (gR rs (bLo rs)).1 (gR rs (bLo rs)).2.2) (a := (gR rs (bLo rs)).1) (by omega)
      have a2 := Int.ediv_le_self (b := gc (gR rs (bLo rs)).1 (gR rs (bLo rs)).2.2) (a := (gR rs (bLo rs)).2.2) (by omega)
      exact ⟨by simp only; omega, by simp only; omega⟩⟩
  refine ⟨h, l, J, ?_⟩
  have cmp : ltHi (gR rs (bHi rs)) ((gR rs (bLo rs)).1, (gR rs (bLo rs)).1, (gR rs (bLo rs)).2.2) = true ↔ fl h l := by
    simp only [ltHi, frLt, decide_eq_true_eq]
    have p1 : 0 < (gR rs (bHi rs)).2.2 := by omega
    have p2 : 0 < (gR rs (bLo rs)).2.2 := by omega
    constructor
    · intro q
      exact Classical.byContradiction fun z => fl_neg (p := hi3 (gR rs (bHi rs))) (q := l) (r := lo3 (gR rs (bLo rs))) p1 (by omega) p2 (fl_neg (p := hi3 (gR rs (bHi rs))) (q := h) (r := l) p1 (by omega) (by omega) hh2 z) ll1 q
    · intro q
      exact Classical.byContradiction fun z => fl_neg (p := h) (q := lo3 (gR rs (bLo rs))) (r := l) (by omega) p2 (by omega) (fl_neg (p := h) (q := hi3 (gR rs (bHi rs))) (r := lo3 (gR rs (bLo rs))) (by omega) p1 p2 hh1 z) ll2 q
  by_cases c : fl h l
  · rw [if_pos (cmp.mpr c)] at hj
    refine .inl ⟨c, _, _, fun e => ?_, i1, j1, hj⟩
    have q := cmp.mpr c
    rw [← e] at q
    simp only [ltHi, frLt, decide_eq_true_eq] at q
    have := Int.mul_le_mul_of_nonneg_right bi.2.1 (show 0 ≤ (gR rs (bHi rs)).2.2 by omega)
    omega
  · rw [if_neg fun z => c (cmp.mp z)] at hj
    exact .inr ⟨c, hj⟩
theorem judged_uniq {rs : List R3} (hd : Dated rs) {h l h' l' : Int × Int} (J : Judged rs h l) (J' : Judged rs h' l') : h = h' ∧ l = l' := by
  have p1 := J.rh.d
  have p2 := J.rl.d
  have p3 := J'.rh.d
  have p4 := J'.rl.d
  constructor
  · obtain ⟨r, hr, q⟩ := J.h2
    obtain ⟨r', hr', q'⟩ := J'.h2
    have b1 := hd.b r hr
    have b2 := hd.b r' hr'
    exact fl_eq J.rh J'.rh (fl_neg (by omega) (by show 0 < r.2.2; omega) (by omega) q (J'.h1 r hr)) (fl_neg (by omega) (by show 0 < r'.2.2; omega) (by omega) q' (J.h1 r' hr'))
  · obtain ⟨r, hr, q⟩ := J.l2
    obtain ⟨r', hr', q'⟩ := J'.l2
    have b1 := hd.b r hr
    have b2 := hd.b r' hr'
    exact fl_eq J.rl J'.rl (fl_neg (by omega) (by show 0 < r'.2.2; omega) (by omega) (J.l1 r' hr') q') (fl_neg (by omega) (by show 0 < r.2.2; omega) (by omega) (J'.l1 r hr) q)
theorem fl_asy {p q : Int × Int} (h : fl p q) : ¬ fl q p := by unfold fl at *; omega
theorem judged_join {A B : List R3} (dA : Dated A) (dB : Dated B) {ha la hb lb : Int × Int} (JA : Judged A ha la) (JB : Judged B hb lb) : Judged (A ++ B) (if fl hb ha then hb else ha) (if fl la lb then lb else la) := by
  have p1 := JA.rh.d
  have p2 := JA.rl.d
  have p3 := JB.rh.d
  have p4 := JB.rl.d
  have pos : ∀ r ∈ A ++ B, 0 < r.2.2 := fun r hr => by
    rcases List.mem_append.mp hr with h | h
    · have := dA.b r h; omega
    · have := dB.b r h; omega
  refine ⟨?_, ?_, ?_, ?_, ?_, ?_, ?_, ?_⟩
  · split
    · exact JB.rh
    · exact JA.rh
  · split
    · exact JB.rl
    · exact JA.rl
  · intro r hr
    have pr_ := pos r hr
    rcases List.mem_append.mp hr with h | h
    · split
      · rename_i c
        exact fl_neg (q := ha) pr_ (by omega) (by omega) (JA.h1 r h) (fl_asy c)
      · exact JA.h1 r h
    · split
      · exact JB.h1 r h
      · rename_i c
        exact fl_neg (q := hb) pr_ (by omega) (by omega) (JB.h1 r h) c
  · split
    · obtain ⟨r, hr, q⟩ := JB.h2
      exact ⟨r, List.mem_append_right _ hr, q⟩
    · obtain ⟨r, hr, q⟩ := JA.h2
      exact ⟨r, List.mem_append_left _ hr, q⟩
  · intro r hr
    have pr_ := pos r hr
    rcases List.mem_append.mp hr with h | h
    · split
      · rename_i c
        exact fl_neg (q := la) (by omega) (by omega) pr_ (fl_asy c) (JA.l1 r h)
      · exact JA.l1 r h
    · split
      · exact JB.l1 r h
      · rename_i c
        exact fl_neg (q := lb) (by omega) (by omega) pr_ c (JB.l1 r h)
  · split
    · obtain ⟨r, hr, q⟩ := JB.l2
      exact ⟨r, List.mem_append_right _ hr, q⟩
    · obtain ⟨r, hr, q⟩ := JA.l2
      exact ⟨r, List.mem_append_left _ hr, q⟩
  · split
    · exact JB.hb
    · exact JA.hb
  · split
    · exact JB.lb
    · exact JA.lb
theorem dated_join {A B : List R3} (dA : Dated A) (dB : Dated B) (h : A.length + B.length ≤ 60) : Dated (A ++ B) := ⟨by have := dA.ne; simp; omega, by simpa using h, fun r hr => by
  rcases List.mem_append.mp hr with h | h
  · exact dA.b r h
  · exact dB.b r h⟩
theorem w_quot_red {p : Int × Int} (h : Red p) (h2 : p.2 ≤ 100000000) : p_wear_quotient (.int p.1) (.int p.2) = some (pr p) := by
  rw [w_quotient h.n h.d h2, h.g, Int.ediv_one, Int.ediv_one]
theorem w_x_accept_rate {rs : List R3} (hd : Dated rs) {p : Int × Int} (h : Red p) (h2 : p.2 ≤ 100000000) (hb : p.1 ≤ 1000000000000) (q1 : ∀ r ∈ rs, ¬ fl p (lo3 r)) (q2 : ∀ r ∈ rs, ¬ fl (hi3 r) p) : p_wear_x_accept_rate (tR rs) (pr p) = some .none := by
  have n1 := h.n
  have n2 := h.d
  have wq := w_quot_red h h2
  have c1 : ¬ p.1 < 0 := by omega
  have c2 : ¬ p.2 < 1 := by omega
  have ne := (nice_pr (p := p) (Nat.lt_of_lt_of_le (show p.1.natAbs < 10000000000000 by omega) (by decide)) (Nat.lt_of_lt_of_le (show p.2.natAbs < 10000000000000 by omega) (by decide))).ne (by decide)
  have k1 : isKind "tuple" (pr p) = some (.bool true) := rfl
  have k2 : oLen [pr p] = some (.int 2) := rfl
  have k3 : itSeq (pr p) = some ([p.1, p.2].map .int) := rfl
  unfold p_wear_x_accept_rate
  refine bs .none (by simp [w_check_dated hd]) ?_
  refine gf ?_ ?_
  · simp only [pSeq, Option.bind_some, k3]
    rw [pLc_all (as := [p.1, p.2]) .int (fun _ => .bool true) (by simp) fun n hn => by simp]
    have a := allT [p.1, p.2]
    simp only [List.map_cons, List.map_nil] at a ⊢
    simp [k1, k2, a]
  refine gf ?_ ?_
  · simp [c1, c2, wq, ne]
  have key : (forP (fun x_5 (st_4 : Unit) => ((uTup (uCons uSet (uCons uSet (uCons uSet uNil)))) x_5).bind fun t_6 => (pIfE (pOr (pTr (pCl (ap2 HR.p_wear_less) (pCs (some (pr p)) (pCs (pTup (pCs (some t_6.1) (pCs (some t_6.2.2.1) pNl))) pNl)))) (pTr (pCl (ap2 HR.p_wear_less) (pCs (pTup (pCs (some t_6.2.1) (pCs (some t_6.2.2.1) pNl))) (pCs (some (pr p)) pNl))))) (Option.map Oc.rt (some (.bool false))) (some (Oc.nx ())))) (rs.map t3) () : Option (Oc PyData Empty Unit)) = some (.nx ()) := forP_unit fun r hr => by
    have b := hd.b r hr
    have w1 := w_less (a := p.1) (b := p.2) (c := r.1) (d := r.2.2) (by omega) (by omega) (by omega) (by omega)
    have w2 := w_less (a := r.2.1) (b := r.2.2) (c := p.1) (d := p.2) (by omega) (by omega) (by omega) (by omega)
    have z1 := q1 r hr
    have z2 := q2 r hr
    unfold fl at z1 z2
    simp only [lo3, hi3] at z1 z2
    rw [decide_eq_false z1] at w1
    rw [decide_eq_false z2] at w2
    have w1' : p_wear_less (pr p) (pr (r.1, r.2.2)) = some (.bool false) := w1
    have w2' : p_wear_less (pr (r.2.1, r.2.2)) (pr p) = some (.bool false) := w2
    simp [tup2, w1', w2']
  show thenR (Option.bind (itSeq (tR rs)) fun xs => forP _ xs ()) _ = _
  rw [show itSeq (tR rs) = some (rs.map t3) from rfl, Option.bind_some]
  erw [key]
  rfl
end HR
set_option Elab.async false
set_option linter.all false
set_option maxRecDepth 100000
set_option maxHeartbeats 4000000
/-! plain texts of casts, printed by pgen.py -/
namespace HR
open PySem PySem.Spec L2 L2.FL

noncomputable def p_casts_are_flaws (v_value : PyData) : Option PyData :=
  (pIfE (pOr (pNot (pTr (p1 (isKind "tuple") (some v_value)))) (pBl (p2 oGt (pB oLen (pCs (some v_value) pNl)) (some (.int 12))))) (some (.bool false))
  (pIfE (pNot (pTr (pB oAll (pCs (pOfL (pLc (pSeq (some v_value)) fun x_1 => (uSet x_1).bind fun t_2 => pAll (pAndT (pCl (ap1 HR.p_integers_is_integer) (pCs (some t_2) pNl)) (pChain oLe oLe (some (.int 0)) (some t_2) (some (.int 1000000000000)))))) pNl)))) (some (.bool false))
  (pNotT (pOfL (pLc (pRg1 (p2 oSub (pB oLen (pCs (some v_value) pNl)) (some (.int 1)))) fun x_3 => (uSet x_3).bind fun t_4 => pIfS (pBl (p2 oGe (p2 oIx (some v_value) (some t_4)) (p2 oIx (some v_value) (p2 oAdd (some t_4) (some (.int 1)))))) (some (.int 1)))))))
noncomputable def p_casts_check_flawed (v_flawed : PyData) : Option PyData :=
  (pIfE (pOr (pNot (pTr (p1 (isKind "tuple") (some v_flawed)))) (pOr (pBl (p2 oGt (pB oLen (pCs (some v_flawed) pNl)) (some (.int 60)))) (pNot (pTr (pB oAll (pCs (pOfL (pLc (pSeq (some v_flawed)) fun x_1 => (uSet x_1).bind fun t_2 => pAll (pCl (ap1 HR.p_casts_are_flaws) (pCs (some t_2) pNl)))) pNl)))))) none (some PyData.none))
noncomputable def p_casts_check_dies (v_dies : PyData) : Option PyData :=
  (pIfE (pOr (pNot (pTr (p1 (isKind "tuple") (some v_dies)))) (pOr (pBl (p2 oGt (pB oLen (pCs (some v_dies) pNl)) (some (.int 60)))) (pNot (pTr (pB oAll (pCs (pOfL (pLc (pSeq (some v_dies)) fun x_1 => (uSet x_1).bind fun t_2 => pAll (pCl (ap1 HR.p_integers_is_integer) (pCs (some t_2) pNl)))) pNl)))))) none
  (pIfE (pTr (pOfL (pLc (pRg1 (p2 oSub (pB oLen (pCs (some v_dies) pNl)) (some (.int 1)))) fun x_3 => (uSet x_3).bind fun t_4 => pIfS (pBl (p2 oGe (p2 oIx (some v_dies) (some t_4)) (p2 oIx (some v_dies) (p2 oAdd (some t_4) (some (.int 1)))))) (some (.int 1))))) none (some PyData.none)))
noncomputable def p_casts_check_least (v_least : PyData) : Option PyData :=
  (pIfE (pOr (pNot (pTr (pCl (ap1 HR.p_integers_is_integer) (pCs (some v_least) pNl)))) (pNot (pBl (pChain oLe oLe (some (.int 1)) (some v_least) (some (.int 12)))))) none (some PyData.none))
-- own_flaws: not printed
-- common_flaws: not printed
-- groups_by: not printed
-- cast_groups: not printed
-- count_false: not printed
noncomputable def p_casts_within (v_one : PyData) (v_other : PyData) : Option PyData :=
  (pNotT (pOfL (pLc (pSeq (some v_one)) fun x_1 => (uSet x_1).bind fun t_2 => pIfS (pBl (p2 oNotIn (some t_2) (some v_other))) (some t_2))))
-- surely_false: not printed
noncomputable def p_casts_check_group (v_flawed : PyData) (v_group : PyData) : Option PyData :=
  (pIfE (pOr (pNot (pTr (p1 (isKind "tuple") (some v_group)))) (pNot (pTr (pB oAll (pCs (pOfL (pLc (pSeq (some v_group)) fun x_1 => (uSet x_1).bind fun t_2 => pAll (pAndT (pCl (ap1 HR.p_integers_is_integer) (pCs (some t_2) pNl)) (pChain oLe oLt (some (.int 0)) (some t_2) (pB oLen (pCs (some v_flawed) pNl)))))) pNl))))) none
  (pIfE (pTr (pOfL (pLc (pRg1 (p2 oSub (pB oLen (pCs (some v_group) pNl)) (some (.int 1)))) fun x_3 => (uSet x_3).bind fun t_4 => pIfS (pBl (p2 oGe (p2 oIx (some v_group) (some t_4)) (p2 oIx (some v_group) (p2 oAdd (some t_4) (some (.int 1)))))) (some (.int 1))))) none (some PyData.none)))
-- judge_line: not printed
-- mother_coins: not printed
-- accept_copy: not printed
-- x_accept_copy: not printed
-- accept_apart: not printed
-- x_accept_apart: not printed
noncomputable def p_casts_check_width (v_value : PyData) (v_reason : PyData) : Option PyData :=
  (pIfE (pOr (pNot (pTr (pCl (ap1 HR.p_integers_is_integer) (pCs (some v_value) pNl)))) (pNot (pBl (pChain oLe oLe (some (.int 1)) (some v_value) (some (.int 1000000000000)))))) none (some PyData.none))
noncomputable def p_casts_cast_times (v_mother : PyData) (v_copy : PyData) (v_low : PyData) (v_high : PyData) : Option PyData :=
  (Option.bind (pCl (ap2 HR.p_casts_check_width) (pCs (some v_mother) (pCs (some (.str (PySem.Str.ofString "mother"))) pNl))) fun _u_1 =>
  (Option.bind (pCl (ap2 HR.p_casts_check_width) (pCs (some v_copy) (pCs (some (.str (PySem.Str.ofString "copy"))) pNl))) fun _u_2 =>
  (Option.bind (pFold (pSeq (pTup (pCs (pTup (pCs (some (.str (PySem.Str.ofString "low"))) (pCs (some v_low) pNl))) (pCs (pTup (pCs (some (.str (PySem.Str.ofString "high"))) (pCs (some v_high) pNl))) pNl)))) (fun (x_4 : PyData) (st_3 : Unit) => ((uTup (uCons uSet (uCons uSet uNil))) x_4).bind fun t_5 => (Option.bind (pIfE (pOr (pNot (pTr (pCl (ap1 HR.p_integers_is_integer) (pCs (some t_5.2.1) pNl)))) (pNot (pBl (pChain oLe oLe (some (.int 0)) (some t_5.2.1) (some (.int 1000)))))) none (some ())) fun t_6 => some ())) ()) fun st_3 =>
  (pIfE (pBl (p2 oGt (some v_low) (some v_high))) none
  (Option.bind (pLst pNl) fun v_found_7 =>
  (Option.bind (Option.bind (some v_mother) fun u_13 => Option.bind (Option.bind (some v_mother) fun u_11 => Option.bind (Option.bind (some (.int 1)) fun u_9 => Option.bind (some ()) fun w_10 => some (u_9, w_10)) fun w_12 => some (u_11, w_12)) fun w_14 => some (u_13, w_14)) fun t_8 =>
  (Option.bind (pFold (pRg1 (p2 oAdd (some (.int 12)) (some (.int 1)))) (fun (x_16 : PyData) (st_15 : List PyData × PyData × PyData × PyData) => (uSet x_16).bind fun t_17 => (Option.bind (pIfE (pBl (pChain oLe oLe (some st_15.2.1) (p2 oMul (some v_copy) (some st_15.2.2.2)) (some st_15.2.2.1))) (Option.bind (pApp st_15.1 (some t_17)) fun v_found_19 => some v_found_19) (some st_15.1)) fun t_18 =>
  (Option.bind (Option.bind (p2 oMul (some st_15.2.1) (p2 oSub (some (.int 1000)) (some v_high))) fun u_25 => Option.bind (Option.bind (p2 oMul (some st_15.2.2.1) (p2 oSub (some (.int 1000)) (some v_low))) fun u_23 => Option.bind (Option.bind (p2 oMul (some st_15.2.2.2) (some (.int 1000))) fun u_21 => Option.bind (some ()) fun w_22 => some (u_21, w_22)) fun w_24 => some (u_23, w_24)) fun w_26 => some (u_25, w_26)) fun t_20 => some (t_18, t_20.1, t_20.2.1, t_20.2.2.1)))) (v_found_7, t_8.1, t_8.2.1, t_8.2.2.1)) fun st_15 =>
  (pB oTuple (pCs (some (.list st_15.1)) pNl)))))))))
end HR
set_option Elab.async false
set_option linter.all false
set_option maxRecDepth 100000
set_option maxHeartbeats 4000000
/-! F_casts: casts of casts. -/
namespace HR
open PySem PySem.Spec L2 L2.FL

def castOk (m c lo hi t : Nat) : Bool := decide (m * (1000 - hi) ^ t ≤ c * 1000 ^ t ∧ c * 1000 ^ t ≤ m * (1000 - lo) ^ t)
theorem c_check_width {n : Nat} {r : PyData} (h : 1 ≤ n) (h2 : n ≤ 1000000000000) : p_casts_check_width (nI n) r = some .none := by
  have z1 : (1 : Int) ≤ (n : Int) := by omega
  have z2 : (n : Int) ≤ 1000000000000 := by omega
  simp [p_casts_check_width, z1, z2]
theorem c_cast_times {m c lo hi : Nat} (hm : 1 ≤ m) (hm2 : m ≤ 1000000000000) (hc : 1 ≤ c) (hc2 : c ≤ 1000000000000) (hl : lo ≤ hi) (hh : hi ≤ 1000) : p_casts_cast_times (nI m) (nI c) (nI lo) (nI hi) = some (nT ((List.range 13).filter (castOk m c lo hi))) := by
  have z1 : (lo : Int) ≤ 1000 := by omega
  have z2 : (hi : Int) ≤ 1000 := by omega
  have z3 : ¬ (hi : Int) < (lo : Int) := by omega
  have w1 := c_check_width (r := .str (PySem.Str.ofString "mother")) hm hm2
  have w2 := c_check_width (r := .str (PySem.Str.ofString "copy")) hc hc2
  unfold p_casts_cast_times
  refine bs .none (by simp [w1]) ?_
  refine bs .none (by simp [w2]) ?_
  refine bs () ?_ ?_
  · simp [foldP, z1, z2]
  refine gf (by simp [z3]) ?_
  refine bs [] (by simp) ?_
  refine bs (nI m, nI m, .int 1, ()) (by simp) ?_
  refine bs (((List.range 13).filter (castOk m c lo hi)).map nI, nI (m * (1000 - hi) ^ 13), nI (m * (1000 - lo) ^ 13), nI (1000 ^ 13)) ?_ (by simp)
  have e13 : pRg1 (p2 oAdd (some (.int 12)) (some (.int 1))) = some ((List.range 13).map nI) := rg1_nat (n := 13) (by decide)
  unfold pFold
  rw [e13]
  simp only [Option.bind_some]
  generalize hT : (foldP _ _ _) = W
  have key : ∃ s', W = some s' ∧ s' = (((List.range (0 + (List.range 13).length)).filter (castOk m c lo hi)).map nI, nI (m * (1000 - hi) ^ (0 + (List.range 13).length)), nI (m * (1000 - lo) ^ (0 + (List.range 13).length)), nI (1000 ^ (0 + (List.range 13).length))) := by
    rw [← hT]
    refine foldP_inv (k := 0) (I := fun k st => st = (((List.range k).filter (castOk m c lo hi)).map nI, nI (m * (1000 - hi) ^ k), nI (m * (1000 - lo) ^ k), nI (1000 ^ k))) (fun i a st ha hI => ?_) (by simp)
    subst hI
    obtain rfl : a = i := by
      rw [List.getElem?_range] at ha
      · exact (Option.some.inj ha).symm
      · have := (List.getElem?_eq_some_iff.mp ha).1
        simpa using this
    have hi13 : a < 13 := by
      have := (List.getElem?_eq_some_iff.mp ha).1
      simpa using this
    refine ⟨_, ?_, rfl⟩
    rw [Nat.zero_add, List.range_succ, List.filter_append, List.map_append]
    have m0 : oMul (.int c) (.int ((1000 ^ a : Nat) : Int)) = some (.int ((c * 1000 ^ a : Nat) : Int)) := by
      rw [o_mulL (by omega) (by omega), Int.natCast_mul]
    have m1 : oMul (.int ((m * (1000 - hi) ^ a : Nat) : Int)) (.int (1000 - (hi : Int))) = some (nI (m * (1000 - hi) ^ (a + 1))) := by
      rw [o_mulR (by omega) (by omega), Nat.pow_succ, ← Nat.mul_assoc]
      show _ = some (PyData.int _)
      rw [Int.natCast_mul _ (1000 - hi), Int.natCast_sub hh]
      rfl
    have m2 : oMul (.int ((m * (1000 - lo) ^ a : Nat) : Int)) (.int (1000 - (lo : Int))) = some (nI (m * (1000 - lo) ^ (a + 1))) := by
      rw [o_mulR (by omega) (by omega), Nat.pow_succ, ← Nat.mul_assoc]
      show _ = some (PyData.int _)
      rw [Int.natCast_mul _ (1000 - lo), Int.natCast_sub (by omega)]
      rfl
    have m3 : oMul (.int ((1000 ^ a : Nat) : Int)) (.int 1000) = some (nI (1000 ^ (a + 1))) := by
      rw [o_mulR (by decide) (by decide), Nat.pow_succ]
      show _ = some (PyData.int _)
      rw [Int.natCast_mul]
      rfl
    have hlen : (((List.range a).filter (castOk m c lo hi)).map nI).length + 1 < 1000000 := by
      have := List.length_filter_le (castOk m c lo hi) (List.range a)
      simp at this ⊢
      omega
    have hok : castOk m c lo hi a = decide (m * (1000 - hi) ^ a ≤ c * 1000 ^ a ∧ c * 1000 ^ a ≤ m * (1000 - lo) ^ a) := rfl
    have hsz : (((List.range a).filter (castOk m c lo hi)).map nI).length < 16777216 := by omega
    generalize m * (1000 - hi) ^ a = A1 at *
    generalize m * (1000 - lo) ^ a = A2 at *
    generalize 1000 ^ a = A3 at *
    generalize m * (1000 - hi) ^ (a + 1) = B1 at *
    generalize m * (1000 - lo) ^ (a + 1) = B2 at *
    generalize 1000 ^ (a + 1) = B3 at *
    generalize c * A3 = A4 at *
    generalize hL : ((List.range a).filter (castOk m c lo hi)).map nI = L at *
    rw [List.filter_cons, hok, List.filter_nil]
    by_cases c1 : A1 ≤ A4
    · have z4 : (A1 : Int) ≤ (A4 : Int) := by omega
      by_cases c2 : A4 ≤ A2
      · have z5 : (A4 : Int) ≤ (A2 : Int) := by omega
        simp [m0, m1, m2, m3, c1, c2, z4, z5, hsz]
      · have z5 : ¬ (A4 : Int) ≤ (A2 : Int) := by omega
        simp [m0, m1, m2, m3, c1, c2, z4, z5, hsz]
    · have z4 : ¬ (A1 : Int) ≤ (A4 : Int) := by omega
      simp [m0, m1, m2, m3, c1, z4, hsz]
  obtain ⟨s', rfl, rfl⟩ := key
  simp
theorem pw {a b t : Nat} (h : a ≤ b) : a ^ t ≤ b ^ t := Nat.pow_le_pow_left h t
theorem castOk_iff {m c lo hi t : Nat} : castOk m c lo hi t = true ↔ m * (1000 - hi) ^ t ≤ c * 1000 ^ t ∧ c * 1000 ^ t ≤ m * (1000 - lo) ^ t := by simp [castOk]
theorem castOk_join {m c d lo hi a b : Nat} (h1 : castOk m c lo hi a = true) (h2 : castOk c d lo hi b = true) : castOk m d lo hi (a + b) = true := by
  rw [castOk_iff] at *
  obtain ⟨p1, p2⟩ := h1
  obtain ⟨q1, q2⟩ := h2
  simp only [Nat.pow_add]
  constructor
  · calc m * ((1000 - hi) ^ a * (1000 - hi) ^ b) = (m * (1000 - hi) ^ a) * (1000 - hi) ^ b := by rw [Nat.mul_assoc]
      _ ≤ (c * 1000 ^ a) * (1000 - hi) ^ b := Nat.mul_le_mul_right _ p1
      _ = (c * (1000 - hi) ^ b) * 1000 ^ a := by rw [Nat.mul_right_comm]
      _ ≤ (d * 1000 ^ b) * 1000 ^ a := Nat.mul_le_mul_right _ q1
      _ = d * (1000 ^ a * 1000 ^ b) := by rw [Nat.mul_assoc, Nat.mul_comm (1000 ^ b)]
  · calc d * (1000 ^ a * 1000 ^ b) = (d * 1000 ^ b) * 1000 ^ a := by rw [Nat.mul_assoc, Nat.mul_comm (1000 ^ b)]
      _ ≤ (c * (1000 - lo) ^ b) * 1000 ^ a := Nat.mul_le_mul_right _ q2
      _ = (c * 1000 ^ a) * (1000 - lo) ^ b := by rw [Nat.mul_right_comm]
      _ ≤ (m * (1000 - lo) ^ a) * (1000 - lo) ^ b := Nat.mul_le_mul_right _ p2
      _ = m * ((1000 - lo) ^ a * (1000 - lo) ^ b) := by rw [Nat.mul_assoc]
theorem castOk_wide {m c lo hi lo' hi' t : Nat} (h : castOk m c lo hi t = true) (hl : lo' ≤ lo) (hh : hi ≤ hi') : castOk m c lo' hi' t = true := by
  rw [castOk_iff] at *
  exact ⟨Nat.le_trans (Nat.mul_le_mul_left _ (pw (by omega))) h.1, Nat.le_trans h.2 (Nat.mul_le_mul_left _ (pw (by omega)))⟩
theorem castOk_zero {m c lo hi : Nat} : castOk m c lo hi 0 = true ↔ m = c := by
  rw [castOk_iff]
  simp
  omega
theorem castOk_mul {k m c lo hi t : Nat} (hk : 0 < k) : castOk (k * m) (k * c) lo hi t = castOk m c lo hi t := by
  rw [Bool.eq_iff_iff, castOk_iff, castOk_iff]
  simp only [Nat.mul_assoc]
  constructor
  · rintro ⟨h1, h2⟩
    exact ⟨Nat.le_of_mul_le_mul_left h1 hk, Nat.le_of_mul_le_mul_left h2 hk⟩
  · rintro ⟨h1, h2⟩
    exact ⟨Nat.mul_le_mul_left _ h1, Nat.mul_le_mul_left _ h2⟩
theorem castOk_more {m c lo hi t : Nat} (h : m < c) : castOk m c lo hi t = false := by
  rw [Bool.eq_false_iff]
  intro e
  have := (castOk_iff.mp e).2
  have h1 : m * (1000 - lo) ^ t ≤ m * 1000 ^ t := Nat.mul_le_mul_left _ (pw (by omega))
  have h2 : m * 1000 ^ t < c * 1000 ^ t := Nat.mul_lt_mul_of_pos_right h (Nat.pow_pos (by decide))
  omega
theorem castOk_alike {m hi t : Nat} : castOk m m 0 hi t = true := by
  rw [castOk_iff]
  exact ⟨Nat.mul_le_mul_left _ (pw (by omega)), Nat.le_refl _⟩
theorem castOk_self {m lo hi t : Nat} (hm : 0 < m) (hl : 0 < lo) (ht : 0 < t) : castOk m m lo hi t = false := by
  rw [Bool.eq_false_iff]
  intro e
  have h := (castOk_iff.mp e).2
  have h2 : (1000 - lo) ^ t < 1000 ^ t := Nat.pow_lt_pow_left (by omega) (by omega)
  have := Nat.mul_lt_mul_of_pos_left h2 hm
  omega
end HR
set_option Elab.async false
set_option linter.all false
set_option maxRecDepth 100000
set_option maxHeartbeats 4000000
namespace K18
open PySem PySem.Spec L2 L2.FL

noncomputable def p__law_same (v_actual : PyData) (v_due : PyData) : Option PyData :=
  (pAndT (p2 oEq (some v_actual) (some v_due)) (p2 oEq (pB oRepr (pCs (some v_actual) pNl)) (pB oRepr (pCs (some v_due) pNl))))
noncomputable def p__law_worn_holds (v_state : List PyData) : Option (PyData × List PyData) :=
  (Option.bind ((sB (s2 oAdd (sL (some (.int 60))) (sB (sCs (sL (some (.int 60))) sNl) (st1 p_draw))) fun u_4 => sM (fun w_5 => some (u_4, w_5)) (sB (sB (sCs (sL (some (.int 3))) sNl) (st1 p_draw)) fun u_2 => sM (fun w_3 => some (u_2, w_3)) (sL (some ())))) v_state) fun t_1 =>
  (Option.bind ((sM tupS (sCs (sL (some t_1.1.1)) (sCs (s2 oAdd (sL (some t_1.1.1)) (sB (sCs (sL (some (.int 12))) sNl) (st1 p_draw))) (sCs (sL (some t_1.1.2.1)) (sCs (s2 oAdd (sL (some t_1.1.2.1)) (sB (sCs (sL (some (.int 3))) sNl) (st1 p_draw))) sNl))))) t_1.2) fun t_6 =>
  (Option.bind ((sB (sCs (sL (some (.int 12))) sNl) (st1 p_draw)) t_6.2) fun t_7 =>
  (Option.bind (pCl (ap2 HR.p_wear_can_weigh) (pCs (some t_6.1) (pCs (some t_7.1) pNl))) fun v_left_8 =>
  (Option.bind (p2 oAdd (some v_left_8) (pSl (some t_6.1) (pPt (some (.int 2))) pNoP)) fun v_later_9 =>
  (thenR (pFor (pRg1 (some (.int 9))) (fun (x_11 : PyData) (st_10 : Unit) => (uSet x_11).bind fun t_12 => (pIfE (pNot (pTr (pCl (ap2 K18.p__law_same) (pCs (pCl (ap2 HR.p_wear_can_weigh) (pCs (some v_later_9) (pCs (some t_12) pNl))) (pCs (pCl (ap2 HR.p_wear_can_weigh) (pCs (some t_6.1) (pCs (p2 oAdd (some t_7.1) (some t_12)) pNl))) pNl))))) (Option.map Oc.rt (Option.map (fun x => (x, t_7.2)) (some (.bool false)))) (some (Oc.nx ())))) ()) fun st_10 =>
  (Option.bind ((sM oTuple (sCs (sM lstS (sLc (sM rg1 (s2 oAdd (sL (some (.int 1))) (sB (sCs (sL (some (.int 3))) sNl) (st1 p_draw)))) fun x_14 => sU (uSet x_14) fun t_15 => sAll (sB (sCs (sL (some (.int 130))) sNl) (st1 p_draw)))) sNl)) t_7.2) fun t_13 =>
  (thenR (pFor (pSeq (some t_13.1)) (fun (x_17 : PyData) (st_16 : Unit) => (uSet x_17).bind fun t_18 => (Option.bind (pOfL (pLc (pRg1 (some (.int 140))) fun x_20 => (uSet x_20).bind fun t_21 => pIfS (pTr (pTk (ap3 HR.p_wear_x_accept_years) (pOfL (pLst (pCs (some v_later_9) (pCs (pTup (pCs (some t_18) pNl)) (pCs (some t_21) pNl))))))) (some t_21))) fun v_good_19 =>
  (pIfE (pBl (p2 oNe (some v_good_19) (pOfL (pLc (pRg1 (some (.int 140))) fun x_22 => (uSet x_22).bind fun t_23 => pIfS (pTr (pTk (ap3 HR.p_wear_x_accept_years) (pOfL (pLst (pCs (some t_6.1) (pCs (pTup (pCs (some t_18) pNl)) (pCs (p2 oAdd (some t_7.1) (some t_23)) pNl))))))) (some t_23))))) (Option.map Oc.rt (Option.map (fun x => (x, t_13.2)) (some (.bool false))))
  (Option.bind (pCl (ap2 HR.p_wear_years_for) (pCs (some v_later_9) (pCs (some t_18) pNl))) fun v_span_24 =>
  (pIfE (pOr (pBl (p2 oNe (pIsN (some v_span_24)) (p2 oEq (some v_good_19) (pOfL (pLst pNl))))) (pAnd (pBl (pNotN (some v_span_24))) (pOr (pBl (p2 oNe (p2 oIx (some v_span_24) (some (.int 0))) (p2 oIx (some v_good_19) (some (.int 0))))) (pBl (p2 oNe (pB oMin (pCs (pOfL (pLst (pCs (p2 oIx (some v_span_24) (some (.int 1))) (pCs (some (.int 139)) pNl)))) pNl)) (p2 oIx (some v_good_19) (p1 oNeg (some (.int 1))))))))) (Option.map Oc.rt (Option.map (fun x => (x, t_13.2)) (some (.bool false)))) (some (Oc.nx ()))))))) ()) fun st_16 =>
  (Option.bind (Option.bind (pCl (ap2 HR.p_wear_judge_common) (pCs (some v_later_9) (pCs (some t_13.1) pNl))) fun u_30 => Option.bind (Option.bind (pOfL (pLc (pRg1 (some (.int 140))) fun x_26 => (uSet x_26).bind fun t_27 => pIfS (pTr (pTk (ap3 HR.p_wear_x_accept_years) (pOfL (pLst (pCs (some t_6.1) (pCs (some t_13.1) (pCs (p2 oAdd (some t_7.1) (some t_27)) pNl))))))) (some t_27))) fun u_28 => Option.bind (some ()) fun w_29 => some (u_28, w_29)) fun w_31 => some (u_30, w_31)) fun t_25 =>
  (pIfE (pOr (pBl (p2 oNe (p2 oEq (p2 oIx (some t_25.1) (some (.int 0))) (some (.str (PySem.Str.ofString "years")))) (p2 oNe (some t_25.2.1) (pOfL (pLst pNl))))) (pAnd (pBl (p2 oNe (some t_25.2.1) (pOfL (pLst pNl)))) (pBl (p2 oNe (p2 oIx (some t_25.1) (some (.int 1))) (p2 oIx (some t_25.2.1) (some (.int 0))))))) (Option.map (fun x => (x, t_13.2)) (some (.bool false)))
  (Option.bind ((s2 oSub (sB (sCs (sL (some (.int 200))) sNl) (st1 p_draw)) (sL (some (.int 100)))) t_13.2) fun t_32 =>
  (Option.bind (Option.bind (pCl (ap3 HR.p_wear_struck_between) (pCs (some t_6.1) (pCs (some t_13.1) (pCs (some t_32.1) pNl)))) fun u_36 => Option.bind (Option.bind (pCl (ap3 HR.p_wear_struck_between) (pCs (some t_6.1) (pCs (some t_13.1) (pCs (p2 oAdd (some t_32.1) (some (.int 7))) pNl)))) fun u_34 => Option.bind (some ()) fun w_35 => some (u_34, w_35)) fun w_37 => some (u_36, w_37)) fun t_33 =>
  (pIfE (pBl (p2 oNe (some t_33.2.1) (pB oTuple (pCs (pOfL (pLc (pSeq (some t_33.1)) fun x_38 => (uSet x_38).bind fun t_39 => pAll (pIfE (pBl (pIsN (some t_39))) (some .none) (pTup (pCs (p2 oAdd (p2 oIx (some t_39) (some (.int 0))) (some (.int 7))) (pCs (p2 oAdd (p2 oIx (some t_39) (some (.int 1))) (some (.int 7))) pNl)))))) pNl)))) (Option.map (fun x => (x, t_32.2)) (some (.bool false)))
  (Option.bind (pCl (ap2 HR.p_wear_surely_older) (pCs (some t_6.1) (pCs (some t_13.1) pNl))) fun v_older_40 =>
  (Option.map (fun x => (x, t_32.2)) (p2 oEq (pOfL (pLc (pSeq (some v_older_40)) fun x_41 => (uSet x_41).bind fun t_42 => pIfS (pBl (p2 oGe (p2 oIx (p2 oIx (some t_33.1) (p2 oIx (some t_42) (some (.int 0)))) (some (.int 1))) (p2 oIx (p2 oIx (some t_33.1) (p2 oIx (some t_42) (some (.int 1)))) (some (.int 0))))) (some t_42))) (pOfL (pLst pNl))))))))))))))))))
noncomputable def p__law_casts_hold (v_state : List PyData) : Option (PyData × List PyData) :=
  (Option.bind ((sB (sCs (sL (some (.int 90))) sNl) (st1 p_draw)) v_state) fun t_1 =>
  (Option.bind ((sB (s2 oAdd (sL (some t_1.1)) (sB (sCs (sL (some (.int 60))) sNl) (st1 p_draw))) fun u_5 => sM (fun w_6 => some (u_5, w_6)) (sB (s2 oAdd (sL (some (.int 400))) (sB (sCs (sL (some (.int 2000))) sNl) (st1 p_draw))) fun u_3 => sM (fun w_4 => some (u_3, w_4)) (sL (some ())))) t_1.2) fun t_2 =>
  (Option.bind (pLst (pCs (some t_2.1.2.1) pNl)) fun v_sizes_7 =>
  (Option.bind (pFold (pRg1 (some (.int 2))) (fun (x_9 : PyData) (st_8 : List PyData × List PyData) => (uSet x_9).bind fun t_10 => (Option.bind ((sB (sCs (sL (some (.int 4))) sNl) (st1 p_draw)) st_8.1) fun t_11 =>
  (Option.bind (p2 oIx (some (.list st_8.2)) (p1 oNeg (some (.int 1)))) fun v_own_12 =>
  (Option.bind (pFold (pRg1 (some t_11.1)) (fun (x_14 : PyData) (st_13 : List PyData × PyData) => (uSet x_14).bind fun t_15 => (Option.bind ((s2 oAdd (sL (some t_1.1)) (sB (sCs (sL (p2 oAdd (p2 oSub (some t_2.1.1) (some t_1.1)) (some (.int 1)))) sNl) (st1 p_draw))) st_13.1) fun t_16 =>
  (Option.bind (p2 oSub (some st_13.2) (p2 oDiv (p2 oMul (some st_13.2) (some t_16.1)) (some (.int 1000)))) fun v_own_17 => some (t_16.2, v_own_17)))) (t_11.2, v_own_12)) fun st_13 =>
  (Option.bind (pApp st_8.2 (pB oMax (pCs (pOfL (pLst (pCs (some (.int 1)) (pCs (some st_13.2) pNl)))) pNl))) fun v_sizes_18 => some (st_13.1, v_sizes_18)))))) (t_2.2, v_sizes_7)) fun st_8 =>
  (Option.bind (Option.bind (pCl (ap4 HR.p_casts_cast_times) (pCs (p2 oIx (some (.list st_8.2)) (some (.int 0))) (pCs (p2 oIx (some (.list st_8.2)) (some (.int 1))) (pCs (some t_1.1) (pCs (some t_2.1.1) pNl))))) fun u_24 => Option.bind (Option.bind (pCl (ap4 HR.p_casts_cast_times) (pCs (p2 oIx (some (.list st_8.2)) (some (.int 1))) (pCs (p2 oIx (some (.list st_8.2)) (some (.int 2))) (pCs (some t_1.1) (pCs (some t_2.1.1) pNl))))) fun u_22 => Option.bind (Option.bind (pCl (ap4 HR.p_casts_cast_times) (pCs (p2 oIx (some (.list st_8.2)) (some (.int 0))) (pCs (p2 oIx (some (.list st_8.2)) (some (.int 2))) (pCs (some t_1.1) (pCs (some t_2.1.1) pNl))))) fun u_20 => Option.bind (some ()) fun w_21 => some (u_20, w_21)) fun w_23 => some (u_22, w_23)) fun w_25 => some (u_24, w_25)) fun t_19 =>
  (thenR (pFor (pSeq (some t_19.1)) (fun (x_27 : PyData) (st_26 : Unit) => (uSet x_27).bind fun t_28 => (pIfE (pTr (pOfL (pLc (pSeq (some t_19.2.1)) fun x_29 => (uSet x_29).bind fun t_30 => pIfS (pAnd (pBl (p2 oLe (p2 oAdd (some t_28) (some t_30)) (some (.int 12)))) (pBl (p2 oNotIn (p2 oAdd (some t_28) (some t_30)) (some t_19.2.2.1)))) (some t_30)))) (Option.map Oc.rt (Option.map (fun x => (x, st_8.1)) (some (.bool false)))) (some (Oc.nx ())))) ()) fun st_26 =>
  (Option.bind (pCl (ap4 HR.p_casts_cast_times) (pCs (p2 oIx (some (.list st_8.2)) (some (.int 0))) (pCs (p2 oIx (some (.list st_8.2)) (some (.int 2))) (pCs (pB oMax (pCs (pOfL (pLst (pCs (some (.int 0)) (pCs (p2 oSub (some t_1.1) (some (.int 5))) pNl)))) pNl)) (pCs (p2 oAdd (some t_2.1.1) (some (.int 5))) pNl))))) fun v_wide_31 =>
  (pIfE (pOr (pTr (pOfL (pLc (pSeq (some t_19.2.2.1)) fun x_32 => (uSet x_32).bind fun t_33 => pIfS (pBl (p2 oNotIn (some t_33) (some v_wide_31))) (some t_33)))) (pBl (p2 oNe (p2 oIn (some (.int 0)) (some t_19.2.2.1)) (p2 oEq (p2 oIx (some (.list st_8.2)) (some (.int 0))) (p2 oIx (some (.list st_8.2)) (some (.int 2))))))) (Option.map (fun x => (x, st_8.1)) (some (.bool false)))
  (pIfE (pOr (pNot (pTr (pCl (ap2 K18.p__law_same) (pCs (pCl (ap4 HR.p_casts_cast_times) (pCs (p2 oMul (some (.int 7)) (p2 oIx (some (.list st_8.2)) (some (.int 0)))) (pCs (p2 oMul (some (.int 7)) (p2 oIx (some (.list st_8.2)) (some (.int 2)))) (pCs (some t_1.1) (pCs (some t_2.1.1) pNl))))) (pCs (some t_19.2.2.1) pNl))))) (pAnd (pBl (p2 oGt (some t_1.1) (some (.int 0)))) (pBl (p2 oNe (pCl (ap4 HR.p_casts_cast_times) (pCs (p2 oIx (some (.list st_8.2)) (some (.int 2))) (pCs (p2 oAdd (p2 oIx (some (.list st_8.2)) (some (.int 0))) (some (.int 1))) (pCs (some t_1.1) (pCs (some t_2.1.1) pNl))))) (pTup pNl))))) (Option.map (fun x => (x, st_8.1)) (some (.bool false)))
  (Option.bind (pCl (ap4 HR.p_casts_cast_times) (pCs (some t_2.1.2.1) (pCs (some t_2.1.2.1) (pCs (some (.int 0)) (pCs (some t_2.1.1) pNl))))) fun v_alike_34 =>
  (Option.map (fun x => (x, st_8.1)) (pAndT (pCl (ap2 K18.p__law_same) (pCs (some v_alike_34) (pCs (pB oTuple (pCs (pOfL (pLr1 (some (.int 13)))) pNl)) pNl))) (pOrT (p2 oEq (some t_1.1) (some (.int 0))) (p2 oEq (pCl (ap4 HR.p_casts_cast_times) (pCs (some t_2.1.2.1) (pCs (some t_2.1.2.1) (pCs (some t_1.1) (pCs (some t_2.1.1) pNl))))) (pTup (pCs (some (.int 0)) pNl))))))))))))))))
noncomputable def p__law_less (v_one : PyData) (v_other : PyData) : Option PyData :=
  (p2 oLt (p2 oMul (p2 oIx (some v_one) (some (.int 0))) (p2 oIx (some v_other) (some (.int 1)))) (p2 oMul (p2 oIx (some v_other) (some (.int 0))) (p2 oIx (some v_one) (some (.int 1)))))
noncomputable def p__law_rates_hold (v_state : List PyData) : Option (PyData × List PyData) :=
  (Option.bind (pLst pNl) fun v_heaps_1 =>
  (Option.bind (pFold (pRg1 (some (.int 2))) (fun (x_3 : PyData) (st_2 : List PyData × List PyData) => (uSet x_3).bind fun t_4 => (Option.bind (pLst pNl) fun v_rows_5 =>
  (Option.bind (sFold (sM rg1 (s2 oAdd (sL (some (.int 1))) (sB (sCs (sL (some (.int 3))) sNl) (st1 p_draw)))) (fun (x_8 : PyData) (st_6 : List PyData × List PyData) => (uSet x_8).bind fun t_9 => (Option.bind ((s2 oAdd (sL (some (.int 1))) (sB (sCs (sL (some (.int 9))) sNl) (st1 p_draw))) st_6.1) fun t_10 =>
  (Option.bind ((s2 oSub (s2 oMul (sL (some t_10.1)) (s2 oAdd (sL (some (.int 2))) (sB (sCs (sL (some (.int 3))) sNl) (st1 p_draw)))) (sB (sCs (sL (some (.int 8))) sNl) (st1 p_draw))) t_10.2) fun t_11 =>
  (Option.bind (sApp_ st_6.2 (sM tupS (sCs (sL (pB oMax (pCs (pOfL (pLst (pCs (some (.int 0)) (pCs (some t_11.1) pNl)))) pNl))) (sCs (s2 oAdd (sL (pB oMax (pCs (pOfL (pLst (pCs (some (.int 0)) (pCs (some t_11.1) pNl)))) pNl))) (sB (sCs (sL (p2 oAdd (p2 oMul (some (.int 2)) (some t_10.1)) (some (.int 9)))) sNl) (st1 p_draw))) (sCs (sL (some t_10.1)) sNl)))) t_11.2) fun t_12 => some (t_12.2, t_12.1))))) (fun S_7 => (S_7, v_rows_5)) st_2.1) fun st_6 =>
  (Option.bind (pApp st_2.2 (pB oTuple (pCs (some (.list st_6.2)) pNl))) fun v_heaps_13 => some (st_6.1, v_heaps_13))))) (v_state, v_heaps_1)) fun st_2 =>
  (Option.bind (Option.bind (pOfL (pLc (pSeq (some (.list st_2.2))) fun x_15 => (uSet x_15).bind fun t_16 => pAll (pCl (ap1 HR.p_wear_judge_rate) (pCs (some t_16) pNl)))) fun u_19 => Option.bind (Option.bind (pCl (ap1 HR.p_wear_judge_rate) (pCs (p2 oAdd (p2 oIx (some (.list st_2.2)) (some (.int 0))) (p2 oIx (some (.list st_2.2)) (some (.int 1)))) pNl)) fun u_17 => Option.bind (some ()) fun w_18 => some (u_17, w_18)) fun w_20 => some (u_19, w_20)) fun t_14 =>
  (pIfE (pBl (p2 oIn (some (.str (PySem.Str.ofString "apart"))) (pOfL (pLc (pSeq (some t_14.1)) fun x_21 => (uSet x_21).bind fun t_22 => pAll (p2 oIx (some t_22) (some (.int 0))))))) (Option.map (fun x => (x, st_2.1)) (p2 oEq (p2 oIx (some t_14.2.1) (some (.int 0))) (some (.str (PySem.Str.ofString "apart")))))
  (Option.bind (Option.bind (p2 oIx (p2 oIx (some t_14.1) (some (.int 0))) (some (.int 1))) fun u_26 => Option.bind (Option.bind (p2 oIx (p2 oIx (some t_14.1) (some (.int 0))) (some (.int 2))) fun u_24 => Option.bind (some ()) fun w_25 => some (u_24, w_25)) fun w_27 => some (u_26, w_27)) fun t_23 =>
  (Option.bind (Option.bind (pIfE (pTr (pCl (ap2 K18.p__law_less) (pCs (some t_23.1) (pCs (p2 oIx (p2 oIx (some t_14.1) (some (.int 1))) (some (.int 1))) pNl)))) (p2 oIx (p2 oIx (some t_14.1) (some (.int 1))) (some (.int 1))) (some t_23.1)) fun u_31 => Option.bind (Option.bind (pIfE (pTr (pCl (ap2 K18.p__law_less) (pCs (p2 oIx (p2 oIx (some t_14.1) (some (.int 1))) (some (.int 2))) (pCs (some t_23.2.1) pNl)))) (p2 oIx (p2 oIx (some t_14.1) (some (.int 1))) (some (.int 2))) (some t_23.2.1)) fun u_29 => Option.bind (some ()) fun w_30 => some (u_29, w_30)) fun w_32 => some (u_31, w_32)) fun t_28 =>
  (pIfE (pTr (pCl (ap2 K18.p__law_less) (pCs (some t_28.2.1) (pCs (some t_28.1) pNl)))) (Option.map (fun x => (x, st_2.1)) (pAndT (p2 oEq (p2 oIx (some t_14.2.1) (some (.int 0))) (some (.str (PySem.Str.ofString "apart")))) (p2 oNe (p2 oIx (some t_14.2.1) (some (.int 1))) (p2 oIx (some t_14.2.1) (some (.int 2))))))
  (pIfE (pBl (p2 oNe (some t_14.2.1) (pTup (pCs (some (.str (PySem.Str.ofString "rate"))) (pCs (some t_28.1) (pCs (some t_28.2.1) pNl)))))) (Option.map (fun x => (x, st_2.1)) (some (.bool false)))
  (Option.map (fun x => (x, st_2.1)) (p2 oEq (pOfL (pLc (pSeq (pOfL (pLst (pCs (some t_28.1) (pCs (some t_28.2.1) pNl))))) fun x_33 => (uSet x_33).bind fun t_34 => pIfS (pNot (pTr (pTk (ap2 HR.p_wear_x_accept_rate) (pOfL (pLst (pCs (p2 oAdd (p2 oIx (some (.list st_2.2)) (some (.int 0))) (p2 oIx (some (.list st_2.2)) (some (.int 1)))) (pCs (some t_34) pNl))))))) (some t_34))) (pOfL (pLst pNl))))))))))))
noncomputable def p_law (v_script : PyData) : Option PyData :=
  (Option.bind (Option.bind (pCs (some v_script) pNl) (hrun rStart 2)) fun v_state_1 =>
  (thenR (pFor (pRg1 (some (.int 3))) (fun (x_3 : PyData) (st_2 : List PyData) => (uSet x_3).bind fun t_4 => (sIfE (sOr (sNot (sM tru (sB sNl (st0 K18.p__law_worn_holds)))) (sOr (sNot (sM tru (sB sNl (st0 K18.p__law_casts_hold)))) (sNot (sM tru (sB sNl (st0 K18.p__law_rates_hold)))))) (fun S_5 => (Option.map Oc.rt (some (.bool false)))) (fun S_5 =>
  (some (Oc.nx S_5))) st_2)) v_state_1) fun st_2 =>
  (some (.bool true))))
end K18
set_option Elab.async false
set_option linter.all false
set_option maxRecDepth 100000
set_option maxHeartbeats 4000000
/-! L18a: k18, coins worn on. -/
namespace K18
open PySem PySem.Spec L2 L2.FL HR

theorem same {k n : Nat} {d : PyData} (h : Nice k n d) (hk : k ≤ 64) (hn : n ≤ 1000000) : p__law_same d d = some (.bool true) := by
  simp [p__law_same, h.eq hk, h.repr hk hn, eqStr]
theorem eqBB (a b : Bool) : oEq (.bool a) (.bool b) = some (.bool (a == b)) := by simp [oEq, okd, PyData.plain, PyData.depth, PyData.eqv]
theorem neBB (a b : Bool) : oNe (.bool a) (.bool b) = some (.bool (!(a == b))) := by simp [oNe, okd, PyData.plain, PyData.depth, PyData.eqv]
theorem fil_last {p : Nat → Bool} : ∀ {l : List Nat} {x : Nat}, l.Pairwise (· < ·) → x ∈ l → p x = true → (∀ y ∈ l, x < y → p y = false) → ∃ q, l.filter p = q ++ [x]
  | [], x, _, hx, _, _ => by cases hx
  | a :: r, x, hs, hx, px, hm => by
    rw [List.pairwise_cons] at hs
    by_cases e : a = x
    · subst e
      refine ⟨[], ?_⟩
      rw [List.filter_cons, if_pos px, fil_none fun y hy => hm y (by simp [hy]) (hs.1 y hy)]
      rfl
    · have hx' : x ∈ r := by
        rcases List.mem_cons.mp hx with h | h
        · exact absurd h.symm e
        · exact h
      obtain ⟨q, hq⟩ := fil_last hs.2 hx' px fun y hy => hm y (by simp [hy])
      rw [List.filter_cons, hq]
      cases p a
      · exact ⟨q, rfl⟩
      · exact ⟨a :: q, rfl⟩
/-- the years, of 140, that suit all weights, counted from y on -/
def good (s : Std) (ws : List Int) (y : Int) : List Nat := (List.range 140).filter fun m => ws.all fun w => okY s w (y + (m : Int))
abbrev lN (ns : List Nat) : PyData := .list (ns.map nI)
theorem lN_eq (a b : List Nat) : oEq (lN a) (lN b) = some (.bool (decide (a = b))) := by
  unfold lN
  rw [map_nI, map_nI, eqL]
  congr 2
  have : (a.map fun (i : Nat) => (i : Int)) = (b.map fun (i : Nat) => (i : Int)) ↔ a = b := ⟨fun h => by
    have := congrArg (List.map Int.toNat) h
    simpa [List.map_map, Function.comp_def] using this, fun h => by rw [h]⟩
  simp [this]
theorem lN_ne (a b : List Nat) : oNe (lN a) (lN b) = some (.bool (!decide (a = b))) := by
  unfold lN
  rw [map_nI, map_nI, neL]
  have : (a.map fun (i : Nat) => (i : Int)) = (b.map fun (i : Nat) => (i : Int)) ↔ a = b := ⟨fun h => by
    have := congrArg (List.map Int.toNat) h
    simpa [List.map_map, Function.comp_def] using this, fun h => by rw [h]⟩
  simp [this]
/-- the list of the years that are taken -/
theorem good_text {s : Std} {ws : List Int} (h : Wts ws) {y : Int} (hy : 0 ≤ y) (hy2 : y ≤ 4000) {F : PyData → Option (Option PyData)} (hF : ∀ m : Nat, F (nI m) = ((pTk (ap3 p_wear_x_accept_years) (some (.list [stdD s, tI ws, .int (y + m)]))).bind tru).bind fun b => if b = true then some (some (nI m)) else some none) : pOfL (pLc (pRg1 (some (.int 140))) F) = some (lN (good s ws y)) := by
  have e : pRg1 (some (.int 140)) = some ((List.range 140).map nI) := rg1_nat (n := 140) (by decide)
  rw [e, pLc_fil (as := List.range 140) nI (fun m => ws.all fun w => okY s w (y + (m : Int))) nI (by simp) fun m hm => ?_]
  · rfl
  · have := List.mem_range.mp hm
    rw [hF, w_taken_years h (by omega) (by omega)]
    cases (ws.all fun w => okY s w (y + (m : Int))) <;> rfl
def on (s : Std) (y : Int) (h0 : 0 ≤ y) (h1 : 1 ≤ s.lo - s.mo * y) : Std := ⟨s.lo - s.mo * y, s.hi - s.le * y, s.le, s.mo, h1, by
  have := Int.mul_le_mul_of_nonneg_right s.h5 h0
  have := s.h2
  omega, by
  have := Int.mul_nonneg s.h4 h0
  have := s.h3
  omega, s.h4, s.h5, s.h6⟩
theorem okY_iff {s : Std} {w y : Int} : okY s w y = true ↔ (s.lo - s.mo * y ≤ w ∧ (w = 0 ∨ w + s.le * y ≤ s.hi)) := by simp [okY]
theorem okY_on {s : Std} {y : Int} {h0 : 0 ≤ y} {h1 : 1 ≤ s.lo - s.mo * y} (w m : Int) : okY (on s y h0 h1) w m = okY s w (y + m) := by
  rw [Bool.eq_iff_iff, okY_iff, okY_iff]
  show (s.lo - s.mo * y - s.mo * m ≤ w ∧ (w = 0 ∨ w + s.le * m ≤ s.hi - s.le * y)) ↔ _
  rw [Int.mul_add, Int.mul_add]
  omega
theorem good_on {s : Std} {y : Int} {h0 : 0 ≤ y} {h1 : 1 ≤ s.lo - s.mo * y} (ws : List Int) : good (on s y h0 h1) ws 0 = good s ws y := by
  unfold good
  congr 1
  funext m
  congr 1
  funext w
  rw [okY_on, Int.zero_add]
theorem sp_first {s : Std} {w : Int} {p : Int × Int} (hw : 0 ≤ w) (e : sp s w = some p) : p.1 ≤ s.lo := by
  have h1 := s.h1
  have h4 := s.h4
  have h5 := s.h5
  unfold sp at e
  split at e
  · cases e
  · split at e
    · cases e
    · rename_i c2
      split at e
      · cases e
        show fi s w ≤ s.lo
        by_cases hw2 : w < s.lo
        · rw [okY_fi (by omega) c2]
          have : s.lo * 1 ≤ s.lo * s.mo := Int.mul_le_mul_of_nonneg_left (by omega) (by omega)
          rw [Int.mul_comm s.lo s.mo] at this
          omega
        · unfold fi
          rw [if_neg hw2]
          omega
      · cases e
theorem mem_good {s : Std} {ws : List Int} (h : ∀ w ∈ ws, 0 ≤ w) {m : Nat} : m ∈ good s ws 0 ↔ m < 140 ∧ ∀ w ∈ ws, ∃ p, sp s w = some p ∧ p.1 ≤ (m : Int) ∧ (m : Int) ≤ p.2 := by
  unfold good
  simp only [List.mem_filter, List.mem_range, List.all_eq_true]
  constructor
  · rintro ⟨h1, h2⟩
    exact ⟨h1, fun w hw => (okY_sp (h w hw) (by omega) (by omega)).mp (by have := h2 w hw; rwa [Int.zero_add] at this)⟩
  · rintro ⟨h1, h2⟩
    exact ⟨h1, fun w hw => by rw [Int.zero_add]; exact (okY_sp (h w hw) (by omega) (by omega)).mpr (h2 w hw)⟩
/-- where all weights have years: the first and the last ones -/
theorem good_rows {s : Std} {ws : List Int} {sps : List (Int × Int)} (hR : Rows s ws sps) (hlo : s.lo ≤ 131) : if mn (ls sps) < mx (fs sps) then good s ws 0 = [] else
    ∃ r q, good s ws 0 = (mx (fs sps)).toNat :: r ∧ good s ws 0 = q ++ [(min (mn (ls sps)) 139).toNat] ∧ 0 ≤ mx (fs sps) ∧ 0 ≤ mn (ls sps) := by
  have hw0 : ∀ w ∈ ws, 0 ≤ w := fun w h => (hR.w.b w h).1
  have hne := hR.w.ne
  have hsl := hR.len
  have nz : sps ≠ [] := by
    intro q
    subst q
    simp at hsl
    omega
  have n1 : fs sps ≠ [] := by simpa using nz
  have n2 : ls sps ≠ [] := by simpa using nz
  have key : ∀ m : Nat, m ∈ good s ws 0 ↔ m < 140 ∧ mx (fs sps) ≤ (m : Int) ∧ (m : Int) ≤ mn (ls sps) := fun m => by
    rw [mem_good hw0]
    constructor
    · rintro ⟨h1, h2⟩
      have both : ∀ p ∈ sps, p.1 ≤ (m : Int) ∧ (m : Int) ≤ p.2 := fun p hp => by
        have : some p ∈ ws.map (sp s) := by rw [hR.e]; exact List.mem_map.mpr ⟨p, hp, rfl⟩
        obtain ⟨w, k1, k2⟩ := List.mem_map.mp this
        obtain ⟨p', k3, k4⟩ := h2 w k1
        rw [k2] at k3
        cases k3
        exact k4
      obtain ⟨p, hp, e⟩ := List.mem_map.mp (mx_mem n1)
      obtain ⟨p2, hp2, e2⟩ := List.mem_map.mp (mn_mem n2)
      refine ⟨h1, ?_, ?_⟩
      · rw [← e]; exact (both p hp).1
      · rw [← e2]; exact (both p2 hp2).2
    · rintro ⟨h1, h2, h3⟩
      refine ⟨h1, fun w hw => ?_⟩
      obtain ⟨p, hp, e⟩ := hR.of hw
      have a1 := mx_ge (ns := fs sps) (List.mem_map.mpr ⟨p, hp, rfl⟩)
      have a2 := mn_le (ns := ls sps) (List.mem_map.mpr ⟨p, hp, rfl⟩)
      exact ⟨p, e, by omega, by omega⟩
  obtain ⟨p, hp, ep⟩ := List.mem_map.mp (mx_mem n1)
  obtain ⟨p2, hp2, ep2⟩ := List.mem_map.mp (mn_mem n2)
  have ep : p.1 = mx (fs sps) := ep
  have ep2 : p2.2 = mn (ls sps) := ep2
  have b1 := hR.b hp
  have b2 := hR.b hp2
  have f1 : mx (fs sps) ≤ 131 := by
    have : some p ∈ ws.map (sp s) := by rw [hR.e]; exact List.mem_map.mpr ⟨p, hp, rfl⟩
    obtain ⟨w, k1, k2⟩ := List.mem_map.mp this
    have := sp_first (hw0 w k1) k2
    omega
  split
  · rename_i hc
    exact List.eq_nil_iff_forall_not_mem.mpr fun m hm => by
      have := (key m).mp hm
      omega
  · rename_i hc
    have srt : (List.range 140).Pairwise (· < ·) := List.pairwise_lt_range
    have hin : ∀ m : Nat, m < 140 → ((ws.all fun w => okY s w (0 + (m : Int))) = true ↔ mx (fs sps) ≤ (m : Int) ∧ (m : Int) ≤ mn (ls sps)) := fun m hm => by
      have := key m
      unfold good at this
      rw [List.mem_filter, List.mem_range] at this
      constructor
      · intro h; exact (this.mp ⟨hm, h⟩).2
      · intro h; exact (this.mpr ⟨hm, h⟩).2
    have x1 : ((mx (fs sps)).toNat : Int) = mx (fs sps) := Int.toNat_of_nonneg (by omega)
    have x2 : ((min (mn (ls sps)) 139).toNat : Int) = min (mn (ls sps)) 139 := Int.toNat_of_nonneg (by omega)
    obtain ⟨r, hr⟩ := fil_head (p := fun m => ws.all fun w => okY s w (0 + (m : Int))) (x := (mx (fs sps)).toNat) srt (List.mem_range.mpr (by omega)) ((hin _ (by omega)).mpr (by omega)) fun y hy hlt => by
      rw [Bool.eq_false_iff]
      intro c
      have := (hin y (List.mem_range.mp hy)).mp c
      omega
    obtain ⟨q, hq⟩ := fil_last (p := fun m => ws.all fun w => okY s w (0 + (m : Int))) (x := (min (mn (ls sps)) 139).toNat) srt (List.mem_range.mpr (by omega)) ((hin _ (by omega)).mpr (by omega)) fun y hy hlt => by
      rw [Bool.eq_false_iff]
      intro c
      have := (hin y (List.mem_range.mp hy)).mp c
      have := List.mem_range.mp hy
      omega
    exact ⟨r, q, hr, hq, by omega, by omega⟩
end K18
set_option Elab.async false
set_option linter.all false
set_option maxRecDepth 100000
set_option maxHeartbeats 4000000
/-! L18b: k18, coins worn on: the law's def. -/
namespace K18
open PySem PySem.Spec L2 L2.FL HR

theorem drawn_rng {F : PyData → List PyData → Option (Option PyData × List PyData)} {k m : Int} (hk : 1 ≤ k) (hk2 : k < 1000000) (hm : 1 ≤ m) (hm2 : m < 1000000) {b : Nat} {S : List PyData} (hd : Drawn b S) (hb : b < 1000000000)
    (h : ∀ x s, F x s = (p_draw s (.int m)).map fun r => (some r.1, r.2)) : ∃ (ns : List Int) (S' : List PyData), sLc (sM rg1 (s2 oAdd (sL (some (.int 1))) (sB (sCs (sL (some (.int k))) sNl) (st1 p_draw)))) F S = some (ns.map .int, S') ∧ 1 ≤ ns.length ∧ (ns.length : Int) ≤ k ∧ (∀ n ∈ ns, 0 ≤ n ∧ n < m) ∧ Drawn (b + 1 + k.toNat) S' := by
  obtain ⟨r, S1, a1, a2, d1, e1⟩ := draw (m := k) hd (by omega) hk (by omega)
  obtain ⟨ns, S2, e2, h1, h2, d2⟩ := drawn_row (F := F) (e := PyData.int) (as := rng 0 (1 + r)) hm (by omega) d1 (by rw [rng_length]; omega) fun a s => h _ s
  refine ⟨ns, S2, ?_, ?_, ?_, h2, d2.mono ?_⟩
  · unfold sLc
    have hs : ((rng 0 (1 + r)).map PyData.int).length ≤ 1000000 := by rw [List.length_map, rng_length]; omega
    simp [e1, rg1_int (show 1 + r ≤ 1000000000 by omega) (show -1000000000 ≤ 1 + r by omega), szL_of hs, e2]
  · rw [h1, rng_length]; omega
  · rw [h1, rng_length]; omega
  · rw [rng_length]; omega
/-- one weight: the law's turn -/
theorem worn_turn {s : Std} {y : Int} {h0 : 0 ≤ y} {h1 : 1 ≤ s.lo - s.mo * y} (hy : y ≤ 100) (hlo : s.lo ≤ 131) {w : Int} (hw : 0 ≤ w) (hw2 : w ≤ 1000) {R : List PyData} :
    (Option.bind (pOfL (pLc (pRg1 (some (.int 140))) fun x_20 => (uSet x_20).bind fun t_21 => pIfS (pTr (pTk (ap3 HR.p_wear_x_accept_years) (pOfL (pLst (pCs (some (stdD (on s y h0 h1))) (pCs (pTup (pCs (some (PyData.int w)) pNl)) (pCs (some t_21) pNl))))))) (some t_21))) fun v_good_19 =>
  (pIfE (pBl (p2 oNe (some v_good_19) (pOfL (pLc (pRg1 (some (.int 140))) fun x_22 => (uSet x_22).bind fun t_23 => pIfS (pTr (pTk (ap3 HR.p_wear_x_accept_years) (pOfL (pLst (pCs (some (stdD s)) (pCs (pTup (pCs (some (PyData.int w)) pNl)) (pCs (p2 oAdd (some (PyData.int y)) (some t_23)) pNl))))))) (some t_23))))) (Option.map Oc.rt (Option.map (fun x => (x, R)) (some (.bool false))))
  (Option.bind (pCl (ap2 HR.p_wear_years_for) (pCs (some (stdD (on s y h0 h1))) (pCs (some (PyData.int w)) pNl))) fun v_span_24 =>
  (pIfE (pOr (pBl (p2 oNe (pIsN (some v_span_24)) (p2 oEq (some v_good_19) (pOfL (pLst pNl))))) (pAnd (pBl (pNotN (some v_span_24))) (pOr (pBl (p2 oNe (p2 oIx (some v_span_24) (some (.int 0))) (p2 oIx (some v_good_19) (some (.int 0))))) (pBl (p2 oNe (pB oMin (pCs (pOfL (pLst (pCs (p2 oIx (some v_span_24) (some (.int 1))) (pCs (some (.int 139)) pNl)))) pNl)) (p2 oIx (some v_good_19) (p1 oNeg (some (.int 1))))))))) (Option.map Oc.rt (Option.map (fun x => (x, R)) (some (.bool false)))) (some (Oc.nx ())))))) = (some (Oc.nx ()) : Option (Oc (PyData × List PyData) Unit Unit)) := by
  have hW : Wts [w] := ⟨by simp, by simp, fun v hv => by simp at hv; omega⟩
  have g1 := good_on (s := s) (y := y) (h0 := h0) (h1 := h1) [w]
  have hl0 : (on s y h0 h1).lo ≤ 131 := by
    have := Int.mul_nonneg (show 0 ≤ s.mo by have := s.h4; have := s.h5; omega) h0
    show s.lo - s.mo * y ≤ 131
    omega
  refine bs (lN (good (on s y h0 h1) [w] 0)) (good_text hW (by decide) (by decide) fun m => ?_) ?_
  · have : (0 : Int) + (m : Int) = m := by omega
    rw [this]
    simp [tI]
  have e2 : ∀ F : PyData → Option (Option PyData), (∀ m : Nat, F (nI m) = ((pTk (ap3 p_wear_x_accept_years) (some (.list [stdD s, tI [w], .int (y + m)]))).bind tru).bind fun b => if b = true then some (some (nI m)) else some none) → pOfL (pLc (pRg1 (some (.int 140))) F) = some (lN (good s [w] y)) := fun F hF => good_text hW h0 (by omega) hF
  refine gf ?_ ?_
  · rw [e2 _ fun m => by simp [tI], ← g1]
    simp [lN_ne]
  refine bs (spD (sp (on s y h0 h1) w)) (by simp [w_years_for (s := on s y h0 h1) hw (by omega)]) ?_
  refine gf ?_ rfl
  generalize on s y h0 h1 = s' at *
  cases q : sp s' w with
  | none =>
    have : good s' [w] 0 = [] := by
      rw [List.eq_nil_iff_forall_not_mem]
      intro m hm
      obtain ⟨p, h, _⟩ := ((mem_good fun v hv => by simp at hv; omega).mp hm).2 w (by simp)
      rw [q] at h; cases h
    rw [this]
    have e0 := lN_eq [] []
    simp [lN] at e0
    simp [e0, neBB, lN]
  | some p =>
    have hR : Rows s' [w] [p] := ⟨hW, by simp [q]⟩
    have b := sp_facts hw q
    have hg := good_rows hR hl0
    simp only [fs, ls, List.map_cons, List.map_nil, mn, mx, List.foldl_nil] at hg
    rw [if_neg (by omega)] at hg
    obtain ⟨r, q2, k1, k2, _⟩ := hg
    have n0 : good s' [w] 0 ≠ [] := by rw [k1]; simp
    have e0 := lN_eq (good s' [w] 0) []
    have a1 : atI ((good s' [w] 0).map nI) 0 = some (.int p.1) := by
      have : atI ((good s' [w] 0).map nI) 0 = some (nI p.1.toNat) := atI_at (i := 0) (by rw [k1]; rfl)
      rw [this]
      show some (PyData.int ((p.1.toNat : Nat) : Int)) = _
      rw [Int.toNat_of_nonneg b.1]
    have a2 : atI ((good s' [w] 0).map nI) (-1) = some (.int (min p.2 139)) := by
      rw [k2, List.map_append]
      show atI (q2.map nI ++ [nI (min p.2 139).toNat]) (-1) = _
      rw [FL.atI_last]
      show some (PyData.int (((min p.2 139).toNat : Nat) : Int)) = _
      rw [Int.toNat_of_nonneg (by omega)]
    simp only [n0, decide_false] at e0
    simp [lN] at e0
    have mn2 : oMin [.list [.int p.2, .int 139]] = some (.int (min p.2 139)) := by
      have := minL (ns := [p.2, 139]) (by simp)
      simpa [mn] using this
    simp [e0, neBB, lN, a1, a2, mn2]
end K18
set_option Elab.async false
set_option linter.all false
set_option maxRecDepth 100000
set_option maxHeartbeats 4000000
/-! L18c: k18, coins worn on: the law's def, whole. -/
namespace K18
open PySem PySem.Spec L2 L2.FL HR

theorem thE {ρ τ γ : Type} {X : Option (Oc ρ Empty τ)} {K : τ → Option ρ} {D : γ → Prop} {r : γ → Option ρ} (t : τ) (h : X = some (.nx t)) (k : ∃ s, D s ∧ K t = r s) : ∃ s, D s ∧ thenR X K = r s := by rw [h]; exact k
theorem pFor_rg {ρ κ' : Type} {n : Nat} {F : PyData → Unit → Option (Oc ρ Unit Unit)} (hn : n ≤ 1000000000) (h : ∀ m, m < n → F (nI m) () = some (.nx ())) : (pFor (pRg1 (some (.int (n : Int)))) F () : Option (Oc ρ κ' Unit)) = some (.nx ()) := by
  simp only [pFor, pRg1, Option.bind_some]
  rw [rg1_nat hn, Option.bind_some]
  exact forP_unit fun a ha => h a (List.mem_range.mp ha)
theorem pFor_seq {α ρ κ' : Type} {as : List α} {e : α → PyData} {F : PyData → Unit → Option (Oc ρ Unit Unit)} (h : ∀ a ∈ as, F (e a) () = some (.nx ())) : (pFor (pSeq (some (.tuple (as.map e)))) F () : Option (Oc ρ κ' Unit)) = some (.nx ()) := by
  simp only [pFor, pSeq, Option.bind_some, itSeq]
  exact forP_unit h
theorem ev_worn {S : List PyData} {b : Nat} (hd : Drawn b S) (hb : b < 80000) : ∃ S', Drawn (b + 20) S' ∧ p__law_worn_holds S = some (.bool true, S') := by
  obtain ⟨r1, S1, a1, a1', d1, e1⟩ := draw (m := 60) hd (by omega) (by decide) (by decide)
  obtain ⟨r2, S2, a2, a2', d2, e2⟩ := draw (m := 3) d1 (by omega) (by decide) (by decide)
  obtain ⟨r3, S3, a3, a3', d3, e3⟩ := draw (m := 12) d2 (by omega) (by decide) (by decide)
  obtain ⟨r4, S4, a4, a4', d4, e4⟩ := draw (m := 3) d3 (by omega) (by decide) (by decide)
  obtain ⟨y, S5, a5, a5', d5, e5⟩ := draw (m := 12) d4 (by omega) (by decide) (by decide)
  obtain ⟨s, es, hlo, hmo, hhi⟩ : ∃ s : Std, stdD s = .tuple [.int (60 + r1), .int (60 + r1 + r3), .int r2, .int (r2 + r4)] ∧ s.lo = 60 + r1 ∧ s.mo = r2 + r4 ∧ s.hi = 60 + r1 + r3 := ⟨⟨60 + r1, 60 + r1 + r3, r2, r2 + r4, by omega, by omega, by omega, by omega, by omega, by omega⟩, rfl, rfl, rfl, rfl⟩
  have hmy : s.mo * y ≤ 4 * 11 := Int.mul_le_mul (by omega) (by omega) (by omega) (by omega)
  have h1 : 1 ≤ s.lo - s.mo * y := by omega
  have hly : s.le * y ≤ s.mo * y := Int.mul_le_mul_of_nonneg_right s.h5 a5
  have h2 := s.h2
  unfold p__law_worn_holds
  refine bsE ((PyData.int (60 + r1), PyData.int r2, ()), S2) (by simp [e1, e2]) ?_
  refine bsE (stdD s, S4) (by simp [e3, e4, es]) ?_
  refine bsE (PyData.int y, S5) (by simp [e5]) ?_
  have cw := w_can_weigh (s := s) a5 (by omega)
  rw [Int.max_eq_right (by omega), Int.max_eq_right (by omega)] at cw
  refine bsE (pr (s.lo - s.mo * y, s.hi - s.le * y)) (by simp [cw]) ?_
  refine bsE (stdD (on s y a5 h1)) ?_ ?_
  · have : slD (stdD s) (some 2) none = some (.tuple [.int s.le, .int s.mo]) := rfl
    simp [this]
    rfl
  refine thE () (pFor_rg (n := 9) (by decide) fun m hm => ?_) ?_
  · have c1 := w_can_weigh (s := on s y a5 h1) (y := (m : Int)) (by omega) (by omega)
    have c2 := w_can_weigh (s := s) (y := y + (m : Int)) (by omega) (by omega)
    have ee : (max 0 (s.lo - s.mo * (y + (m : Int))), max 0 (s.hi - s.le * (y + (m : Int)))) = (max 0 ((on s y a5 h1).lo - (on s y a5 h1).mo * (m : Int)), max 0 ((on s y a5 h1).hi - (on s y a5 h1).le * (m : Int))) := by
      show _ = (max 0 (s.lo - s.mo * y - s.mo * (m : Int)), max 0 (s.hi - s.le * y - s.le * (m : Int)))
      rw [Int.mul_add, Int.mul_add, Int.sub_sub, Int.sub_sub]
    rw [ee] at c2
    have n1 : s.mo * (m : Int) ≤ 4 * 9 := Int.mul_le_mul (by omega) (by omega) (by omega) (by omega)
    have n2 : s.le * (m : Int) ≤ s.mo * (m : Int) := Int.mul_le_mul_of_nonneg_right s.h5 (by omega)
    have n3 : 0 ≤ s.le * (m : Int) := Int.mul_nonneg s.h4 (by omega)
    have n4 : 0 ≤ s.le * y := Int.mul_nonneg s.h4 a5
    have n5 : 0 ≤ s.mo * y := Int.mul_nonneg (by omega) a5
    have n6 : 0 ≤ s.mo * (m : Int) := Int.mul_nonneg (by omega) (by omega)
    have nice := nice_pr (p := (max 0 ((on s y a5 h1).lo - (on s y a5 h1).mo * (m : Int)), max 0 ((on s y a5 h1).hi - (on s y a5 h1).le * (m : Int)))) (Nat.lt_of_lt_of_le (show (max 0 (s.lo - s.mo * y - s.mo * (m : Int))).natAbs < 1000 by omega) (by decide)) (Nat.lt_of_lt_of_le (show (max 0 (s.hi - s.le * y - s.le * (m : Int))).natAbs < 1000 by omega) (by decide))
    have sm := same nice (by decide) (by decide)
    simp [c1, c2, sm]
  obtain ⟨ws, S6, e6, n1, n2, n3, d6⟩ := drawn_rng (F := fun x_14 => sU (uSet x_14) fun t_15 => sAll (sB (sCs (sL (some (.int 130))) sNl) (st1 p_draw))) (k := 3) (m := 130) (by decide) (by decide) (by decide) (by decide) d5 (by omega) fun x s => by simp
  refine bsE (tI ws, S6) (by simp only [sM, sCs, e6, Option.bind_some]; simp) ?_
  have hW : Wts ws := ⟨n1, by omega, fun w hw => by have := n3 w hw; omega⟩
  refine thE () (pFor_seq fun w hw => ?_) ?_
  · have := n3 w hw
    exact worn_turn (by omega) (by omega) this.1 (by omega)
  -- told, common
  have hl0 : (on s y a5 h1).lo ≤ 131 := by
    have : 0 ≤ s.mo * y := Int.mul_nonneg (by omega) a5
    show s.lo - s.mo * y ≤ 131
    omega
  have gg : good (on s y a5 h1) ws 0 = good s ws y := good_on ws
  have gt_ : ∀ F : PyData → Option (Option PyData), (∀ m : Nat, F (nI m) = ((pTk (ap3 p_wear_x_accept_years) (some (.list [stdD s, tI ws, .int (y + m)]))).bind tru).bind fun b => if b = true then some (some (nI m)) else some none) → pOfL (pLc (pRg1 (some (.int 140))) F) = some (lN (good s ws y)) := fun F hF => good_text hW a5 (by omega) hF
  obtain ⟨d, hk, hc⟩ : ∃ d, p_wear_judge_common (stdD (on s y a5 h1)) (tI ws) = some d ∧ pOr (pBl (p2 oNe (p2 oEq (p2 oIx (some d) (some (.int 0))) (some (.str (PySem.Str.ofString "years")))) (p2 oNe (some (lN (good s ws y))) (pOfL (pLst pNl))))) (pAnd (pBl (p2 oNe (some (lN (good s ws y))) (pOfL (pLst pNl)))) (pBl (p2 oNe (p2 oIx (some d) (some (.int 1))) (p2 oIx (some (lN (good s ws y))) (some (.int 0)))))) = some false := by
    have hw0 : ∀ w ∈ ws, 0 ≤ w := fun w h => (hW.b w h).1
    rcases w_judge_common2 (s := on s y a5 h1) hW with ⟨hn, k, hk⟩ | ⟨sps, hR, hk⟩
    · refine ⟨_, hk, ?_⟩
      have : good s ws y = [] := by
        rw [← gg, List.eq_nil_iff_forall_not_mem]
        intro m hm
        obtain ⟨w, hw, e⟩ := List.mem_map.mp hn
        obtain ⟨p, h, _⟩ := ((mem_good hw0).mp hm).2 w hw
        rw [e] at h; cases h
      rw [this]
      have e0 := lN_ne [] []
      have q : ((PySem.Str.ofString "never" == PySem.Str.ofString "years") : Bool) = false := by decide
      simp only [lN, List.map_nil] at e0
      have e9 := eq_str (PySem.Str.ofString "never") (PySem.Str.ofString "years")
      rw [q] at e9
      simp [e0, lN, e9, neBB]
    · refine ⟨_, hk, ?_⟩
      have hg := good_rows hR hl0
      rw [gg] at hg
      unfold common
      by_cases c : mn (ls sps) < mx (fs sps)
      · rw [if_pos c] at hg ⊢
        rw [hg]
        have e0 := lN_ne [] []
        have q : ((PySem.Str.ofString "apart" == PySem.Str.ofString "years") : Bool) = false := by decide
        simp only [lN, List.map_nil] at e0
        have e9 := eq_str (PySem.Str.ofString "apart") (PySem.Str.ofString "years")
        rw [q] at e9
        simp [e0, lN, e9, neBB, tag3]
      · rw [if_neg c] at hg ⊢
        obtain ⟨r, q2, k1, k2, k3, _⟩ := hg
        have e0 := lN_ne (good s ws y) []
        have n0 : good s ws y ≠ [] := by rw [k1]; simp
        have q : ((PySem.Str.ofString "years" == PySem.Str.ofString "years") : Bool) = true := by decide
        have e9 := eq_str (PySem.Str.ofString "years") (PySem.Str.ofString "years")
        rw [q] at e9
        have a1 : atI ((good s ws y).map nI) 0 = some (.int (mx (fs sps))) := by
          have : atI ((good s ws y).map nI) 0 = some (nI (mx (fs sps)).toNat) := atI_at (i := 0) (by rw [k1]; rfl)
          rw [this]
          show some (PyData.int (((mx (fs sps)).toNat : Nat) : Int)) = _
          rw [Int.toNat_of_nonneg k3]
        simp only [n0, decide_false] at e0
        simp only [lN, List.map_nil] at e0
        simp [e0, lN, e9, neBB, tag3, a1]
  refine bsE (d, lN (good s ws y), ()) ?_ ?_
  · rw [gt_ _ fun m => by simp]
    simp [hk]
  refine gfE hc ?_
  obtain ⟨r7, S7, a7, a7', d7, e7⟩ := draw (m := 200) d6 (by have : (3 : Int).toNat = 3 := rfl; omega) (by decide) (by decide)
  refine bsE (PyData.int (r7 - 100), S7) (by simp [e7]) ?_
  have s1 := w_struck2 (s := s) hW (y := r7 - 100) (by omega) (by omega)
  have s2 := w_struck2 (s := s) hW (y := r7 - 100 + 7) (by omega) (by omega)
  have hwl := hW.len
  refine bsE (.tuple (ws.map fun w => spD ((sp s w).map fun p => (r7 - 100 - p.2, r7 - 100 - p.1))), .tuple (ws.map fun w => spD ((sp s w).map fun p => (r7 - 100 + 7 - p.2, r7 - 100 + 7 - p.1))), ()) (by simp [s1, s2]) ?_
  refine gfE ?_ ?_
  · simp only [pSeq, Option.bind_some, itSeq]
    rw [pLc_all (as := ws) (fun w => spD ((sp s w).map fun p => (r7 - 100 - p.2, r7 - 100 - p.1))) (fun w => spD ((sp s w).map fun p => (r7 - 100 + 7 - p.2, r7 - 100 + 7 - p.1))) (by omega) fun w hw => ?_]
    · have nc := Nice.tuple (k := 1) (n := 45) (m := 60) (xs := ws.map fun w => spD ((sp s w).map fun p => (r7 - 100 + 7 - p.2, r7 - 100 + 7 - p.1))) (fun x hx => by
        obtain ⟨w, hw, rfl⟩ := List.mem_map.mp hx
        cases q : sp s w with
        | none => exact Nice.non.mono (by decide) (by decide)
        | some p =>
          have := sp_facts (hW.b w hw).1 q
          exact nice_pr (Nat.lt_of_lt_of_le (show (r7 - 100 + 7 - p.2).natAbs < 10000 by omega) (by decide)) (Nat.lt_of_lt_of_le (show (r7 - 100 + 7 - p.1).natAbs < 10000 by omega) (by decide))) (by simpa using hwl)
      have ne := nc.ne (by decide)
      simp [ne]
    · cases q : sp s w with
      | none => simp
      | some p =>
        have q1 : r7 - 100 - p.2 + 7 = r7 - 100 + 7 - p.2 := by omega
        have q2 : r7 - 100 - p.1 + 7 = r7 - 100 + 7 - p.1 := by omega
        simp [tup2, q1, q2]
  have old := w_older2 (s := s) hW
  refine bsE _ (by simp only [pCl, pCs, pNl, Option.bind_some, ap2]; exact old) ?_
  refine ⟨S7, d7.mono (by have : (3 : Int).toNat = 3 := rfl; omega), ?_⟩
  have hgl : (goodW s ws).length ≤ 60 := Nat.le_trans (List.length_filter_le _ _) (by simpa using hwl)
  have hpl := prsBy_len (n := 60) (l := goodW s ws) (r := fun i j => decide ((spW s ws j).2 < (spW s ws i).1)) hgl
  simp only [pSeq, Option.bind_some, itSeq]
  rw [pLc_fil (as := prsBy (goodW s ws) fun i j => decide ((spW s ws j).2 < (spW s ws i).1)) pr (fun _ => false) pr (by omega) fun p hp => ?_]
  · have q : oEq (.list []) (.list []) = some (.bool true) := eqL [] []
    rw [fil_none fun _ _ => rfl]
    simp [q]
  · obtain ⟨i, j, e1, e2, h1', h2', h3'⟩ := mem_prsBy (a := p.1) (b := p.2) |>.mp hp
    obtain ⟨k1, k2⟩ := mem_goodW.mp h1'
    obtain ⟨k3, k4⟩ := mem_goodW.mp h2'
    have h3' : (spW s ws j).2 < (spW s ws i).1 := by simpa using h3'
    have at_ : ∀ i, i < ws.length → sp s (ws.getD i 0) = some (spW s ws i) → atI (ws.map fun w => spD ((sp s w).map fun p => (r7 - 100 - p.2, r7 - 100 - p.1))) (i : Int) = some (pr (r7 - 100 - (spW s ws i).2, r7 - 100 - (spW s ws i).1)) := fun i hi he => by
      rw [atI_nat (fun w => spD ((sp s w).map fun p => (r7 - 100 - p.2, r7 - 100 - p.1))) 0 hi, he]
      rfl
    have x1 := at_ i k1 k2
    have x2 := at_ j k3 k4
    rw [← e1] at x1
    rw [← e2] at x2
    have c : ¬ (r7 - 100 - (spW s ws j).2 ≤ r7 - 100 - (spW s ws i).1) := by omega
    simp [x1, x2]
    omega
end K18
set_option Elab.async false
set_option linter.all false
set_option maxRecDepth 100000
set_option maxHeartbeats 4000000
/-! L18d: k18, casts of casts. -/
namespace K18
open PySem PySem.Spec L2 L2.FL HR

/-- one more cast -/
theorem cast_turn {lo hi n : Nat} (hl : lo ≤ hi) (hh : hi ≤ 1000) (hn : 1 ≤ n) (hn2 : n ≤ 100000) {pre : List PyData} (hp : pre.length ≤ 10) {S : List PyData} {b : Nat} (hd : Drawn b S) (hb : b < 90000) (x9 : PyData) :
    ∃ (n' : Nat) (S' : List PyData), 1 ≤ n' ∧ n' ≤ n ∧ Drawn (b + 4) S' ∧ ((fun (x_9 : PyData) (st_8 : List PyData × List PyData) => (uSet x_9).bind fun t_10 => (Option.bind ((sB (sCs (sL (some (.int 4))) sNl) (st1 p_draw)) st_8.1) fun t_11 =>
  (Option.bind (p2 oIx (some (.list st_8.2)) (p1 oNeg (some (.int 1)))) fun v_own_12 =>
  (Option.bind (pFold (pRg1 (some t_11.1)) (fun (x_14 : PyData) (st_13 : List PyData × PyData) => (uSet x_14).bind fun t_15 => (Option.bind ((s2 oAdd (sL (some (nI lo))) (sB (sCs (sL (p2 oAdd (p2 oSub (some (nI hi)) (some (nI lo))) (some (.int 1)))) sNl) (st1 p_draw))) st_13.1) fun t_16 =>
  (Option.bind (p2 oSub (some st_13.2) (p2 oDiv (p2 oMul (some st_13.2) (some t_16.1)) (some (.int 1000)))) fun v_own_17 => some (t_16.2, v_own_17)))) (t_11.2, v_own_12)) fun st_13 =>
  (Option.bind (pApp st_8.2 (pB oMax (pCs (pOfL (pLst (pCs (some (.int 1)) (pCs (some st_13.2) pNl)))) pNl))) fun v_sizes_18 => some (st_13.1, v_sizes_18)))))) x9 (S, pre ++ [nI n])) = some (S', pre ++ [nI n] ++ [nI n']) := by
  obtain ⟨r, S1, a1, a1', d1, e1⟩ := draw (m := 4) hd (by omega) (by decide) (by decide)
  have inner : ∃ (S2 : List PyData) (q : Int), foldP (fun (x_14 : PyData) (st_13 : List PyData × PyData) => (uSet x_14).bind fun t_15 => (Option.bind ((s2 oAdd (sL (some (nI lo))) (sB (sCs (sL (p2 oAdd (p2 oSub (some (nI hi)) (some (nI lo))) (some (.int 1)))) sNl) (st1 p_draw))) st_13.1) fun t_16 =>
  (Option.bind (p2 oSub (some st_13.2) (p2 oDiv (p2 oMul (some st_13.2) (some t_16.1)) (some (.int 1000)))) fun v_own_17 => some (t_16.2, v_own_17)))) ((rng 0 r).map .int) (S1, nI n) = some (S2, .int q) ∧ 0 ≤ q ∧ q ≤ n ∧ Drawn (b + 4) S2 := by
    generalize hT : (foldP _ _ _) = W
    have key : ∃ s', W = some s' ∧ (Drawn (b + 1 + (0 + (rng 0 r).length)) s'.1 ∧ ∃ q : Int, s'.2 = PyData.int q ∧ 0 ≤ q ∧ q ≤ n) := by
      rw [← hT]
      refine foldP_inv (k := 0) (κ := List PyData × PyData) (I := fun k st => Drawn (b + 1 + k) st.1 ∧ ∃ q : Int, st.2 = PyData.int q ∧ 0 ≤ q ∧ q ≤ n) (fun i a st ha hI => ?_) ⟨d1, n, rfl, by omega, by omega⟩
      obtain ⟨S0, v⟩ := st
      obtain ⟨h1, q, rfl, h3, h4⟩ := hI
      have hi4 : i < (rng 0 r).length := (List.getElem?_eq_some_iff.mp ha).1
      rw [rng_length] at hi4
      obtain ⟨t, S3, c1, c1', d3, e3⟩ := draw (m := (hi : Int) - (lo : Int) + 1) h1 (by omega) (by omega) (by omega)
      have m1 : oMul (.int q) (.int ((lo : Int) + t)) = some (.int (q * ((lo : Int) + t))) := o_mulR (by omega) (by omega)
      have m2 : oDiv (.int (q * ((lo : Int) + t))) (.int 1000) = some (.int (q * ((lo : Int) + t) / 1000)) := o_div (by decide) (by decide)
      have p1 : 0 ≤ q * ((lo : Int) + t) := Int.mul_nonneg h3 (by omega)
      have p2 : q * ((lo : Int) + t) ≤ q * 1000 := Int.mul_le_mul_of_nonneg_left (by omega) h3
      refine ⟨(S3, .int (q - q * ((lo : Int) + t) / 1000)), by simp [e3, m1, m2], d3.mono (by omega), _, rfl, ?_, ?_⟩
      · omega
      · omega
    obtain ⟨⟨S2, v⟩, rfl, h1, q, rfl, h3, h4⟩ := key
    refine ⟨S2, q, rfl, h3, h4, h1.mono ?_⟩
    rw [rng_length]
    omega
  obtain ⟨S2, q, e2, q1, q2, d2⟩ := inner
  refine ⟨(max 1 q).toNat, S2, by omega, by omega, d2, ?_⟩
  have rg := rg1_int (n := r) (by omega) (by omega)
  have mx2 : oMax [.list [.int 1, .int q]] = some (.int (max 1 q)) := by
    have := maxL (ns := [1, q]) (by simp)
    simpa [mx] using this
  have lst : atI (pre ++ [nI n]) (-1) = some (nI n) := FL.atI_last
  have hx : (PyData.int (max 1 q)) = nI (max 1 q).toNat := by
    show PyData.int _ = PyData.int (((max 1 q).toNat : Nat) : Int)
    rw [Int.toNat_of_nonneg (by omega)]
  have hlen : pre.length + 1 < 16777216 := by omega
  simp only [uSet, Option.bind_some]
  refine bs (PyData.int r, S1) (by simp [e1]) ?_
  refine bs (nI n) (by simp [lst]) ?_
  refine bs (S2, .int q) ?_ ?_
  · simp only [pFold, pRg1, Option.bind_some, rg]
    exact e2
  · simp [mx2, hx, hlen]
end K18
set_option Elab.async false
set_option linter.all false
set_option maxRecDepth 100000
set_option maxHeartbeats 4000000
/-! L18e: k18, casts of casts: the law's def. -/
namespace K18
open PySem PySem.Spec L2 L2.FL HR

theorem nT_in (ns : List Nat) (i : Nat) : oIn (nI i) (nT ns) = some (.bool (decide (i ∈ ns))) := by
  unfold nT
  rw [map_nI, show nI i = .int (i : Int) from rfl, inT]
  simp [mem_nI]
theorem nT_notIn (ns : List Nat) (i : Nat) : oNotIn (nI i) (nT ns) = some (.bool (!decide (i ∈ ns))) := by
  unfold nT
  rw [map_nI, show nI i = .int (i : Int) from rfl, notInT]
  simp [mem_nI]
theorem nT_eq (a b : List Nat) : oEq (nT a) (nT b) = some (.bool (decide (a = b))) := by
  unfold nT
  rw [map_nI, map_nI, eqT]
  congr 2
  have : (a.map fun (i : Nat) => (i : Int)) = (b.map fun (i : Nat) => (i : Int)) ↔ a = b := ⟨fun h => by
    have := congrArg (List.map Int.toNat) h
    simpa [List.map_map, Function.comp_def] using this, fun h => by rw [h]⟩
  simp [this]
theorem nT_ne (a b : List Nat) : oNe (nT a) (nT b) = some (.bool (!decide (a = b))) := by
  unfold nT
  rw [map_nI, map_nI, neT]
  have : (a.map fun (i : Nat) => (i : Int)) = (b.map fun (i : Nat) => (i : Int)) ↔ a = b := ⟨fun h => by
    have := congrArg (List.map Int.toNat) h
    simpa [List.map_map, Function.comp_def] using this, fun h => by rw [h]⟩
  simp [this]
theorem nice_nT {p : Nat → Bool} : Nice 1 (13 * (19 + 2) + 3) (nT ((List.range 13).filter p)) := Nice.tuple (k := 0) (n := 19) (m := 13) (fun x hx => by
  obtain ⟨i, hi, rfl⟩ := List.mem_map.mp hx
  have := List.mem_range.mp (List.mem_filter.mp hi).1
  exact Nice.int (Nat.lt_of_lt_of_le (show ((i : Int)).natAbs < 100 by omega) (by decide))) (by
  rw [List.length_map]
  exact Nat.le_trans (List.length_filter_le _ _) (by simp))
/-- a list of those that have what none has -/
theorem none_of {α : Type} {as : List α} {e : α → PyData} {F : PyData → Option (Option PyData)} (hl : as.length ≤ 1000000) (h : ∀ a ∈ as, F (e a) = some none) : pOfL (pLc (pSeq (some (.tuple (as.map e)))) F) = some (.list []) := by
  simp only [pSeq, Option.bind_some, itSeq]
  rw [pLc_fil (as := as) e (fun _ => false) e hl fun a ha => by rw [h a ha]; rfl, fil_none fun _ _ => rfl]
  rfl
theorem ev_casts {S : List PyData} {b : Nat} (hd : Drawn b S) (hb : b < 80000) : ∃ S', Drawn (b + 20) S' ∧ p__law_casts_hold S = some (.bool true, S') := by
  obtain ⟨r1, S1, a1, a1', d1, e1⟩ := draw (m := 90) hd (by omega) (by decide) (by decide)
  obtain ⟨r2, S2, a2, a2', d2, e2⟩ := draw (m := 60) d1 (by omega) (by decide) (by decide)
  obtain ⟨r3, S3, a3, a3', d3, e3⟩ := draw (m := 2000) d2 (by omega) (by decide) (by decide)
  obtain ⟨lo, rfl⟩ := Int.eq_ofNat_of_zero_le a1
  obtain ⟨d, rfl⟩ := Int.eq_ofNat_of_zero_le a2
  obtain ⟨z, rfl⟩ := Int.eq_ofNat_of_zero_le a3
  obtain ⟨hi, ehi⟩ : ∃ hi, hi = lo + d := ⟨_, rfl⟩
  obtain ⟨s0, es0⟩ : ∃ s0, s0 = 400 + z := ⟨_, rfl⟩
  obtain ⟨s1, S4, b1, b2, d4, t1⟩ := cast_turn (lo := lo) (hi := hi) (n := s0) (by omega) (by omega) (by omega) (by omega) (pre := []) (by simp) d3 (by omega) (nI 0)
  obtain ⟨s2, S5, b3, b4, d5, t2⟩ := cast_turn (lo := lo) (hi := hi) (n := s1) (by omega) (by omega) (by omega) (by omega) (pre := [nI s0]) (by simp) d4 (by omega) (nI 1)
  unfold p__law_casts_hold
  refine bsE (nI lo, S1) (by simp [e1]) ?_
  refine bsE ((nI hi, nI s0, ()), S3) (by simp [e2, e3, ehi, es0]) ?_
  refine bsE [nI s0] (by simp) ?_
  refine bsE (S5, [nI s0, nI s1, nI s2]) ?_ ?_
  · have rg : rg1 (.int 2) = some [nI 0, nI 1] := rg1_nat (n := 2) (by decide)
    simp only [pFold, pRg1, Option.bind_some, rg]
    rw [foldP]
    refine bs _ t1 ?_
    rw [foldP]
    refine bs _ t2 ?_
    rfl
  have c01 := c_cast_times (m := s0) (c := s1) (lo := lo) (hi := hi) (by omega) (by omega) (by omega) (by omega) (by omega) (by omega)
  have c12 := c_cast_times (m := s1) (c := s2) (lo := lo) (hi := hi) (by omega) (by omega) (by omega) (by omega) (by omega) (by omega)
  have c02 := c_cast_times (m := s0) (c := s2) (lo := lo) (hi := hi) (by omega) (by omega) (by omega) (by omega) (by omega) (by omega)
  have i0 : atI [nI s0, nI s1, nI s2] 0 = some (nI s0) := rfl
  have i1 : atI [nI s0, nI s1, nI s2] 1 = some (nI s1) := rfl
  have i2 : atI [nI s0, nI s1, nI s2] 2 = some (nI s2) := rfl
  refine bsE (nT ((List.range 13).filter (castOk s0 s1 lo hi)), nT ((List.range 13).filter (castOk s1 s2 lo hi)), nT ((List.range 13).filter (castOk s0 s2 lo hi)), ()) (by simp only [pCl, pCs, pNl, p2, Option.bind_some, o_ix1, i0, i1, i2, ap4, c01, c12, c02]) ?_
  have len : ∀ p : Nat → Bool, ((List.range 13).filter p).length ≤ 1000000 := fun p => Nat.le_trans (List.length_filter_le _ _) (by simp)
  refine thE () (pFor_seq fun one h1 => ?_) ?_
  · simp only [uSet, Option.bind_some]
    refine gf ?_ rfl
    rw [none_of (len _) fun own h2 => ?_]
    · rfl
    · have m1 := (List.mem_filter.mp h1).2
      have m2 := (List.mem_filter.mp h2).2
      have mj := castOk_join m1 m2
      have hin : one + own ≤ 12 → one + own ∈ (List.range 13).filter (castOk s0 s2 lo hi) := fun h => List.mem_filter.mpr ⟨List.mem_range.mpr (by omega), mj⟩
      have add : oAdd (nI one) (nI own) = some (nI (one + own)) := by simp
      have nin := nT_notIn ((List.range 13).filter (castOk s0 s2 lo hi)) (one + own)
      by_cases c : one + own ≤ 12
      · have cz : ((one + own : Nat) : Int) ≤ 12 := by omega
        simp only [hin c, decide_true, Bool.not_true] at nin
        have le : oLe (nI (one + own)) (.int 12) = some (.bool true) := by
          show some (PyData.bool (decide (((one + own : Nat) : Int) ≤ 12))) = _
          rw [decide_eq_true cz]
        simp only [uSet, Option.bind_some, p2, add, nin, le, pBl, pAnd, pIfS]
        rfl
      · have cz : ¬ ((one + own : Nat) : Int) ≤ 12 := by omega
        have le : oLe (nI (one + own)) (.int 12) = some (.bool false) := by
          show some (PyData.bool (decide (((one + own : Nat) : Int) ≤ 12))) = _
          rw [decide_eq_false cz]
        simp only [uSet, Option.bind_some, p2, add, nin, le, pBl, pAnd, pIfS]
        rfl
  -- wider bounds
  have cw := c_cast_times (m := s0) (c := s2) (lo := lo - 5) (hi := hi + 5) (by omega) (by omega) (by omega) (by omega) (by omega) (by omega)
  refine bsE (nT ((List.range 13).filter (castOk s0 s2 (lo - 5) (hi + 5)))) ?_ ?_
  · have m2 : oMax [.list [.int 0, .int ((lo : Int) - 5)]] = some (nI (lo - 5)) := by
      have := maxL (ns := [0, (lo : Int) - 5]) (by simp)
      rw [show [PyData.int 0, .int ((lo : Int) - 5)] = [0, (lo : Int) - 5].map .int from rfl, this]
      show some (PyData.int _) = some (PyData.int _)
      congr 2
      simp only [mx, List.foldl_cons, List.foldl_nil]
      omega
    have m3 : oAdd (nI hi) (.int 5) = some (nI (hi + 5)) := rfl
    have m4 : oSub (nI lo) (.int 5) = some (.int ((lo : Int) - 5)) := rfl
    simp only [pCl, pCs, pNl, p2, pB, pOfL, pLst, Option.bind_some, Option.map_some, o_ix1, i0, i2, ap4, m4, m3]
    simp [m2, cw]
  refine gfE ?_ ?_
  · rw [none_of (len _) fun own h2 => ?_]
    · have q1 := nT_in ((List.range 13).filter (castOk s0 s2 lo hi)) 0
      have q2 : decide (0 ∈ (List.range 13).filter (castOk s0 s2 lo hi)) = decide (s0 = s2) := by
        rw [decide_eq_decide, List.mem_filter, castOk_zero]
        simp
      rw [q2] at q1
      have q3 : oEq (nI s0) (nI s2) = some (.bool (decide (s0 = s2))) := by
        show oEq (.int (s0 : Int)) (.int (s2 : Int)) = _
        rw [o_eq]
        congr 2
        rw [decide_eq_decide]
        omega
      have q1' : oIn (.int 0) (nT ((List.range 13).filter (castOk s0 s2 lo hi))) = some (.bool (decide (s0 = s2))) := q1
      simp [i0, i2, q1', q3, neBB]
    · have m1 := (List.mem_filter.mp h2)
      have mw := castOk_wide (lo' := lo - 5) (hi' := hi + 5) m1.2 (by omega) (by omega)
      have nin := nT_notIn ((List.range 13).filter (castOk s0 s2 (lo - 5) (hi + 5))) own
      have hin : own ∈ (List.range 13).filter (castOk s0 s2 (lo - 5) (hi + 5)) := List.mem_filter.mpr ⟨m1.1, mw⟩
      simp only [hin, decide_true, Bool.not_true] at nin
      simp only [uSet, Option.bind_some, p2, nin, pBl, pIfS]
      rfl
  refine gfE ?_ ?_
  · have c7 := c_cast_times (m := 7 * s0) (c := 7 * s2) (lo := lo) (hi := hi) (by omega) (by omega) (by omega) (by omega) (by omega) (by omega)
    rw [show castOk (7 * s0) (7 * s2) lo hi = castOk s0 s2 lo hi from funext fun t => castOk_mul (by decide)] at c7
    have cm := c_cast_times (m := s2) (c := s0 + 1) (lo := lo) (hi := hi) (by omega) (by omega) (by omega) (by omega) (by omega) (by omega)
    rw [fil_none fun t _ => castOk_more (by omega)] at cm
    have m7 : ∀ n : Nat, oMul (.int 7) (nI n) = some (nI (7 * n)) := fun n => by
      rw [show nI n = .int (n : Int) from rfl, o_mulL (by decide) (by decide)]
      show some (PyData.int _) = some (PyData.int _)
      rw [Int.natCast_mul]
      rfl
    have ad : oAdd (nI s0) (.int 1) = some (nI (s0 + 1)) := rfl
    have sm := same (nice_nT (p := castOk s0 s2 lo hi)) (by decide) (by decide)
    have ne0 := nT_ne [] []
    have ne0' : oNe (nT []) (.tuple []) = some (.bool false) := ne0
    have t1 : p2 oMul (some (.int 7)) (p2 oIx (some (.list [nI s0, nI s1, nI s2])) (some (.int 0))) = some (nI (7 * s0)) := by
      simp only [p2, Option.bind_some, o_ix1, i0, m7]
    have t2 : p2 oMul (some (.int 7)) (p2 oIx (some (.list [nI s0, nI s1, nI s2])) (some (.int 2))) = some (nI (7 * s2)) := by
      simp only [p2, Option.bind_some, o_ix1, i2, m7]
    have t3 : p2 oAdd (p2 oIx (some (.list [nI s0, nI s1, nI s2])) (some (.int 0))) (some (.int 1)) = some (nI (s0 + 1)) := by
      simp only [p2, Option.bind_some, o_ix1, i0, ad]
    have t4 : p2 oIx (some (.list [nI s0, nI s1, nI s2])) (some (.int 2)) = some (nI s2) := by
      simp only [p2, Option.bind_some, o_ix1, i2]
    simp only [t1, t2, t3]
    simp only [t4]
    have u1 : pCl (ap4 p_casts_cast_times) (pCs (some (nI (7 * s0))) (pCs (some (nI (7 * s2))) (pCs (some (nI lo)) (pCs (some (nI hi)) pNl)))) = some (nT ((List.range 13).filter (castOk s0 s2 lo hi))) := c7
    have u2 : pCl (ap4 p_casts_cast_times) (pCs (some (nI s2)) (pCs (some (nI (s0 + 1))) (pCs (some (nI lo)) (pCs (some (nI hi)) pNl)))) = some (nT []) := cm
    rw [u1, u2]
    have u3 : pCl (ap2 p__law_same) (pCs (some (nT ((List.range 13).filter (castOk s0 s2 lo hi)))) (pCs (some (nT ((List.range 13).filter (castOk s0 s2 lo hi)))) pNl)) = some (.bool true) := sm
    rw [u3]
    simp [ne0']
  have ca := c_cast_times (m := s0) (c := s0) (lo := 0) (hi := hi) (by omega) (by omega) (by omega) (by omega) (by omega) (by omega)
  rw [List.filter_eq_self.mpr fun t _ => castOk_alike] at ca
  refine bsE (nT (List.range 13)) (by show p_casts_cast_times (nI s0) (nI s0) (nI 0) (nI hi) = _; exact ca) ?_
  refine ⟨S5, d5.mono (by omega), ?_⟩
  have lr : lr1 (.int 13) = some ((List.range 13).map nI) := lr1_nat (n := 13) (by decide)
  have sm := same (nice_nT (p := fun _ => true)) (by decide) (by decide)
  rw [List.filter_eq_self.mpr fun t _ => rfl] at sm
  have u1 : pCl (ap2 p__law_same) (pCs (some (nT (List.range 13))) (pCs (pB oTuple (pCs (pOfL (pLr1 (some (.int 13)))) pNl)) pNl)) = some (.bool true) := by
    simp only [pLr1, Option.bind_some, lr, pOfL, Option.map_some, pCs, pNl, pB, o_tuple1]
    exact sm
  have cz := c_cast_times (m := s0) (c := s0) (lo := lo) (hi := hi) (by omega) (by omega) (by omega) (by omega) (by omega) (by omega)
  have u2 : pCl (ap4 p_casts_cast_times) (pCs (some (nI s0)) (pCs (some (nI s0)) (pCs (some (nI lo)) (pCs (some (nI hi)) pNl)))) = some (nT ((List.range 13).filter (castOk s0 s0 lo hi))) := cz
  have goal : pOrT (p2 oEq (some (nI lo)) (some (.int 0))) (p2 oEq (pCl (ap4 p_casts_cast_times) (pCs (some (nI s0)) (pCs (some (nI s0)) (pCs (some (nI lo)) (pCs (some (nI hi)) pNl))))) (pTup (pCs (some (.int 0)) pNl))) = some (.bool true) := by
    rw [u2]
    by_cases h0 : lo = 0
    · subst h0
      have : oEq (nI 0) (.int 0) = some (.bool true) := by
        show oEq (.int 0) (.int 0) = _
        rw [o_eq]; rfl
      simp [this]
    · have e0 : oEq (nI lo) (.int 0) = some (.bool false) := by
        show oEq (.int (lo : Int)) (.int 0) = _
        rw [o_eq, decide_eq_false (by omega)]
      have f0 : (List.range 13).filter (castOk s0 s0 lo hi) = [0] := by
        rw [show List.range 13 = 0 :: (List.range 12).map (· + 1) from rfl, List.filter_cons, if_pos (castOk_zero.mpr rfl), fil_none fun t ht => ?_]
        obtain ⟨k, _, rfl⟩ := List.mem_map.mp ht
        exact castOk_self (by omega) (by omega) (by omega)
      rw [f0]
      have e1 := nT_eq [0] [0]
      have e1' : oEq (nT [0]) (.tuple [.int 0]) = some (.bool true) := e1
      simp [e0, e1']
  show Option.map _ (pAndT _ _) = _
  rw [u1]
  simp only [] at goal ⊢
  rw [goal]
  rfl
end K18
set_option Elab.async false
set_option linter.all false
set_option maxRecDepth 100000
set_option maxHeartbeats 4000000
/-! L18f: k18, rates of two heaps. -/
namespace K18
open PySem PySem.Spec L2 L2.FL HR

/-- a drawn heap -/
structure Ok3 (r : R3) : Prop where
  a : 0 ≤ r.1
  b : r.1 ≤ r.2.1
  c : r.2.1 ≤ 100
  d : 1 ≤ r.2.2
  e : r.2.2 ≤ 9
theorem heap_turn {S : List PyData} {b : Nat} (hd : Drawn b S) (hb : b < 90000) (hs : List PyData) (hl : hs.length ≤ 10) (x3 : PyData) :
    ∃ (rs : List R3) (S' : List PyData), 1 ≤ rs.length ∧ rs.length ≤ 3 ∧ (∀ r ∈ rs, Ok3 r) ∧ Drawn (b + 13) S' ∧ ((fun (x_3 : PyData) (st_2 : List PyData × List PyData) => (uSet x_3).bind fun t_4 => (Option.bind (pLst pNl) fun v_rows_5 =>
  (Option.bind (sFold (sM rg1 (s2 oAdd (sL (some (.int 1))) (sB (sCs (sL (some (.int 3))) sNl) (st1 p_draw)))) (fun (x_8 : PyData) (st_6 : List PyData × List PyData) => (uSet x_8).bind fun t_9 => (Option.bind ((s2 oAdd (sL (some (.int 1))) (sB (sCs (sL (some (.int 9))) sNl) (st1 p_draw))) st_6.1) fun t_10 =>
  (Option.bind ((s2 oSub (s2 oMul (sL (some t_10.1)) (s2 oAdd (sL (some (.int 2))) (sB (sCs (sL (some (.int 3))) sNl) (st1 p_draw)))) (sB (sCs (sL (some (.int 8))) sNl) (st1 p_draw))) t_10.2) fun t_11 =>
  (Option.bind (sApp_ st_6.2 (sM tupS (sCs (sL (pB oMax (pCs (pOfL (pLst (pCs (some (.int 0)) (pCs (some t_11.1) pNl)))) pNl))) (sCs (s2 oAdd (sL (pB oMax (pCs (pOfL (pLst (pCs (some (.int 0)) (pCs (some t_11.1) pNl)))) pNl))) (sB (sCs (sL (p2 oAdd (p2 oMul (some (.int 2)) (some t_10.1)) (some (.int 9)))) sNl) (st1 p_draw))) (sCs (sL (some t_10.1)) sNl)))) t_11.2) fun t_12 => some (t_12.2, t_12.1))))) (fun S_7 => (S_7, v_rows_5)) st_2.1) fun st_6 =>
  (Option.bind (pApp st_2.2 (pB oTuple (pCs (some (.list st_6.2)) pNl))) fun v_heaps_13 => some (st_6.1, v_heaps_13))))) x3 (S, hs)) = some (S', hs ++ [tR rs]) := by
  obtain ⟨r0, S0, a0, a0', d0, e0⟩ := draw (m := 3) hd (by omega) (by decide) (by decide)
  simp only [uSet, Option.bind_some]
  have key : ∃ s', sFold (sM rg1 (s2 oAdd (sL (some (.int 1))) (sB (sCs (sL (some (.int 3))) sNl) (st1 p_draw)))) (fun (x_8 : PyData) (st_6 : List PyData × List PyData) => (uSet x_8).bind fun t_9 => (Option.bind ((s2 oAdd (sL (some (.int 1))) (sB (sCs (sL (some (.int 9))) sNl) (st1 p_draw))) st_6.1) fun t_10 =>
  (Option.bind ((s2 oSub (s2 oMul (sL (some t_10.1)) (s2 oAdd (sL (some (.int 2))) (sB (sCs (sL (some (.int 3))) sNl) (st1 p_draw)))) (sB (sCs (sL (some (.int 8))) sNl) (st1 p_draw))) t_10.2) fun t_11 =>
  (Option.bind (sApp_ st_6.2 (sM tupS (sCs (sL (pB oMax (pCs (pOfL (pLst (pCs (some (.int 0)) (pCs (some t_11.1) pNl)))) pNl))) (sCs (s2 oAdd (sL (pB oMax (pCs (pOfL (pLst (pCs (some (.int 0)) (pCs (some t_11.1) pNl)))) pNl))) (sB (sCs (sL (p2 oAdd (p2 oMul (some (.int 2)) (some t_10.1)) (some (.int 9)))) sNl) (st1 p_draw))) (sCs (sL (some t_10.1)) sNl)))) t_11.2) fun t_12 => some (t_12.2, t_12.1))))) (fun S_7 => (S_7, [])) S = some s' ∧ ∃ (rs : List R3), s'.2 = rs.map t3 ∧ rs.length = 0 + (rng 0 (1 + r0)).length ∧ (∀ r ∈ rs, Ok3 r) ∧ Drawn (b + 1 + 4 * (0 + (rng 0 (1 + r0)).length)) s'.1 := by
    have i0 : (sM rg1 (s2 oAdd (sL (some (PyData.int 1))) (sB (sCs (sL (some (PyData.int 3))) sNl) (st1 p_draw)))) S = some ((rng 0 (1 + r0)).map .int, S0) := by
      simp [e0, rg1_int (show 1 + r0 ≤ 1000000000 by omega) (show -1000000000 ≤ 1 + r0 by omega)]
    unfold sFold
    rw [i0, Option.bind_some]
    refine foldP_inv (I := fun k (st : List PyData × List PyData) => ∃ (rs : List R3), st.2 = rs.map t3 ∧ rs.length = k ∧ (∀ r ∈ rs, Ok3 r) ∧ Drawn (b + 1 + 4 * k) st.1) (fun i n st hn hI => ?_) ⟨[], rfl, rfl, by simp, d0⟩
    obtain ⟨rs, h1, h2, h3, h4⟩ := hI
    obtain ⟨s1, s2⟩ := st
    simp only at h1 h4
    subst h1
    have hi : i < (rng 0 (1 + r0)).length := (List.getElem?_eq_some_iff.mp hn).1
    rw [rng_length] at hi
    obtain ⟨r1, S1, b1, b1', d1, e1⟩ := draw (m := 9) h4 (by omega) (by decide) (by decide)
    obtain ⟨r2, S2, b2, b2', d2, e2⟩ := draw (m := 3) d1 (by omega) (by decide) (by decide)
    obtain ⟨r3, S3, b3, b3', d3, e3⟩ := draw (m := 8) d2 (by omega) (by decide) (by decide)
    obtain ⟨r4, S4, b4, b4', d4, e4⟩ := draw (m := 2 * (1 + r1) + 9) d3 (by omega) (by omega) (by omega)
    have ml : oMul (.int (1 + r1)) (.int (2 + r2)) = some (.int ((1 + r1) * (2 + r2))) := o_mulR (by omega) (by omega)
    have m2 : oMul (.int 2) (.int (1 + r1)) = some (.int (2 * (1 + r1))) := o_mulR (by omega) (by omega)
    have mxe : oMax [.list [.int 0, .int ((1 + r1) * (2 + r2) - r3)]] = some (.int (max 0 ((1 + r1) * (2 + r2) - r3))) := by
      have := maxL (ns := [0, (1 + r1) * (2 + r2) - r3]) (by simp)
      simpa [mx] using this
    have hle : (1 + r1) * (2 + r2) ≤ 36 := by
      have q1 : (1 + r1) * (2 + r2) ≤ 9 * (2 + r2) := Int.mul_le_mul_of_nonneg_right (by omega) (by omega)
      omega
    have hz : rs.length < 16777216 := by omega
    generalize hG : (1 + r1) * (2 + r2) = G at *
    refine ⟨(S4, (rs ++ [(max 0 (G - r3), max 0 (G - r3) + r4, 1 + r1)]).map t3), ?_, rs ++ [(max 0 (G - r3), max 0 (G - r3) + r4, 1 + r1)], rfl, by simp [h2], ?_, d4.mono (by omega)⟩
    · simp [e1, e2, e3, e4, ml, m2, mxe, hz, t3]
    · intro r hr
      rcases List.mem_append.mp hr with hr | hr
      · exact h3 r hr
      · simp only [List.mem_cons, List.not_mem_nil, or_false] at hr
        subst hr
        refine ⟨?_, ?_, ?_, ?_, ?_⟩
        · show 0 ≤ max 0 (G - r3); omega
        · show max 0 (G - r3) ≤ max 0 (G - r3) + r4; omega
        · show max 0 (G - r3) + r4 ≤ 100; omega
        · show 1 ≤ 1 + r1; omega
        · show 1 + r1 ≤ 9; omega
  obtain ⟨⟨S1, xs⟩, ke, rs, hx, hl2, hok, d1⟩ := key
  simp only at hx d1
  subst hx
  rw [rng_length] at hl2 d1
  refine ⟨rs, S1, by omega, by omega, hok, d1.mono (by omega), ?_⟩
  have hlen : hs.length < 16777216 := by omega
  refine bs ([] : List PyData) (by simp) ?_
  refine bs (S1, rs.map t3) ke ?_
  simp [hlen]
end K18
set_option Elab.async false
set_option linter.all false
set_option maxRecDepth 100000
set_option maxHeartbeats 4000000
/-! L18g: k18, rates of two heaps: the law's def. -/
namespace K18
open PySem PySem.Spec L2 L2.FL HR

theorem dated_ok {rs : List R3} (h1 : 1 ≤ rs.length) (h2 : rs.length ≤ 3) (h : ∀ r ∈ rs, Ok3 r) : Dated rs := ⟨h1, by omega, fun r hr => by
  obtain ⟨a, b, c, d, e⟩ := h r hr
  omega⟩
theorem law_less {p q : Int × Int} (hp : 1 ≤ p.2) (hp2 : p.2 ≤ 5000) (hq : 1 ≤ q.2) (hq2 : q.2 ≤ 5000) : p__law_less (pr p) (pr q) = some (.bool (decide (fl p q))) := by
  have m1 : oMul (.int p.1) (.int q.2) = some (.int (p.1 * q.2)) := o_mulR (by omega) (by omega)
  have m2 : oMul (.int q.1) (.int p.2) = some (.int (q.1 * p.2)) := o_mulR (by omega) (by omega)
  unfold p__law_less
  simp [m1, m2]
  rfl
theorem in_strs (a : Str) (l : List Str) : oIn (.str a) (.list (l.map .str)) = some (.bool (decide (a ∈ l))) := by
  have h2 : okd (.str a) = true := by simp [okd, PyData.plain, PyData.depth]
  have h3 : okdAll (l.map .str) = true := by
    have h : ∀ ps : List Str, PyData.plainAll (ps.map .str) = true ∧ PyData.depthAll (ps.map .str) ≤ 1 := fun ps => by
      induction ps with
      | nil => exact ⟨rfl, by simp [PyData.depthAll]⟩
      | cons p r ih => exact ⟨by simp [PyData.plainAll, PyData.plain, ih.1], by simp [PyData.depthAll, PyData.depth, ih.2]⟩
    have := (h l).2
    simp only [okdAll, (h l).1, Bool.true_and, decide_eq_true_eq]
    omega
  have : anyEq (l.map .str) (.str a) = decide (a ∈ l) := by
    rw [Bool.eq_iff_iff]
    simp only [anyEq, List.any_map, List.any_eq_true, Function.comp, decide_eq_true_eq, PyData.eqv, beq_iff_eq]
    constructor
    · rintro ⟨p, h1, rfl⟩; exact h1
    · intro h; exact ⟨a, h, rfl⟩
  simp [oIn, h2, h3, this]
abbrev sA : Str := PySem.Str.ofString "apart"
abbrev sR : Str := PySem.Str.ofString "rate"
theorem sA_sR : (sR == sA) = false := by decide +kernel
theorem ev_rates {S : List PyData} {b : Nat} (hd : Drawn b S) (hb : b < 80000) : ∃ S', Drawn (b + 30) S' ∧ p__law_rates_hold S = some (.bool true, S') := by
  obtain ⟨A, S1, A1, A2, A3, d1, t1⟩ := heap_turn hd (by omega) [] (by simp) (nI 0)
  obtain ⟨B, S2, B1, B2, B3, d2, t2⟩ := heap_turn d1 (by omega) [tR A] (by simp) (nI 1)
  have dA := dated_ok A1 A2 A3
  have dB := dated_ok B1 B2 B3
  have dW := dated_join dA dB (by omega)
  obtain ⟨ha, la, JA, cA⟩ := w_judged dA
  obtain ⟨hb', lb, JB, cB⟩ := w_judged dB
  obtain ⟨h, l, J, cW⟩ := w_judged dW
  obtain ⟨eh, el⟩ := judged_uniq dW J (judged_join dA dB JA JB)
  have pA1 := JA.rh.d
  have pA2 := JA.rl.d
  have pB1 := JB.rh.d
  have pB2 := JB.rl.d
  have pW1 := J.rh.d
  have pW2 := J.rl.d
  unfold p__law_rates_hold
  refine bsE ([] : List PyData) (by simp) ?_
  refine bsE (S2, [tR A, tR B]) ?_ ?_
  · have rg : rg1 (.int 2) = some [nI 0, nI 1] := rg1_nat (n := 2) (by decide)
    simp only [pFold, pRg1, Option.bind_some, rg]
    rw [foldP]
    refine bs _ t1 ?_
    rw [foldP]
    refine bs _ t2 ?_
    rfl
  obtain ⟨vA, evA, qA⟩ : ∃ v, p_wear_judge_rate (tR A) = some v ∧ ((fl ha la ∧ ∃ i j : Nat, v = tag3 sA i j) ∨ (¬ fl ha la ∧ v = .tuple [.str sR, pr la, pr ha])) := by
    rcases cA with ⟨c, i, j, _, _, _, e⟩ | ⟨c, e⟩
    · exact ⟨_, e, .inl ⟨c, i, j, rfl⟩⟩
    · exact ⟨_, e, .inr ⟨c, rfl⟩⟩
  obtain ⟨vB, evB, qB⟩ : ∃ v, p_wear_judge_rate (tR B) = some v ∧ ((fl hb' lb ∧ ∃ i j : Nat, v = tag3 sA i j) ∨ (¬ fl hb' lb ∧ v = .tuple [.str sR, pr lb, pr hb'])) := by
    rcases cB with ⟨c, i, j, _, _, _, e⟩ | ⟨c, e⟩
    · exact ⟨_, e, .inl ⟨c, i, j, rfl⟩⟩
    · exact ⟨_, e, .inr ⟨c, rfl⟩⟩
  obtain ⟨vW, evW, qW⟩ : ∃ v, p_wear_judge_rate (tR (A ++ B)) = some v ∧ ((fl h l ∧ ∃ i j : Nat, i ≠ j ∧ v = tag3 sA i j) ∨ (¬ fl h l ∧ v = .tuple [.str sR, pr l, pr h])) := by
    rcases cW with ⟨c, i, j, nij, _, _, e⟩ | ⟨c, e⟩
    · exact ⟨_, e, .inl ⟨c, i, j, nij, rfl⟩⟩
    · exact ⟨_, e, .inr ⟨c, rfl⟩⟩
  have cat : oAdd (tR A) (tR B) = some (tR (A ++ B)) := by
    unfold tR
    rw [List.map_append]
    exact o_cat (by simp; omega)
  have told : ∀ F : PyData → Option (Option PyData), (∀ v, F v = (p_wear_judge_rate v).map some) → pLc (some [tR A, tR B]) F = some [vA, vB] := fun F hF => by
    have := pLc_all (F := F) (as := [(A, vA), (B, vB)]) (fun x => tR x.1) (fun x => x.2) (by simp) fun x hx => by
      rw [hF]
      simp only [List.mem_cons, List.not_mem_nil, or_false] at hx
      rcases hx with rfl | rfl
      · simp [evA]
      · simp [evB]
    simpa using this
  refine bsE (.list [vA, vB], vW, ()) ?_ ?_
  · rw [show pSeq (some (.list [tR A, tR B])) = some [tR A, tR B] from rfl, told _ fun v => by simp]
    have x0 : atI [tR A, tR B] 0 = some (tR A) := rfl
    have x1 : atI [tR A, tR B] 1 = some (tR B) := rfl
    simp [x0, x1, cat, evW]
  have y0 : atI [vA, vB] 0 = some vA := rfl
  have y1 : atI [vA, vB] 1 = some vB := rfl
  have dS : Drawn (b + 30) S2 := d2.mono (by omega)
  have tag : ∀ v : PyData, (∃ i j : Nat, v = tag3 sA i j) → oIx v (.int 0) = some (.str sA) := fun v ⟨i, j, e⟩ => by rw [e]; rfl
  have tagR : ∀ p q : Int × Int, oIx (.tuple [.str sR, pr p, pr q]) (.int 0) = some (.str sR) := fun p q => rfl
  have tagsOf : ∀ (a c : Str), oIx vA (.int 0) = some (.str a) → oIx vB (.int 0) = some (.str c) → ∀ F : PyData → Option (Option PyData), (∀ v, F v = (oIx v (.int 0)).map some) → pLc (some [vA, vB]) F = some ([a, c].map .str) := fun a c ea ec F hF => by
    have := pLc_all (F := F) (as := [(vA, a), (vB, c)]) (fun x => x.1) (fun x => .str x.2) (by simp) fun x hx => by
      rw [hF]
      simp only [List.mem_cons, List.not_mem_nil, or_false] at hx
      rcases hx with rfl | rfl
      · simp [ea]
      · simp [ec]
    simpa using this
  have nA1 : ¬ fl ha h := by
    rw [eh]
    split
    · rename_i c; exact fl_asy c
    · exact fl_irr _
  have nA2 : ¬ fl l la := by
    rw [el]
    split
    · rename_i c; exact fl_asy c
    · exact fl_irr _
  have nB1 : ¬ fl hb' h := by
    rw [eh]
    split
    · exact fl_irr _
    · assumption
  have nB2 : ¬ fl l lb := by
    rw [el]
    split
    · exact fl_irr _
    · assumption
  by_cases cAp : fl ha la ∨ fl hb' lb
  · -- one heap is apart
    have fW : fl h l := by
      refine Classical.byContradiction fun z => ?_
      rcases cAp with c | c
      · exact fl_neg (p := ha) (q := l) (r := la) (by omega) (by omega) (by omega) (fl_neg (p := ha) (q := h) (r := l) (by omega) (by omega) (by omega) nA1 z) nA2 c
      · exact fl_neg (p := hb') (q := l) (r := lb) (by omega) (by omega) (by omega) (fl_neg (p := hb') (q := h) (r := l) (by omega) (by omega) (by omega) nB1 z) nB2 c
    rcases qW with ⟨_, i, j, nij, e⟩ | ⟨c, _⟩
    · have tA : ∃ a, oIx vA (.int 0) = some (.str a) ∧ (fl ha la → a = sA) := by
        rcases qA with ⟨c, e⟩ | ⟨c, e⟩
        · exact ⟨sA, tag _ e, fun _ => rfl⟩
        · exact ⟨sR, by rw [e]; rfl, fun z => absurd z c⟩
      have tB : ∃ a, oIx vB (.int 0) = some (.str a) ∧ (fl hb' lb → a = sA) := by
        rcases qB with ⟨c, e⟩ | ⟨c, e⟩
        · exact ⟨sA, tag _ e, fun _ => rfl⟩
        · exact ⟨sR, by rw [e]; rfl, fun z => absurd z c⟩
      obtain ⟨a, ta, ka⟩ := tA
      obtain ⟨c, tc, kc⟩ := tB
      have hin : sA ∈ [a, c] := by
        rcases cAp with z | z
        · rw [ka z]; simp
        · rw [kc z]; simp
      have ins := in_strs sA [a, c]
      rw [decide_eq_true hin] at ins
      refine ⟨S2, dS, gt ?_ ?_⟩
      · rw [show pSeq (some (.list [vA, vB])) = some [vA, vB] from rfl, tagsOf a c ta tc _ fun v => by simp]
        simp only [List.map_cons, List.map_nil] at ins ⊢
        simp [ins]
      · have tw := tag vW ⟨i, j, e⟩
        simp [tw, eq_str]
    · exact absurd fW c
  · have cA' : ¬ fl ha la := fun z => cAp (.inl z)
    have cB' : ¬ fl hb' lb := fun z => cAp (.inr z)
    have eA : vA = .tuple [.str sR, pr la, pr ha] := by
      rcases qA with ⟨c, _⟩ | ⟨_, e⟩
      · exact absurd c cA'
      · exact e
    have eB : vB = .tuple [.str sR, pr lb, pr hb'] := by
      rcases qB with ⟨c, _⟩ | ⟨_, e⟩
      · exact absurd c cB'
      · exact e
    have z0 : oIx vA (.int 1) = some (pr la) := by rw [eA]; rfl
    have z1 : oIx vA (.int 2) = some (pr ha) := by rw [eA]; rfl
    have z2 : oIx vB (.int 1) = some (pr lb) := by rw [eB]; rfl
    have z3 : oIx vB (.int 2) = some (pr hb') := by rw [eB]; rfl
    refine gfE ?_ ?_
    · rw [show pSeq (some (.list [vA, vB])) = some [vA, vB] from rfl, tagsOf sR sR (by rw [eA]; rfl) (by rw [eB]; rfl) _ fun v => by simp]
      have ins := in_strs sA [sR, sR]
      rw [decide_eq_false (by decide +kernel)] at ins
      simp only [List.map_cons, List.map_nil] at ins ⊢
      simp [ins]
    refine bsE (pr la, pr ha, ()) (by simp [y0, z0, z1]) ?_
    have less1 := law_less (p := la) (q := lb) pA2 JA.lb.2 pB2 JB.lb.2
    have less2 := law_less (p := hb') (q := ha) pB1 JB.hb.2 pA1 JA.hb.2
    refine bsE (pr l, pr h, ()) ?_ ?_
    · rw [el, eh]
      by_cases c1 : fl la lb
      · by_cases c2 : fl hb' ha
        · simp [y1, z2, z3, less1, less2, c1, c2]
        · simp [y1, z2, z3, less1, less2, c1, c2]
      · by_cases c2 : fl hb' ha
        · simp [y1, z2, z3, less1, less2, c1, c2]
        · simp [y1, z2, z3, less1, less2, c1, c2]
    have less3 := law_less (p := h) (q := l) pW1 J.hb.2 pW2 J.lb.2
    rcases qW with ⟨c, i, j, nij, e⟩ | ⟨c, e⟩
    · refine ⟨S2, dS, gt ?_ ?_⟩
      · simp [less3, c]
      · have tw := tag vW ⟨i, j, e⟩
        have w1 : oIx vW (.int 1) = some (.int i) := by rw [e]; rfl
        have w2 : oIx vW (.int 2) = some (.int j) := by rw [e]; rfl
        have nij' : (i : Int) ≠ (j : Int) := by omega
        simp [tw, eq_str, w1, w2, nij']
    · refine gfE ?_ ?_
      · simp [less3, c]
      have b1 := J.hb
      have b2 := J.lb
      have n1 := J.rh.n
      have n2 := J.rl.n
      refine gfE ?_ ?_
      · have tagL : (PyData.shown (.str sR)).length ≤ 100 := by decide +kernel
        have nc := Nice.tuple (k := 1) (n := 100) (m := 3) (xs := [.str sR, pr l, pr h]) (fun x hx => by
          simp only [List.mem_cons, List.not_mem_nil, or_false] at hx
          rcases hx with rfl | rfl | rfl
          · exact (Nice.str tagL).mono (by decide) (by decide)
          · exact (nice_pr (Nat.lt_of_lt_of_le (show l.1.natAbs < 10000000000000 by omega) (by decide)) (Nat.lt_of_lt_of_le (show l.2.natAbs < 10000000000000 by omega) (by decide))).mono (by decide) (by decide)
          · exact (nice_pr (Nat.lt_of_lt_of_le (show h.1.natAbs < 10000000000000 by omega) (by decide)) (Nat.lt_of_lt_of_le (show h.2.natAbs < 10000000000000 by omega) (by decide))).mono (by decide) (by decide)) (by simp)
        have ne := nc.ne (by decide)
        simp [e, ne]
      refine ⟨S2, dS, ?_⟩
      have posr : ∀ r ∈ A ++ B, 0 < r.2.2 := fun r hr => by have := dW.b r hr; omega
      have k1 := w_x_accept_rate dW J.rl (by omega) b2.1 J.l1 fun r hr => fl_neg (p := hi3 r) (q := h) (r := l) (posr r hr) (by omega) (by omega) (J.h1 r hr) c
      have k2 := w_x_accept_rate dW J.rh (by omega) b1.1 (fun r hr => fl_neg (p := h) (q := l) (r := lo3 r) (by omega) (by omega) (posr r hr) c (J.l1 r hr)) J.h1
      have x0 : atI [tR A, tR B] 0 = some (tR A) := rfl
      have x1 : atI [tR A, tR B] 1 = some (tR B) := rfl
      have tk : ∀ p : Int × Int, p = l ∨ p = h → pTk (ap2 p_wear_x_accept_rate) (some (.list [tR (A ++ B), pr p])) = some (.bool true) := fun p hp => by
        rcases hp with rfl | rfl
        · rw [pTk_list (r := .none) k1]; rfl
        · rw [pTk_list (r := .none) k2]; rfl
      have comp : ∀ F : PyData → Option (Option PyData), (∀ p : Int × Int, p = l ∨ p = h → F (pr p) = some none) → pLc (some [pr l, pr h]) F = some [] := fun F hF => by
        have := pLc_fil (F := F) (as := [l, h]) pr (fun _ => false) pr (by simp) fun p hp => by
          simp only [List.mem_cons, List.not_mem_nil, or_false] at hp
          rw [hF p hp]; rfl
        rw [fil_none fun _ _ => rfl] at this
        simpa using this
      have q : oEq (.list []) (.list []) = some (.bool true) := eqL [] []
      have sz : pSeq (pOfL (pLst (pCs (some (pr l)) (pCs (some (pr h)) pNl)))) = some [pr l, pr h] := by simp
      show Option.map _ (p2 oEq (pOfL (pLc (pSeq (pOfL (pLst (pCs (some (pr l)) (pCs (some (pr h)) pNl))))) _)) _) = _
      rw [sz, comp _ fun p hp => by simp [x0, x1, cat, tk p hp]]
      simp [q]
end K18
set_option Elab.async false
set_option linter.all false
set_option maxRecDepth 100000
set_option maxHeartbeats 4000000
/-! the readings of law_k18_worn_on_and_cast_on, printed by gen.py -/
namespace K18
open PySem PySem.Spec PyProof.Rows L2 L2.FL
def topS (i : Nat) : Stmt := PySem.Challenge.pw_hoardsread_k18_worn_on_and_cast_on.main.body.getD i (.Pass ⟨0, 0, 0, 0⟩)
abbrev s__law_start : Stmt := topS 33
abbrev N__law_start : List Str := [PySem.Str.ofString "script", PySem.Str.ofString "seed", PySem.Str.ofString "cell"]
theorem S__law_start : FnScope N__law_start [PySem.Str.ofString "script"] (defScope s__law_start) := ⟨rfl, rfl, rfl, by decide +kernel, rfl, by decide +kernel, by decide +kernel⟩
noncomputable def h__law_start : LF := (hSeq (sAsg (gSet 1) (fC (.int 7)))
  (hSeq (sFor (fSeq (fSl (fVar 0) fNoPart (fPart (fC (.int 63))))) (gSet 2) (sAsg (gSet 1) (f2 oAdd (f2 oMod (fB oInt (fCons (f2 oAdd (f2 oMul (fVar 1) (fC (.int 48271))) (fVar 2)) fNil)) (fC (.int 2147483629))) (fC (.int 1)))))
  (fLst (fCons (fOfL (fLc (fSeq (fSl (fVar 0) fNoPart (fPart (fC (.int 63))))) (gSet 2) fYes (fB oAbs (fCons (fB oInt (fCons (fVar 2) fNil)) fNil)) [2])) (fCons (fC (.int 0)) (fCons (fC (.int 0)) (fCons (fC (.int 0)) (fCons (fVar 1) (fCons (fC (.int 0)) fNil)))))))))
abbrev s__law_draw : Stmt := topS 34
abbrev N__law_draw : List Str := [PySem.Str.ofString "state", PySem.Str.ofString "many", PySem.Str.ofString "found"]
theorem S__law_draw : FnScope N__law_draw [PySem.Str.ofString "state", PySem.Str.ofString "many"] (defScope s__law_draw) := ⟨rfl, rfl, rfl, by decide +kernel, rfl, by decide +kernel, by decide +kernel⟩
noncomputable def g__law_draw : SF := (sSeq (sIf (fAnd (fBool (f2 oEq (f2 oIx (fVar 0) (fC (.int 3))) (fC (.int 0)))) (fBool (f2 oLt (f2 oIx (fVar 0) (fC (.int 1))) (fB oLen (fCons (f2 oIx (fVar 0) (fC (.int 0))) fNil))))) (sAsg (gTup' (gCons' (gIx 0 (fC (.int 2))) (gCons' (gIx 0 (fC (.int 3))) (gCons' (gIx 0 (fC (.int 1))) gNil')))) (fTup (fCons (f2 oIx (f2 oIx (fVar 0) (fC (.int 0))) (f2 oIx (fVar 0) (fC (.int 1)))) (fCons (fC (.int 60)) (fCons (f2 oAdd (f2 oIx (fVar 0) (fC (.int 1))) (fC (.int 1))) fNil))))) sNil)
  (sSeq (sIf (fBool (f2 oGt (f2 oIx (fVar 0) (fC (.int 3))) (fC (.int 0)))) (sSeq (sAsg (gSet 2) (f2 oMod (fB oInt (fCons (f2 oIx (fVar 0) (fC (.int 2))) fNil)) (fVar 1)))
  (sSeq (sSetIx 0 (fC (.int 2)) (f2 oDiv (f2 oIx (fVar 0) (fC (.int 2))) (fVar 1)))
  (sSeq (sSetIx 0 (fC (.int 3)) (fIfE (fBool (f2 oGt (f2 oIx (fVar 0) (fC (.int 2))) (fC (.int 0)))) (f2 oSub (f2 oIx (fVar 0) (fC (.int 3))) (fC (.int 1))) (fC (.int 0))))
  (sRet (fVar 2))))) sNil)
  (sSeq (sSetIx 0 (fC (.int 5)) (f2 oAdd (f2 oIx (fVar 0) (fC (.int 5))) (fC (.int 1))))
  (sSeq (sSetIx 0 (fC (.int 4)) (f2 oMod (fB oInt (fCons (f2 oAdd (f2 oAdd (f2 oMul (f2 oIx (fVar 0) (fC (.int 4))) (fC (.int 48271))) (f2 oMul (f2 oMul (f2 oIx (fVar 0) (fC (.int 5))) (f2 oIx (fVar 0) (fC (.int 5)))) (fC (.int 69621)))) (fC (.int 11))) fNil)) (fC (.int 2147483647))))
  (sRet (f2 oMod (fB oInt (fCons (f2 oDiv (f2 oIx (fVar 0) (fC (.int 4))) (fC (.int 13))) fNil)) (fVar 1)))))))
abbrev s_is_integer : Stmt := topS 5
abbrev N_is_integer : List Str := [PySem.Str.ofString "value"]
theorem S_is_integer : FnScope N_is_integer [PySem.Str.ofString "value"] (defScope s_is_integer) := ⟨rfl, rfl, rfl, by decide +kernel, rfl, by decide +kernel, by decide +kernel⟩
noncomputable def g_is_integer : SF := (sRet (fAndT (f1 (isKind "int") (fVar 0)) (fNotT (f1 (isKind "bool") (fVar 0)))))
abbrev s_is_amount : Stmt := topS 16
abbrev N_is_amount : List Str := [PySem.Str.ofString "value"]
theorem S_is_amount : FnScope N_is_amount [PySem.Str.ofString "value"] (defScope s_is_amount) := ⟨rfl, rfl, rfl, by decide +kernel, rfl, by decide +kernel, by decide +kernel⟩
noncomputable def g_is_amount : SF := (sRet (fAndT (fCall g_is_integer 1 0 [] (fCons (fVar 0) fNil)) (fChain oLe oLe (fC (.int 0)) (fVar 0) (fC (.int 1000000000000)))))
abbrev s_check_standard : Stmt := topS 15
abbrev N_check_standard : List Str := [PySem.Str.ofString "standard", PySem.Str.ofString "own"]
theorem S_check_standard : FnScope N_check_standard [PySem.Str.ofString "standard"] (defScope s_check_standard) := ⟨rfl, rfl, rfl, by decide +kernel, rfl, by decide +kernel, by decide +kernel⟩
noncomputable def k1_check_standard : LF := (fLc (fSeq (fVar 0)) (gSet 1) fYes (fCall g_is_amount 1 0 [] (fCons (fVar 1) fNil)) [1])
noncomputable def g_check_standard : SF := (sSeq (sIf (fOr (fNot (fTru (f1 (isKind "tuple") (fVar 0)))) (fOr (fBool (f2 oNe (fB oLen (fCons (fVar 0) fNil)) (fC (.int 4)))) (fNot (fTru (fB oAll (fCons (fOfL k1_check_standard) fNil)))))) sNever sNil)
  (sIf (fOr (fNot (fBool (fChain oLe oLe (fC (.int 1)) (f2 oIx (fVar 0) (fC (.int 0))) (f2 oIx (fVar 0) (fC (.int 1)))))) (fNot (fBool (f2 oLe (f2 oIx (fVar 0) (fC (.int 2))) (f2 oIx (fVar 0) (fC (.int 3))))))) sNever sNil))
abbrev s_check_years : Stmt := topS 22
abbrev N_check_years : List Str := [PySem.Str.ofString "years"]
theorem S_check_years : FnScope N_check_years [PySem.Str.ofString "years"] (defScope s_check_years) := ⟨rfl, rfl, rfl, by decide +kernel, rfl, by decide +kernel, by decide +kernel⟩
noncomputable def g_check_years : SF := (sIf (fOr (fNot (fTru (fCall g_is_integer 1 0 [] (fCons (fVar 0) fNil)))) (fNot (fBool (fChain oLe oLe (fC (.int 0)) (fVar 0) (fC (.int 5000)))))) sNever sNil)
abbrev s_can_weigh : Stmt := topS 21
abbrev N_can_weigh : List Str := [PySem.Str.ofString "standard", PySem.Str.ofString "years", PySem.Str.ofString "low", PySem.Str.ofString "high", PySem.Str.ofString "least", PySem.Str.ofString "most"]
theorem S_can_weigh : FnScope N_can_weigh [PySem.Str.ofString "standard", PySem.Str.ofString "years"] (defScope s_can_weigh) := ⟨rfl, rfl, rfl, by decide +kernel, rfl, by decide +kernel, by decide +kernel⟩
noncomputable def g_can_weigh : SF := (sSeq (sDrop (fCall g_check_standard 1 1 [] (fCons (fVar 0) fNil)))
  (sSeq (sDrop (fCall g_check_years 1 0 [] (fCons (fVar 1) fNil)))
  (sSeq (sAsg (gTup' (gCons' (gSet 2) (gCons' (gSet 3) (gCons' (gSet 4) (gCons' (gSet 5) gNil'))))) (fVar 0))
  (sRet (fTup (fCons (fB oMax (fCons (fC (.int 0)) (fCons (f2 oSub (fVar 2) (f2 oMul (fVar 5) (fVar 1))) fNil))) (fCons (fB oMax (fCons (fC (.int 0)) (fCons (f2 oSub (fVar 3) (f2 oMul (fVar 4) (fVar 1))) fNil))) fNil)))))))
abbrev s_check_weights : Stmt := topS 18
abbrev N_check_weights : List Str := [PySem.Str.ofString "weights", PySem.Str.ofString "own"]
theorem S_check_weights : FnScope N_check_weights [PySem.Str.ofString "weights"] (defScope s_check_weights) := ⟨rfl, rfl, rfl, by decide +kernel, rfl, by decide +kernel, by decide +kernel⟩
noncomputable def k1_check_weights : LF := (fLc (fSeq (fVar 0)) (gSet 1) fYes (fCall g_is_amount 1 0 [] (fCons (fVar 1) fNil)) [1])
noncomputable def g_check_weights : SF := (sSeq (sIf (fOr (fNot (fTru (f1 (isKind "tuple") (fVar 0)))) (fNot (fBool (fChain oLe oLe (fC (.int 1)) (fB oLen (fCons (fVar 0) fNil)) (fC (.int 60)))))) sNever sNil)
  (sIf (fNot (fTru (fB oAll (fCons (fOfL k1_check_weights) fNil)))) sNever sNil))
abbrev s_span_of : Stmt := topS 19
abbrev N_span_of : List Str := [PySem.Str.ofString "standard", PySem.Str.ofString "weight", PySem.Str.ofString "low", PySem.Str.ofString "high", PySem.Str.ofString "least", PySem.Str.ofString "most", PySem.Str.ofString "first", PySem.Str.ofString "last"]
theorem S_span_of : FnScope N_span_of [PySem.Str.ofString "standard", PySem.Str.ofString "weight"] (defScope s_span_of) := ⟨rfl, rfl, rfl, by decide +kernel, rfl, by decide +kernel, by decide +kernel⟩
noncomputable def g_span_of : SF := (sSeq (sAsg (gTup' (gCons' (gSet 2) (gCons' (gSet 3) (gCons' (gSet 4) (gCons' (gSet 5) gNil'))))) (fVar 0))
  (sSeq (sIf (fBool (f2 oGt (fVar 1) (fVar 3))) (sRet (fC .none)) sNil)
  (sSeq (sAsg (gSet 6) (fC (.int 0)))
  (sSeq (sIf (fBool (f2 oLt (fVar 1) (fVar 2))) (sSeq (sIf (fBool (f2 oEq (fVar 5) (fC (.int 0)))) (sRet (fC .none)) sNil)
  (sAsg (gSet 6) (f1 oNeg (f2 oDiv (f2 oSub (fVar 1) (fVar 2)) (fVar 5))))) sNil)
  (sSeq (sAsg (gSet 7) (fC (.int 5000)))
  (sSeq (sIf (fAnd (fBool (f2 oGt (fVar 4) (fC (.int 0)))) (fBool (f2 oGt (fVar 1) (fC (.int 0))))) (sAsg (gSet 7) (fB oMin (fCons (fVar 7) (fCons (f2 oDiv (f2 oSub (fVar 3) (fVar 1)) (fVar 4)) fNil)))) sNil)
  (sRet (fIfE (fBool (f2 oLe (fVar 6) (fVar 7))) (fTup (fCons (fVar 6) (fCons (fVar 7) fNil))) (fC .none)))))))))
abbrev s_surely_older : Stmt := topS 26
abbrev N_surely_older : List Str := [PySem.Str.ofString "standard", PySem.Str.ofString "weights", PySem.Str.ofString "own", PySem.Str.ofString "spans", PySem.Str.ofString "at", PySem.Str.ofString "good", PySem.Str.ofString "one", PySem.Str.ofString "other"]
theorem S_surely_older : FnScope N_surely_older [PySem.Str.ofString "standard", PySem.Str.ofString "weights"] (defScope s_surely_older) := ⟨rfl, rfl, rfl, by decide +kernel, rfl, by decide +kernel, by decide +kernel⟩
noncomputable def k1_surely_older : LF := (fLc (fSeq (fVar 1)) (gSet 2) fYes (fCall g_span_of 2 6 [] (fCons (fVar 0) (fCons (fVar 2) fNil))) [2])
noncomputable def k2_surely_older : LF := (fLc (fEnum (fVar 3)) (gTup' (gCons' (gSet 4) (gCons' (gSet 2) gNil'))) (fBool (fNotN (fVar 2))) (fVar 4) [4, 2])
noncomputable def k3_surely_older : LF := (fLc2 (fSeq (fVar 5)) (gSet 6) fYes (fSeq (fVar 5)) (gSet 7) (fBool (f2 oGt (f2 oIx (f2 oIx (fVar 3) (fVar 6)) (fC (.int 0))) (f2 oIx (f2 oIx (fVar 3) (fVar 7)) (fC (.int 1))))) (fTup (fCons (fVar 6) (fCons (fVar 7) fNil))) [6, 7] [7])
noncomputable def g_surely_older : SF := (sSeq (sDrop (fCall g_check_standard 1 1 [] (fCons (fVar 0) fNil)))
  (sSeq (sDrop (fCall g_check_weights 1 1 [] (fCons (fVar 1) fNil)))
  (sSeq (sAsg (gSet 3) (fOfL k1_surely_older))
  (sSeq (sAsg (gSet 5) (fOfL k2_surely_older))
  (sRet (fB oTuple (fCons (fOfL k3_surely_older) fNil)))))))
abbrev s_check_weight : Stmt := topS 17
abbrev N_check_weight : List Str := [PySem.Str.ofString "weight"]
theorem S_check_weight : FnScope N_check_weight [PySem.Str.ofString "weight"] (defScope s_check_weight) := ⟨rfl, rfl, rfl, by decide +kernel, rfl, by decide +kernel, by decide +kernel⟩
noncomputable def g_check_weight : SF := (sIf (fNot (fTru (fCall g_is_amount 1 0 [] (fCons (fVar 0) fNil)))) sNever sNil)
abbrev s_years_for : Stmt := topS 20
abbrev N_years_for : List Str := [PySem.Str.ofString "standard", PySem.Str.ofString "weight"]
theorem S_years_for : FnScope N_years_for [PySem.Str.ofString "standard", PySem.Str.ofString "weight"] (defScope s_years_for) := ⟨rfl, rfl, rfl, by decide +kernel, rfl, by decide +kernel, by decide +kernel⟩
noncomputable def g_years_for : SF := (sSeq (sDrop (fCall g_check_standard 1 1 [] (fCons (fVar 0) fNil)))
  (sSeq (sDrop (fCall g_check_weight 1 0 [] (fCons (fVar 1) fNil)))
  (sRet (fCall g_span_of 2 6 [] (fCons (fVar 0) (fCons (fVar 1) fNil))))))
abbrev s_judge_common : Stmt := topS 23
abbrev N_judge_common : List Str := [PySem.Str.ofString "standard", PySem.Str.ofString "weights", PySem.Str.ofString "own", PySem.Str.ofString "spans", PySem.Str.ofString "firsts", PySem.Str.ofString "lasts"]
theorem S_judge_common : FnScope N_judge_common [PySem.Str.ofString "standard", PySem.Str.ofString "weights"] (defScope s_judge_common) := ⟨rfl, rfl, rfl, by decide +kernel, rfl, by decide +kernel, by decide +kernel⟩
noncomputable def k1_judge_common : LF := (fLc (fSeq (fVar 1)) (gSet 2) fYes (fCall g_span_of 2 6 [] (fCons (fVar 0) (fCons (fVar 2) fNil))) [2])
noncomputable def k2_judge_common : LF := (fLc (fSeq (fVar 3)) (gSet 2) fYes (f2 oIx (fVar 2) (fC (.int 1))) [2])
noncomputable def k3_judge_common : LF := (fLc (fSeq (fVar 3)) (gSet 2) fYes (f2 oIx (fVar 2) (fC (.int 0))) [2])
noncomputable def g_judge_common : SF := (sSeq (sDrop (fCall g_check_standard 1 1 [] (fCons (fVar 0) fNil)))
  (sSeq (sDrop (fCall g_check_weights 1 1 [] (fCons (fVar 1) fNil)))
  (sSeq (sAsg (gSet 3) (fOfL k1_judge_common))
  (sSeq (sIf (fBool (f2 oIn (fC .none) (fVar 3))) (sRet (fTup (fCons (fC (.str (PySem.Str.ofString "never"))) (fCons (fMethL oIndex (fVar 3) (fC .none)) fNil)))) sNil)
  (sSeq (sPar [4, 5] (pE (fOfL k3_judge_common) (pE (fOfL k2_judge_common) pNil)))
  (sSeq (sIf (fBool (f2 oGt (fB oMax (fCons (fVar 4) fNil)) (fB oMin (fCons (fVar 5) fNil)))) (sRet (fTup (fCons (fC (.str (PySem.Str.ofString "apart"))) (fCons (fMethL oIndex (fVar 5) (fB oMin (fCons (fVar 5) fNil))) (fCons (fMethL oIndex (fVar 4) (fB oMax (fCons (fVar 4) fNil))) fNil))))) sNil)
  (sRet (fTup (fCons (fC (.str (PySem.Str.ofString "years"))) (fCons (fB oMax (fCons (fVar 4) fNil)) (fCons (fB oMin (fCons (fVar 5) fNil)) fNil)))))))))))
abbrev s_struck_between : Stmt := topS 25
abbrev N_struck_between : List Str := [PySem.Str.ofString "standard", PySem.Str.ofString "weights", PySem.Str.ofString "closed", PySem.Str.ofString "found", PySem.Str.ofString "own", PySem.Str.ofString "span"]
theorem S_struck_between : FnScope N_struck_between [PySem.Str.ofString "standard", PySem.Str.ofString "weights", PySem.Str.ofString "closed"] (defScope s_struck_between) := ⟨rfl, rfl, rfl, by decide +kernel, rfl, by decide +kernel, by decide +kernel⟩
noncomputable def b1_struck_between : SF := (sSeq (sAsg (gSet 5) (fCall g_span_of 2 6 [] (fCons (fVar 0) (fCons (fVar 4) fNil))))
  (sApp 3 (fIfE (fBool (fIsN (fVar 5))) (fC .none) (fTup (fCons (f2 oSub (fVar 2) (f2 oIx (fVar 5) (fC (.int 1)))) (fCons (f2 oSub (fVar 2) (f2 oIx (fVar 5) (fC (.int 0)))) fNil))))))
noncomputable def l1_struck_between : SF := (sFor (fSeq (fVar 1)) (gSet 4) b1_struck_between)
noncomputable def g_struck_between : SF := (sSeq (sDrop (fCall g_check_standard 1 1 [] (fCons (fVar 0) fNil)))
  (sSeq (sDrop (fCall g_check_weights 1 1 [] (fCons (fVar 1) fNil)))
  (sSeq (sIf (fOr (fNot (fTru (fCall g_is_integer 1 0 [] (fCons (fVar 2) fNil)))) (fNot (fBool (fChain oLe oLe (f1 oNeg (fC (.int 5000))) (fVar 2) (fC (.int 5000)))))) sNever sNil)
  (sSeq (sAsgL 3 (fLst fNil))
  (sSeq l1_struck_between
  (sRet (fB oTuple (fCons (fVar 3) fNil))))))))
abbrev s__law_same : Stmt := topS 36
abbrev N__law_same : List Str := [PySem.Str.ofString "actual", PySem.Str.ofString "due"]
theorem S__law_same : FnScope N__law_same [PySem.Str.ofString "actual", PySem.Str.ofString "due"] (defScope s__law_same) := ⟨rfl, rfl, rfl, by decide +kernel, rfl, by decide +kernel, by decide +kernel⟩
noncomputable def g__law_same : SF := (sRet (fAndT (f2 oEq (fVar 0) (fVar 1)) (f2 oEq (fB oRepr (fCons (fVar 0) fNil)) (fB oRepr (fCons (fVar 1) fNil)))))
abbrev s__law_is_taken : Stmt := topS 37
abbrev N__law_is_taken : List Str := [PySem.Str.ofString "accept", PySem.Str.ofString "some"]
theorem S__law_is_taken : FnScope N__law_is_taken [PySem.Str.ofString "accept", PySem.Str.ofString "some"] (defScope s__law_is_taken) := ⟨rfl, rfl, rfl, by decide +kernel, rfl, by decide +kernel, by decide +kernel⟩
abbrev s_x_accept_years : Stmt := topS 24
abbrev N_x_accept_years : List Str := [PySem.Str.ofString "standard", PySem.Str.ofString "weights", PySem.Str.ofString "years", PySem.Str.ofString "own", PySem.Str.ofString "span"]
theorem S_x_accept_years : FnScope N_x_accept_years [PySem.Str.ofString "standard", PySem.Str.ofString "weights", PySem.Str.ofString "years"] (defScope s_x_accept_years) := ⟨rfl, rfl, rfl, by decide +kernel, rfl, by decide +kernel, by decide +kernel⟩
noncomputable def b1_x_accept_years : SF := (sSeq (sAsg (gSet 4) (fCall g_span_of 2 6 [] (fCons (fVar 0) (fCons (fVar 3) fNil))))
  (sIf (fOr (fBool (fIsN (fVar 4))) (fNot (fBool (fChain oLe oLe (f2 oIx (fVar 4) (fC (.int 0))) (fVar 2) (f2 oIx (fVar 4) (fC (.int 1))))))) sRaise sNil))
noncomputable def l1_x_accept_years : SF := (sFor (fSeq (fVar 1)) (gSet 3) b1_x_accept_years)
noncomputable def g_x_accept_years : SF := (sSeq (sDrop (fCall g_check_standard 1 1 [] (fCons (fVar 0) fNil)))
  (sSeq (sDrop (fCall g_check_weights 1 1 [] (fCons (fVar 1) fNil)))
  (sSeq (sIf (fOr (fNot (fTru (fCall g_is_integer 1 0 [] (fCons (fVar 2) fNil)))) (fNot (fBool (fChain oLe oLe (fC (.int 0)) (fVar 2) (fC (.int 5000)))))) sRaise sNil)
  l1_x_accept_years)))
abbrev s__law_worn_holds : Stmt := topS 38
abbrev N__law_worn_holds : List Str := [PySem.Str.ofString "state", PySem.Str.ofString "low", PySem.Str.ofString "least", PySem.Str.ofString "standard", PySem.Str.ofString "years", PySem.Str.ofString "left", PySem.Str.ofString "later", PySem.Str.ofString "more", PySem.Str.ofString "k", PySem.Str.ofString "weights", PySem.Str.ofString "weight", PySem.Str.ofString "good", PySem.Str.ofString "span", PySem.Str.ofString "told", PySem.Str.ofString "common", PySem.Str.ofString "closed", PySem.Str.ofString "struck", PySem.Str.ofString "moved", PySem.Str.ofString "own", PySem.Str.ofString "older"]
theorem S__law_worn_holds : FnScope N__law_worn_holds [PySem.Str.ofString "state"] (defScope s__law_worn_holds) := ⟨rfl, rfl, rfl, by decide +kernel, rfl, by decide +kernel, by decide +kernel⟩
noncomputable def b1__law_worn_holds : SF := (sIf (fNot (fTru (fCall g__law_same 2 0 [] (fCons (fCall g_can_weigh 2 4 [] (fCons (fVar 6) (fCons (fVar 7) fNil))) (fCons (fCall g_can_weigh 2 4 [] (fCons (fVar 3) (fCons (f2 oAdd (fVar 4) (fVar 7)) fNil))) fNil))))) (sRet (fC (.bool false))) sNil)
noncomputable def l1__law_worn_holds : SF := (sFor (fRng1 (fC (.int 9))) (gSet 7) b1__law_worn_holds)
noncomputable def k1__law_worn_holds : LF := (fLc (fRng1 (f2 oAdd (fC (.int 1)) (fCall g__law_draw 2 1 [] (fCons (fVar 0) (fCons (fC (.int 3)) fNil))))) (gSet 8) fYes (fCall g__law_draw 2 1 [] (fCons (fVar 0) (fCons (fC (.int 130)) fNil))) [8])
noncomputable def k2__law_worn_holds : LF := (fLc (fRng1 (fC (.int 140))) (gSet 7) (fTru (fTk g_x_accept_years 3 2 (fOfL (fLst (fCons (fVar 6) (fCons (fTup (fCons (fVar 10) fNil)) (fCons (fVar 7) fNil))))))) (fVar 7) [7])
noncomputable def k3__law_worn_holds : LF := (fLc (fRng1 (fC (.int 140))) (gSet 7) (fTru (fTk g_x_accept_years 3 2 (fOfL (fLst (fCons (fVar 3) (fCons (fTup (fCons (fVar 10) fNil)) (fCons (f2 oAdd (fVar 4) (fVar 7)) fNil))))))) (fVar 7) [7])
noncomputable def b2__law_worn_holds : SF := (sSeq (sAsg (gSet 11) (fOfL k2__law_worn_holds))
  (sSeq (sIf (fBool (f2 oNe (fVar 11) (fOfL k3__law_worn_holds))) (sRet (fC (.bool false))) sNil)
  (sSeq (sAsg (gSet 12) (fCall g_years_for 2 0 [] (fCons (fVar 6) (fCons (fVar 10) fNil))))
  (sIf (fOr (fBool (f2 oNe (fIsN (fVar 12)) (f2 oEq (fVar 11) (fOfL (fLst fNil))))) (fAnd (fBool (fNotN (fVar 12))) (fOr (fBool (f2 oNe (f2 oIx (fVar 12) (fC (.int 0))) (f2 oIx (fVar 11) (fC (.int 0))))) (fBool (f2 oNe (fB oMin (fCons (fOfL (fLst (fCons (f2 oIx (fVar 12) (fC (.int 1))) (fCons (fC (.int 139)) fNil)))) fNil)) (f2 oIx (fVar 11) (f1 oNeg (fC (.int 1))))))))) (sRet (fC (.bool false))) sNil))))
noncomputable def l2__law_worn_holds : SF := (sFor (fSeq (fVar 9)) (gSet 10) b2__law_worn_holds)
noncomputable def k4__law_worn_holds : LF := (fLc (fRng1 (fC (.int 140))) (gSet 7) (fTru (fTk g_x_accept_years 3 2 (fOfL (fLst (fCons (fVar 3) (fCons (fVar 9) (fCons (f2 oAdd (fVar 4) (fVar 7)) fNil))))))) (fVar 7) [7])
noncomputable def k5__law_worn_holds : LF := (fLc (fSeq (fVar 16)) (gSet 18) fYes (fIfE (fBool (fIsN (fVar 18))) (fC .none) (fTup (fCons (f2 oAdd (f2 oIx (fVar 18) (fC (.int 0))) (fC (.int 7))) (fCons (f2 oAdd (f2 oIx (fVar 18) (fC (.int 1))) (fC (.int 7))) fNil)))) [18])
noncomputable def k6__law_worn_holds : LF := (fLc (fSeq (fVar 19)) (gSet 18) (fBool (f2 oGe (f2 oIx (f2 oIx (fVar 16) (f2 oIx (fVar 18) (fC (.int 0)))) (fC (.int 1))) (f2 oIx (f2 oIx (fVar 16) (f2 oIx (fVar 18) (fC (.int 1)))) (fC (.int 0))))) (fVar 18) [18])
noncomputable def g__law_worn_holds : SF := (sSeq (sPar [1, 2] (pE (f2 oAdd (fC (.int 60)) (fCall g__law_draw 2 1 [] (fCons (fVar 0) (fCons (fC (.int 60)) fNil)))) (pE (fCall g__law_draw 2 1 [] (fCons (fVar 0) (fCons (fC (.int 3)) fNil))) pNil)))
  (sSeq (sAsg (gSet 3) (fTup (fCons (fVar 1) (fCons (f2 oAdd (fVar 1) (fCall g__law_draw 2 1 [] (fCons (fVar 0) (fCons (fC (.int 12)) fNil)))) (fCons (fVar 2) (fCons (f2 oAdd (fVar 2) (fCall g__law_draw 2 1 [] (fCons (fVar 0) (fCons (fC (.int 3)) fNil)))) fNil))))))
  (sSeq (sAsg (gSet 4) (fCall g__law_draw 2 1 [] (fCons (fVar 0) (fCons (fC (.int 12)) fNil))))
  (sSeq (sAsg (gSet 5) (fCall g_can_weigh 2 4 [] (fCons (fVar 3) (fCons (fVar 4) fNil))))
  (sSeq (sAsg (gSet 6) (f2 oAdd (fVar 5) (fSl (fVar 3) (fPart (fC (.int 2))) fNoPart)))
  (sSeq l1__law_worn_holds
  (sSeq (sAsg (gSet 9) (fB oTuple (fCons (fOfL k1__law_worn_holds) fNil)))
  (sSeq l2__law_worn_holds
  (sSeq (sPar [13, 14] (pE (fCall g_judge_common 2 4 [] (fCons (fVar 6) (fCons (fVar 9) fNil))) (pE (fOfL k4__law_worn_holds) pNil)))
  (sSeq (sIf (fOr (fBool (f2 oNe (f2 oEq (f2 oIx (fVar 13) (fC (.int 0))) (fC (.str (PySem.Str.ofString "years")))) (f2 oNe (fVar 14) (fOfL (fLst fNil))))) (fAnd (fBool (f2 oNe (fVar 14) (fOfL (fLst fNil)))) (fBool (f2 oNe (f2 oIx (fVar 13) (fC (.int 1))) (f2 oIx (fVar 14) (fC (.int 0))))))) (sRet (fC (.bool false))) sNil)
  (sSeq (sAsg (gSet 15) (f2 oSub (fCall g__law_draw 2 1 [] (fCons (fVar 0) (fCons (fC (.int 200)) fNil))) (fC (.int 100))))
  (sSeq (sPar [16, 17] (pE (fCall g_struck_between 3 3 [] (fCons (fVar 3) (fCons (fVar 9) (fCons (fVar 15) fNil)))) (pE (fCall g_struck_between 3 3 [] (fCons (fVar 3) (fCons (fVar 9) (fCons (f2 oAdd (fVar 15) (fC (.int 7))) fNil)))) pNil)))
  (sSeq (sIf (fBool (f2 oNe (fVar 17) (fB oTuple (fCons (fOfL k5__law_worn_holds) fNil)))) (sRet (fC (.bool false))) sNil)
  (sSeq (sAsg (gSet 19) (fCall g_surely_older 2 6 [] (fCons (fVar 3) (fCons (fVar 9) fNil))))
  (sRet (f2 oEq (fOfL k6__law_worn_holds) (fOfL (fLst fNil))))))))))))))))))
abbrev s_check_width : Stmt := topS 12
abbrev N_check_width : List Str := [PySem.Str.ofString "value", PySem.Str.ofString "reason"]
theorem S_check_width : FnScope N_check_width [PySem.Str.ofString "value", PySem.Str.ofString "reason"] (defScope s_check_width) := ⟨rfl, rfl, rfl, by decide +kernel, rfl, by decide +kernel, by decide +kernel⟩
noncomputable def g_check_width : SF := (sIf (fOr (fNot (fTru (fCall g_is_integer 1 0 [] (fCons (fVar 0) fNil)))) (fNot (fBool (fChain oLe oLe (fC (.int 1)) (fVar 0) (fC (.int 1000000000000)))))) sNever sNil)
abbrev s_cast_times : Stmt := topS 13
abbrev N_cast_times : List Str := [PySem.Str.ofString "mother", PySem.Str.ofString "copy", PySem.Str.ofString "low", PySem.Str.ofString "high", PySem.Str.ofString "reason", PySem.Str.ofString "own", PySem.Str.ofString "found", PySem.Str.ofString "least", PySem.Str.ofString "most", PySem.Str.ofString "whole", PySem.Str.ofString "times"]
theorem S_cast_times : FnScope N_cast_times [PySem.Str.ofString "mother", PySem.Str.ofString "copy", PySem.Str.ofString "low", PySem.Str.ofString "high"] (defScope s_cast_times) := ⟨rfl, rfl, rfl, by decide +kernel, rfl, by decide +kernel, by decide +kernel⟩
noncomputable def b1_cast_times : SF := (sIf (fOr (fNot (fTru (fCall g_is_integer 1 0 [] (fCons (fVar 5) fNil)))) (fNot (fBool (fChain oLe oLe (fC (.int 0)) (fVar 5) (fC (.int 1000)))))) sNever sNil)
noncomputable def l1_cast_times : SF := (sFor (fSeq (fTup (fCons (fTup (fCons (fC (.str (PySem.Str.ofString "low"))) (fCons (fVar 2) fNil))) (fCons (fTup (fCons (fC (.str (PySem.Str.ofString "high"))) (fCons (fVar 3) fNil))) fNil)))) (gTup' (gCons' (gSet 4) (gCons' (gSet 5) gNil'))) b1_cast_times)
noncomputable def b2_cast_times : SF := (sSeq (sIf (fBool (fChain oLe oLe (fVar 7) (f2 oMul (fVar 1) (fVar 9)) (fVar 8))) (sApp 6 (fVar 10)) sNil)
  (sPar [7, 8, 9] (pE (f2 oMul (fVar 7) (f2 oSub (fC (.int 1000)) (fVar 3))) (pE (f2 oMul (fVar 8) (f2 oSub (fC (.int 1000)) (fVar 2))) (pE (f2 oMul (fVar 9) (fC (.int 1000))) pNil)))))
noncomputable def l2_cast_times : SF := (sFor (fRng1 (f2 oAdd (fC (.int 12)) (fC (.int 1)))) (gSet 10) b2_cast_times)
noncomputable def g_cast_times : SF := (sSeq (sDrop (fCall g_check_width 2 0 [] (fCons (fVar 0) (fCons (fC (.str (PySem.Str.ofString "mother"))) fNil))))
  (sSeq (sDrop (fCall g_check_width 2 0 [] (fCons (fVar 1) (fCons (fC (.str (PySem.Str.ofString "copy"))) fNil))))
  (sSeq l1_cast_times
  (sSeq (sIf (fBool (f2 oGt (fVar 2) (fVar 3))) sNever sNil)
  (sSeq (sAsgL 6 (fLst fNil))
  (sSeq (sPar [7, 8, 9] (pE (fVar 0) (pE (fVar 0) (pE (fC (.int 1)) pNil))))
  (sSeq l2_cast_times
  (sRet (fB oTuple (fCons (fVar 6) fNil))))))))))
abbrev s__law_casts_hold : Stmt := topS 39
abbrev N__law_casts_hold : List Str := [PySem.Str.ofString "state", PySem.Str.ofString "low", PySem.Str.ofString "high", PySem.Str.ofString "size", PySem.Str.ofString "sizes", PySem.Str.ofString "turn", PySem.Str.ofString "times", PySem.Str.ofString "own", PySem.Str.ofString "k", PySem.Str.ofString "part", PySem.Str.ofString "first", PySem.Str.ofString "second", PySem.Str.ofString "both", PySem.Str.ofString "one", PySem.Str.ofString "wide", PySem.Str.ofString "alike"]
theorem S__law_casts_hold : FnScope N__law_casts_hold [PySem.Str.ofString "state"] (defScope s__law_casts_hold) := ⟨rfl, rfl, rfl, by decide +kernel, rfl, by decide +kernel, by decide +kernel⟩
noncomputable def b1__law_casts_hold : SF := (sSeq (sAsg (gSet 9) (f2 oAdd (fVar 1) (fCall g__law_draw 2 1 [] (fCons (fVar 0) (fCons (f2 oAdd (f2 oSub (fVar 2) (fVar 1)) (fC (.int 1))) fNil)))))
  (sAsg (gSet 7) (f2 oSub (fVar 7) (f2 oDiv (f2 oMul (fVar 7) (fVar 9)) (fC (.int 1000))))))
noncomputable def l1__law_casts_hold : SF := (sFor (fRng1 (fVar 6)) (gSet 8) b1__law_casts_hold)
noncomputable def b2__law_casts_hold : SF := (sSeq (sAsg (gSet 6) (fCall g__law_draw 2 1 [] (fCons (fVar 0) (fCons (fC (.int 4)) fNil))))
  (sSeq (sAsg (gSet 7) (f2 oIx (fVar 4) (f1 oNeg (fC (.int 1)))))
  (sSeq l1__law_casts_hold
  (sApp 4 (fB oMax (fCons (fOfL (fLst (fCons (fC (.int 1)) (fCons (fVar 7) fNil)))) fNil))))))
noncomputable def l2__law_casts_hold : SF := (sFor (fRng1 (fC (.int 2))) (gSet 5) b2__law_casts_hold)
noncomputable def k1__law_casts_hold : LF := (fLc (fSeq (fVar 11)) (gSet 7) (fAnd (fBool (f2 oLe (f2 oAdd (fVar 13) (fVar 7)) (fC (.int 12)))) (fBool (f2 oNotIn (f2 oAdd (fVar 13) (fVar 7)) (fVar 12)))) (fVar 7) [7])
noncomputable def b3__law_casts_hold : SF := (sIf (fTru (fOfL k1__law_casts_hold)) (sRet (fC (.bool false))) sNil)
noncomputable def l3__law_casts_hold : SF := (sFor (fSeq (fVar 10)) (gSet 13) b3__law_casts_hold)
noncomputable def k2__law_casts_hold : LF := (fLc (fSeq (fVar 12)) (gSet 7) (fBool (f2 oNotIn (fVar 7) (fVar 14))) (fVar 7) [7])
noncomputable def g__law_casts_hold : SF := (sSeq (sAsg (gSet 1) (fCall g__law_draw 2 1 [] (fCons (fVar 0) (fCons (fC (.int 90)) fNil))))
  (sSeq (sPar [2, 3] (pE (f2 oAdd (fVar 1) (fCall g__law_draw 2 1 [] (fCons (fVar 0) (fCons (fC (.int 60)) fNil)))) (pE (f2 oAdd (fC (.int 400)) (fCall g__law_draw 2 1 [] (fCons (fVar 0) (fCons (fC (.int 2000)) fNil)))) pNil)))
  (sSeq (sAsgL 4 (fLst (fCons (fVar 3) fNil)))
  (sSeq l2__law_casts_hold
  (sSeq (sPar [10, 11, 12] (pE (fCall g_cast_times 4 7 [] (fCons (f2 oIx (fVar 4) (fC (.int 0))) (fCons (f2 oIx (fVar 4) (fC (.int 1))) (fCons (fVar 1) (fCons (fVar 2) fNil))))) (pE (fCall g_cast_times 4 7 [] (fCons (f2 oIx (fVar 4) (fC (.int 1))) (fCons (f2 oIx (fVar 4) (fC (.int 2))) (fCons (fVar 1) (fCons (fVar 2) fNil))))) (pE (fCall g_cast_times 4 7 [] (fCons (f2 oIx (fVar 4) (fC (.int 0))) (fCons (f2 oIx (fVar 4) (fC (.int 2))) (fCons (fVar 1) (fCons (fVar 2) fNil))))) pNil))))
  (sSeq l3__law_casts_hold
  (sSeq (sAsg (gSet 14) (fCall g_cast_times 4 7 [] (fCons (f2 oIx (fVar 4) (fC (.int 0))) (fCons (f2 oIx (fVar 4) (fC (.int 2))) (fCons (fB oMax (fCons (fOfL (fLst (fCons (fC (.int 0)) (fCons (f2 oSub (fVar 1) (fC (.int 5))) fNil)))) fNil)) (fCons (f2 oAdd (fVar 2) (fC (.int 5))) fNil))))))
  (sSeq (sIf (fOr (fTru (fOfL k2__law_casts_hold)) (fBool (f2 oNe (f2 oIn (fC (.int 0)) (fVar 12)) (f2 oEq (f2 oIx (fVar 4) (fC (.int 0))) (f2 oIx (fVar 4) (fC (.int 2))))))) (sRet (fC (.bool false))) sNil)
  (sSeq (sIf (fOr (fNot (fTru (fCall g__law_same 2 0 [] (fCons (fCall g_cast_times 4 7 [] (fCons (f2 oMul (fC (.int 7)) (f2 oIx (fVar 4) (fC (.int 0)))) (fCons (f2 oMul (fC (.int 7)) (f2 oIx (fVar 4) (fC (.int 2)))) (fCons (fVar 1) (fCons (fVar 2) fNil))))) (fCons (fVar 12) fNil))))) (fAnd (fBool (f2 oGt (fVar 1) (fC (.int 0)))) (fBool (f2 oNe (fCall g_cast_times 4 7 [] (fCons (f2 oIx (fVar 4) (fC (.int 2))) (fCons (f2 oAdd (f2 oIx (fVar 4) (fC (.int 0))) (fC (.int 1))) (fCons (fVar 1) (fCons (fVar 2) fNil))))) (fTup fNil))))) (sRet (fC (.bool false))) sNil)
  (sSeq (sAsg (gSet 15) (fCall g_cast_times 4 7 [] (fCons (fVar 3) (fCons (fVar 3) (fCons (fC (.int 0)) (fCons (fVar 2) fNil))))))
  (sRet (fAndT (fCall g__law_same 2 0 [] (fCons (fVar 15) (fCons (fB oTuple (fCons (fOfL (fLr1 (fC (.int 13)))) fNil)) fNil))) (fOrT (f2 oEq (fVar 1) (fC (.int 0))) (f2 oEq (fCall g_cast_times 4 7 [] (fCons (fVar 3) (fCons (fVar 3) (fCons (fVar 1) (fCons (fVar 2) fNil))))) (fTup (fCons (fC (.int 0)) fNil))))))))))))))))
abbrev s__law_less : Stmt := topS 40
abbrev N__law_less : List Str := [PySem.Str.ofString "one", PySem.Str.ofString "other"]
theorem S__law_less : FnScope N__law_less [PySem.Str.ofString "one", PySem.Str.ofString "other"] (defScope s__law_less) := ⟨rfl, rfl, rfl, by decide +kernel, rfl, by decide +kernel, by decide +kernel⟩
noncomputable def g__law_less : SF := (sRet (f2 oLt (f2 oMul (f2 oIx (fVar 0) (fC (.int 0))) (f2 oIx (fVar 1) (fC (.int 1)))) (f2 oMul (f2 oIx (fVar 1) (fC (.int 0))) (f2 oIx (fVar 0) (fC (.int 1))))))
abbrev s_check_dated : Stmt := topS 27
abbrev N_check_dated : List Str := [PySem.Str.ofString "dated", PySem.Str.ofString "row", PySem.Str.ofString "own"]
theorem S_check_dated : FnScope N_check_dated [PySem.Str.ofString "dated"] (defScope s_check_dated) := ⟨rfl, rfl, rfl, by decide +kernel, rfl, by decide +kernel, by decide +kernel⟩
noncomputable def k1_check_dated : LF := (fLc (fSeq (fVar 1)) (gSet 2) fYes (fCall g_is_amount 1 0 [] (fCons (fVar 2) fNil)) [2])
noncomputable def b1_check_dated : SF := (sSeq (sIf (fOr (fNot (fTru (f1 (isKind "tuple") (fVar 1)))) (fOr (fBool (f2 oNe (fB oLen (fCons (fVar 1) fNil)) (fC (.int 3)))) (fNot (fTru (fB oAll (fCons (fOfL k1_check_dated) fNil)))))) sNever sNil)
  (sIf (fOr (fBool (f2 oGt (f2 oIx (fVar 1) (fC (.int 0))) (f2 oIx (fVar 1) (fC (.int 1))))) (fNot (fBool (fChain oLe oLe (fC (.int 1)) (f2 oIx (fVar 1) (fC (.int 2))) (fC (.int 5000)))))) sNever sNil))
noncomputable def l1_check_dated : SF := (sFor (fSeq (fVar 0)) (gSet 1) b1_check_dated)
noncomputable def g_check_dated : SF := (sSeq (sIf (fOr (fNot (fTru (f1 (isKind "tuple") (fVar 0)))) (fNot (fBool (fChain oLe oLe (fC (.int 1)) (fB oLen (fCons (fVar 0) fNil)) (fC (.int 60)))))) sNever sNil)
  l1_check_dated)
abbrev s_less : Stmt := topS 28
abbrev N_less : List Str := [PySem.Str.ofString "one", PySem.Str.ofString "other"]
theorem S_less : FnScope N_less [PySem.Str.ofString "one", PySem.Str.ofString "other"] (defScope s_less) := ⟨rfl, rfl, rfl, by decide +kernel, rfl, by decide +kernel, by decide +kernel⟩
noncomputable def g_less : SF := (sRet (f2 oLt (f2 oMul (f2 oIx (fVar 0) (fC (.int 0))) (f2 oIx (fVar 1) (fC (.int 1)))) (f2 oMul (f2 oIx (fVar 1) (fC (.int 0))) (f2 oIx (fVar 0) (fC (.int 1))))))
abbrev s_quotient : Stmt := topS 29
abbrev N_quotient : List Str := [PySem.Str.ofString "up", PySem.Str.ofString "down", PySem.Str.ofString "one", PySem.Str.ofString "other"]
theorem S_quotient : FnScope N_quotient [PySem.Str.ofString "up", PySem.Str.ofString "down"] (defScope s_quotient) := ⟨rfl, rfl, rfl, by decide +kernel, rfl, by decide +kernel, by decide +kernel⟩
noncomputable def b1_quotient : SF := (sPar [2, 3] (pE (fVar 3) (pE (f2 oMod (fVar 2) (fVar 3)) pNil)))
noncomputable def l1_quotient : SF := (sWhile (fTru (fVar 3)) b1_quotient)
noncomputable def g_quotient : SF := (sSeq (sPar [2, 3] (pE (fVar 0) (pE (fVar 1) pNil)))
  (sSeq l1_quotient
  (sRet (fTup (fCons (f2 oDiv (fVar 0) (fVar 2)) (fCons (f2 oDiv (fVar 1) (fVar 2)) fNil))))))
abbrev s_judge_rate : Stmt := topS 30
abbrev N_judge_rate : List Str := [PySem.Str.ofString "dated", PySem.Str.ofString "one", PySem.Str.ofString "other", PySem.Str.ofString "at", PySem.Str.ofString "low", PySem.Str.ofString "high", PySem.Str.ofString "years"]
theorem S_judge_rate : FnScope N_judge_rate [PySem.Str.ofString "dated"] (defScope s_judge_rate) := ⟨rfl, rfl, rfl, by decide +kernel, rfl, by decide +kernel, by decide +kernel⟩
noncomputable def b1_judge_rate : SF := (sSeq (sIf (fTru (fCall g_less 2 0 [] (fCons (fTup (fCons (fVar 5) (fCons (fVar 6) fNil))) (fCons (fSl (f2 oIx (fVar 0) (fVar 1)) (fPart (fC (.int 1))) fNoPart) fNil)))) (sAsg (gSet 1) (fVar 3)) sNil)
  (sIf (fTru (fCall g_less 2 0 [] (fCons (fTup (fCons (f2 oIx (f2 oIx (fVar 0) (fVar 2)) (fC (.int 0))) (fCons (f2 oIx (f2 oIx (fVar 0) (fVar 2)) (fC (.int 2))) fNil))) (fCons (fTup (fCons (fVar 4) (fCons (fVar 6) fNil))) fNil)))) (sAsg (gSet 2) (fVar 3)) sNil))
noncomputable def l1_judge_rate : SF := (sFor (fEnum (fVar 0)) (gTup' (gCons' (gSet 3) (gCons' (gTup' (gCons' (gSet 4) (gCons' (gSet 5) (gCons' (gSet 6) gNil')))) gNil'))) b1_judge_rate)
noncomputable def g_judge_rate : SF := (sSeq (sDrop (fCall g_check_dated 1 2 [] (fCons (fVar 0) fNil)))
  (sSeq (sPar [1, 2] (pE (fC (.int 0)) (pE (fC (.int 0)) pNil)))
  (sSeq l1_judge_rate
  (sSeq (sIf (fTru (fCall g_less 2 0 [] (fCons (fSl (f2 oIx (fVar 0) (fVar 1)) (fPart (fC (.int 1))) fNoPart) (fCons (fTup (fCons (f2 oIx (f2 oIx (fVar 0) (fVar 2)) (fC (.int 0))) (fCons (f2 oIx (f2 oIx (fVar 0) (fVar 2)) (fC (.int 2))) fNil))) fNil)))) (sRet (fTup (fCons (fC (.str (PySem.Str.ofString "apart"))) (fCons (fVar 1) (fCons (fVar 2) fNil))))) sNil)
  (sRet (fTup (fCons (fC (.str (PySem.Str.ofString "rate"))) (fCons (fCall g_quotient 2 2 [] (fCons (f2 oIx (f2 oIx (fVar 0) (fVar 2)) (fC (.int 0))) (fCons (f2 oIx (f2 oIx (fVar 0) (fVar 2)) (fC (.int 2))) fNil))) (fCons (fCall g_quotient 2 2 [] (fCons (f2 oIx (f2 oIx (fVar 0) (fVar 1)) (fC (.int 1))) (fCons (f2 oIx (f2 oIx (fVar 0) (fVar 1)) (fC (.int 2))) fNil))) fNil)))))))))
abbrev s_x_accept_rate : Stmt := topS 31
abbrev N_x_accept_rate : List Str := [PySem.Str.ofString "dated", PySem.Str.ofString "rate", PySem.Str.ofString "own", PySem.Str.ofString "low", PySem.Str.ofString "high", PySem.Str.ofString "years"]
theorem S_x_accept_rate : FnScope N_x_accept_rate [PySem.Str.ofString "dated", PySem.Str.ofString "rate"] (defScope s_x_accept_rate) := ⟨rfl, rfl, rfl, by decide +kernel, rfl, by decide +kernel, by decide +kernel⟩
noncomputable def k1_x_accept_rate : LF := (fLc (fSeq (fVar 1)) (gSet 2) fYes (fCall g_is_integer 1 0 [] (fCons (fVar 2) fNil)) [2])
noncomputable def b1_x_accept_rate : SF := (sIf (fOr (fTru (fCall g_less 2 0 [] (fCons (fVar 1) (fCons (fTup (fCons (fVar 3) (fCons (fVar 5) fNil))) fNil)))) (fTru (fCall g_less 2 0 [] (fCons (fTup (fCons (fVar 4) (fCons (fVar 5) fNil))) (fCons (fVar 1) fNil))))) sRaise sNil)
noncomputable def l1_x_accept_rate : SF := (sFor (fSeq (fVar 0)) (gTup' (gCons' (gSet 3) (gCons' (gSet 4) (gCons' (gSet 5) gNil')))) b1_x_accept_rate)
noncomputable def g_x_accept_rate : SF := (sSeq (sDrop (fCall g_check_dated 1 2 [] (fCons (fVar 0) fNil)))
  (sSeq (sIf (fOr (fNot (fTru (f1 (isKind "tuple") (fVar 1)))) (fOr (fBool (f2 oNe (fB oLen (fCons (fVar 1) fNil)) (fC (.int 2)))) (fNot (fTru (fB oAll (fCons (fOfL k1_x_accept_rate) fNil)))))) sRaise sNil)
  (sSeq (sIf (fOr (fBool (f2 oLt (f2 oIx (fVar 1) (fC (.int 0))) (fC (.int 0)))) (fOr (fBool (f2 oLt (f2 oIx (fVar 1) (fC (.int 1))) (fC (.int 1)))) (fBool (f2 oNe (fCall g_quotient 2 2 [] (fCons (f2 oIx (fVar 1) (fC (.int 0))) (fCons (f2 oIx (fVar 1) (fC (.int 1))) fNil))) (fVar 1))))) sRaise sNil)
  l1_x_accept_rate)))
abbrev s__law_rates_hold : Stmt := topS 41
abbrev N__law_rates_hold : List Str := [PySem.Str.ofString "state", PySem.Str.ofString "heaps", PySem.Str.ofString "heap", PySem.Str.ofString "rows", PySem.Str.ofString "k", PySem.Str.ofString "years", PySem.Str.ofString "least", PySem.Str.ofString "own", PySem.Str.ofString "told", PySem.Str.ofString "whole", PySem.Str.ofString "most"]
theorem S__law_rates_hold : FnScope N__law_rates_hold [PySem.Str.ofString "state"] (defScope s__law_rates_hold) := ⟨rfl, rfl, rfl, by decide +kernel, rfl, by decide +kernel, by decide +kernel⟩
noncomputable def b1__law_rates_hold : SF := (sSeq (sAsg (gSet 5) (f2 oAdd (fC (.int 1)) (fCall g__law_draw 2 1 [] (fCons (fVar 0) (fCons (fC (.int 9)) fNil)))))
  (sSeq (sAsg (gSet 6) (f2 oSub (f2 oMul (fVar 5) (f2 oAdd (fC (.int 2)) (fCall g__law_draw 2 1 [] (fCons (fVar 0) (fCons (fC (.int 3)) fNil))))) (fCall g__law_draw 2 1 [] (fCons (fVar 0) (fCons (fC (.int 8)) fNil)))))
  (sApp 3 (fTup (fCons (fB oMax (fCons (fOfL (fLst (fCons (fC (.int 0)) (fCons (fVar 6) fNil)))) fNil)) (fCons (f2 oAdd (fB oMax (fCons (fOfL (fLst (fCons (fC (.int 0)) (fCons (fVar 6) fNil)))) fNil)) (fCall g__law_draw 2 1 [] (fCons (fVar 0) (fCons (f2 oAdd (f2 oMul (fC (.int 2)) (fVar 5)) (fC (.int 9))) fNil)))) (fCons (fVar 5) fNil)))))))
noncomputable def l1__law_rates_hold : SF := (sFor (fRng1 (f2 oAdd (fC (.int 1)) (fCall g__law_draw 2 1 [] (fCons (fVar 0) (fCons (fC (.int 3)) fNil))))) (gSet 4) b1__law_rates_hold)
noncomputable def b2__law_rates_hold : SF := (sSeq (sAsgL 3 (fLst fNil))
  (sSeq l1__law_rates_hold
  (sApp 1 (fB oTuple (fCons (fVar 3) fNil)))))
noncomputable def l2__law_rates_hold : SF := (sFor (fRng1 (fC (.int 2))) (gSet 2) b2__law_rates_hold)
noncomputable def k1__law_rates_hold : LF := (fLc (fSeq (fFrz 1)) (gSet 7) fYes (fCall g_judge_rate 1 6 [] (fCons (fVar 7) fNil)) [7])
noncomputable def k2__law_rates_hold : LF := (fLc (fSeq (fVar 8)) (gSet 7) fYes (f2 oIx (fVar 7) (fC (.int 0))) [7])
noncomputable def k3__law_rates_hold : LF := (fLc (fSeq (fOfL (fLst (fCons (fVar 10) (fCons (fVar 6) fNil))))) (gSet 7) (fNot (fTru (fTk g_x_accept_rate 2 4 (fOfL (fLst (fCons (f2 oAdd (f2 oIx (fVar 1) (fC (.int 0))) (f2 oIx (fVar 1) (fC (.int 1)))) (fCons (fVar 7) fNil))))))) (fVar 7) [7])
noncomputable def g__law_rates_hold : SF := (sSeq (sAsgL 1 (fLst fNil))
  (sSeq l2__law_rates_hold
  (sSeq (sPar [8, 9] (pE (fOfL k1__law_rates_hold) (pE (fCall g_judge_rate 1 6 [] (fCons (f2 oAdd (f2 oIx (fVar 1) (fC (.int 0))) (f2 oIx (fVar 1) (fC (.int 1)))) fNil)) pNil)))
  (sSeq (sIf (fBool (f2 oIn (fC (.str (PySem.Str.ofString "apart"))) (fOfL k2__law_rates_hold))) (sRet (f2 oEq (f2 oIx (fVar 9) (fC (.int 0))) (fC (.str (PySem.Str.ofString "apart"))))) sNil)
  (sSeq (sPar [10, 6] (pE (f2 oIx (f2 oIx (fVar 8) (fC (.int 0))) (fC (.int 1))) (pE (f2 oIx (f2 oIx (fVar 8) (fC (.int 0))) (fC (.int 2))) pNil)))
  (sSeq (sPar [10, 6] (pE (fIfE (fTru (fCall g__law_less 2 0 [] (fCons (fVar 10) (fCons (f2 oIx (f2 oIx (fVar 8) (fC (.int 1))) (fC (.int 1))) fNil)))) (f2 oIx (f2 oIx (fVar 8) (fC (.int 1))) (fC (.int 1))) (fVar 10)) (pE (fIfE (fTru (fCall g__law_less 2 0 [] (fCons (f2 oIx (f2 oIx (fVar 8) (fC (.int 1))) (fC (.int 2))) (fCons (fVar 6) fNil)))) (f2 oIx (f2 oIx (fVar 8) (fC (.int 1))) (fC (.int 2))) (fVar 6)) pNil)))
  (sSeq (sIf (fTru (fCall g__law_less 2 0 [] (fCons (fVar 6) (fCons (fVar 10) fNil)))) (sRet (fAndT (f2 oEq (f2 oIx (fVar 9) (fC (.int 0))) (fC (.str (PySem.Str.ofString "apart")))) (f2 oNe (f2 oIx (fVar 9) (fC (.int 1))) (f2 oIx (fVar 9) (fC (.int 2)))))) sNil)
  (sSeq (sIf (fBool (f2 oNe (fVar 9) (fTup (fCons (fC (.str (PySem.Str.ofString "rate"))) (fCons (fVar 10) (fCons (fVar 6) fNil)))))) (sRet (fC (.bool false))) sNil)
  (sRet (f2 oEq (fOfL k3__law_rates_hold) (fOfL (fLst fNil))))))))))))
abbrev s_law : Stmt := topS 42
abbrev N_law : List Str := [PySem.Str.ofString "script", PySem.Str.ofString "state", PySem.Str.ofString "turn"]
theorem S_law : FnScope N_law [PySem.Str.ofString "script"] (defScope s_law) := ⟨rfl, rfl, rfl, by decide +kernel, rfl, by decide +kernel, by decide +kernel⟩
noncomputable def b1_law : SF := (sIf (fOr (fNot (fTru (fCall g__law_worn_holds 1 19 [] (fCons (fVar 1) fNil)))) (fOr (fNot (fTru (fCall g__law_casts_hold 1 15 [] (fCons (fVar 1) fNil)))) (fNot (fTru (fCall g__law_rates_hold 1 10 [] (fCons (fVar 1) fNil)))))) (sRet (fC (.bool false))) sNil)
noncomputable def l1_law : SF := (sFor (fRng1 (fC (.int 3))) (gSet 2) b1_law)
noncomputable def g_law : SF := (sSeq (sAsgL 1 (fCallL h__law_start 1 2 (fCons (fVar 0) fNil)))
  (sSeq l1_law
  (sRet (fC (.bool true)))))
abbrev s_PaperError : Stmt := topS 3
structure Top (P : Program) (K : PySem.W.Frag) (mg : Str → Option Value) : Prop where
  px : ∃ C fI, PySem.PxX.PxTxt P K mg "PaperError" C fI
  d__law_start : ∃ f fd, Df K mg (PySem.Str.ofString "_law_start") s__law_start [] f fd
  d__law_draw : ∃ f fd, Df K mg (PySem.Str.ofString "_law_draw") s__law_draw [] f fd
  d_is_integer : ∃ f fd, Df K mg (PySem.Str.ofString "is_integer") s_is_integer [] f fd
  d_is_amount : ∃ f fd, Df K mg (PySem.Str.ofString "is_amount") s_is_amount [] f fd
  d_check_standard : ∃ f fd, Df K mg (PySem.Str.ofString "check_standard") s_check_standard [] f fd
  d_check_years : ∃ f fd, Df K mg (PySem.Str.ofString "check_years") s_check_years [] f fd
  d_can_weigh : ∃ f fd, Df K mg (PySem.Str.ofString "can_weigh") s_can_weigh [] f fd
  d_check_weights : ∃ f fd, Df K mg (PySem.Str.ofString "check_weights") s_check_weights [] f fd
  d_span_of : ∃ f fd, Df K mg (PySem.Str.ofString "span_of") s_span_of [] f fd
  d_surely_older : ∃ f fd, Df K mg (PySem.Str.ofString "surely_older") s_surely_older [] f fd
  d_check_weight : ∃ f fd, Df K mg (PySem.Str.ofString "check_weight") s_check_weight [] f fd
  d_years_for : ∃ f fd, Df K mg (PySem.Str.ofString "years_for") s_years_for [] f fd
  d_judge_common : ∃ f fd, Df K mg (PySem.Str.ofString "judge_common") s_judge_common [] f fd
  d_struck_between : ∃ f fd, Df K mg (PySem.Str.ofString "struck_between") s_struck_between [] f fd
  d__law_same : ∃ f fd, Df K mg (PySem.Str.ofString "_law_same") s__law_same [] f fd
  d__law_is_taken : ∃ f fd, Df K mg (PySem.Str.ofString "_law_is_taken") s__law_is_taken [] f fd
  d_x_accept_years : ∃ f fd, Df K mg (PySem.Str.ofString "accept_years") s_x_accept_years [] f fd
  d__law_worn_holds : ∃ f fd, Df K mg (PySem.Str.ofString "_law_worn_holds") s__law_worn_holds [] f fd
  d_check_width : ∃ f fd, Df K mg (PySem.Str.ofString "check_width") s_check_width [] f fd
  d_cast_times : ∃ f fd, Df K mg (PySem.Str.ofString "cast_times") s_cast_times [] f fd
  d__law_casts_hold : ∃ f fd, Df K mg (PySem.Str.ofString "_law_casts_hold") s__law_casts_hold [] f fd
  d__law_less : ∃ f fd, Df K mg (PySem.Str.ofString "_law_less") s__law_less [] f fd
  d_check_dated : ∃ f fd, Df K mg (PySem.Str.ofString "check_dated") s_check_dated [] f fd
  d_less : ∃ f fd, Df K mg (PySem.Str.ofString "less") s_less [] f fd
  d_quotient : ∃ f fd, Df K mg (PySem.Str.ofString "quotient") s_quotient [] f fd
  d_judge_rate : ∃ f fd, Df K mg (PySem.Str.ofString "judge_rate") s_judge_rate [] f fd
  d_x_accept_rate : ∃ f fd, Df K mg (PySem.Str.ofString "accept_rate") s_x_accept_rate [] f fd
  d__law_rates_hold : ∃ f fd, Df K mg (PySem.Str.ofString "_law_rates_hold") s__law_rates_hold [] f fd
  d_law : ∃ f fd, Df K mg (PySem.Str.ofString "law") s_law [] f fd
  b_abs : mg (PySem.Str.ofString "abs") = none
  b_all : mg (PySem.Str.ofString "all") = none
  b_bool : mg (PySem.Str.ofString "bool") = none
  b_enumerate : mg (PySem.Str.ofString "enumerate") = none
  b_int : mg (PySem.Str.ofString "int") = none
  b_isinstance : mg (PySem.Str.ofString "isinstance") = none
  b_len : mg (PySem.Str.ofString "len") = none
  b_list : mg (PySem.Str.ofString "list") = none
  b_max : mg (PySem.Str.ofString "max") = none
  b_min : mg (PySem.Str.ofString "min") = none
  b_range : mg (PySem.Str.ofString "range") = none
  b_repr : mg (PySem.Str.ofString "repr") = none
  b_tuple : mg (PySem.Str.ofString "tuple") = none
  k_MAX_COINS : ∃ t, mg (PySem.Str.ofString "MAX_COINS") = some (.int 60 t)
  k_MAX_FLAWS : ∃ t, mg (PySem.Str.ofString "MAX_FLAWS") = some (.int 12 t)
  k_MAX_SIZE : ∃ t, mg (PySem.Str.ofString "MAX_SIZE") = some (.int 1000000000000 t)
  k_MAX_YEARS : ∃ t, mg (PySem.Str.ofString "MAX_YEARS") = some (.int 5000 t)
  k_WHOLE : ∃ t, mg (PySem.Str.ofString "WHOLE") = some (.int 1000 t)
section
variable {P : Program} {w : World} {K : PySem.W.Frag} {mg : Str → Option Value} {base : Heap}
theorem f__law_start {f : Addr} {fd : FuncData} (T : Top P K mg) (D : Df K mg (PySem.Str.ofString "_law_start") s__law_start [] f fd) : FnG P w K mg base 1 f fd [PySem.Str.ofString "script"] (spFL K h__law_start 1 2) := by
  refine okL_def (n := 2) D.fn S__law_start rfl fun cdv A outer s H E hr hgd => ?_
  have hu : (A.deeper (envOfC (PySem.Str.ofString "_law_start") (defScope s__law_start) s.heap.objs.size f cdv)).units + 200 < cLine := by have := hr.un; omega
  exact (ssl_cons (ss_set (i := 1) S__law_start.nd se_int)
    (ssl_cons (ss_for PassesOwn.never rfl (si_seq (se_slice (se_var 0) so_none (so_some se_int))) (sg_name (i := 2) S__law_start.nd) (ss_one (ss_set (i := 1) S__law_start.nd (se_op op_addA s_add (se_op op_mod s_mod (se_callTy call_int1 s_int (by rfl) T.b_int PyProof.Rows.boot_int (sa_cons (se_op op_addA s_add (se_op op_mulA s_mul (se_var 1) se_int) (se_var 2)) sa_nil)) se_int) se_int))))
    (ssl_ret (sl_lst (sa_cons (se_ofL (sl_lc (own := [(PySem.Str.ofString "cell", 2)]) rfl S__law_start.nd (si_seq (se_slice (se_var 0) so_none (so_some se_int))) (blkOk_by (own := [(PySem.Str.ofString "cell", 2)]) (N := N__law_start) (sc := defScope s__law_start) (by decide +kernel)) (fun _ _ _ _ _ => (sg_name (i := 2) S__law_start.nd)) (fun _ _ _ _ _ => sts_nil) (fun _ _ _ _ _ => (se_callB call_abs s_abs (by rfl) T.b_abs PyProof.Rows.boot_abs (sa_cons (se_callTy call_int1 s_int (by rfl) T.b_int PyProof.Rows.boot_int (sa_cons (se_var 2) sa_nil)) sa_nil))) (by decide))) (sa_cons se_int (sa_cons se_int (sa_cons se_int (sa_cons (se_var 1) (sa_cons se_int sa_nil))))))))))
theorem c__law_start (T : Top P K mg) : CalL P w K mg base 1 (PySem.Str.ofString "_law_start") h__law_start 1 2 := by
  obtain ⟨f, fd, D⟩ := T.d__law_start
  exact calL_of D (f__law_start T D) rfl fun _ _ _ _ _ _ us hl => match us, hl with | [_], _ => rfl
theorem f__law_draw {f : Addr} {fd : FuncData} (T : Top P K mg) (D : Df K mg (PySem.Str.ofString "_law_draw") s__law_draw [] f fd) : FnG P w K mg base 1 f fd [PySem.Str.ofString "state", PySem.Str.ofString "many"] (spF K g__law_draw 2 1) := by
  refine okD_def (n := 1) D.fn S__law_draw rfl fun cdv A outer s H E hr hgd => ?_
  have hu : (A.deeper (envOfC (PySem.Str.ofString "_law_draw") (defScope s__law_draw) s.heap.objs.size f cdv)).units + 200 < cLine := by have := hr.un; omega
  exact (ss_cons (ss_if (st_w (st_and (st_cmp (op_eqA hu) s_eq (se_ix (se_var 0) se_int (fun _ _ => rfl)) se_int (by rfl)) (st_and1 (st_cmp (op_ltA hu) s_lt (se_ix (se_var 0) se_int (fun _ _ => rfl)) (se_callB call_len s_len (by rfl) T.b_len boot_len (sa_cons (se_ix (se_var 0) se_int (fun _ _ => rfl)) sa_nil)) (by rfl))))) (ss_one (ss_asgH (se_tup (sa_cons (se_ix (se_ix (se_var 0) se_int (fun _ _ => rfl)) (se_ix (se_var 0) se_int (fun _ _ => rfl)) (fun _ _ => rfl)) (sa_cons se_int (sa_cons (se_op op_addA s_add (se_ix (se_var 0) se_int (fun _ _ => rfl)) se_int) sa_nil)))) (sh_tup rfl (shs_cons (sh_ix 0 se_int) (shs_cons (sh_ix 0 se_int) (shs_cons (sh_ix 0 se_int) shs_nil))) (hl := (len_gCons (len_gCons (len_gCons len_gNil))))))) ss_nil)
    (ss_cons (ss_if (st_cmp (op_gtA hu) s_gt (se_ix (se_var 0) se_int (fun _ _ => rfl)) se_int (by rfl)) (ss_cons (ss_set (i := 2) S__law_draw.nd (se_op op_mod s_mod (se_callTy call_int1 s_int (by rfl) T.b_int PyProof.Rows.boot_int (sa_cons (se_ix (se_var 0) se_int (fun _ _ => rfl)) sa_nil)) (se_var 1)))
    (ss_cons (ss_setIx 0 se_int (se_op op_fdivW s_div (se_ix (se_var 0) se_int (fun _ _ => rfl)) (se_var 1)))
    (ss_cons (ss_setIx 0 se_int (se_ifE (st_cmp (op_gtA hu) s_gt (se_ix (se_var 0) se_int (fun _ _ => rfl)) se_int (by rfl)) (se_op op_sub s_sub (se_ix (se_var 0) se_int (fun _ _ => rfl)) se_int) se_int))
    (ss_one (ss_ret (se_var 2)))))) ss_nil)
    (ss_cons (ss_setIx 0 se_int (se_op op_addA s_add (se_ix (se_var 0) se_int (fun _ _ => rfl)) se_int))
    (ss_cons (ss_setIx 0 se_int (se_op op_mod s_mod (se_callTy call_int1 s_int (by rfl) T.b_int PyProof.Rows.boot_int (sa_cons (se_op op_addA s_add (se_op op_addA s_add (se_op op_mulA s_mul (se_ix (se_var 0) se_int (fun _ _ => rfl)) se_int) (se_op op_mulA s_mul (se_op op_mulA s_mul (se_ix (se_var 0) se_int (fun _ _ => rfl)) (se_ix (se_var 0) se_int (fun _ _ => rfl))) se_int)) se_int) sa_nil)) se_int))
    (ss_one (ss_ret (se_op op_mod s_mod (se_callTy call_int1 s_int (by rfl) T.b_int PyProof.Rows.boot_int (sa_cons (se_op op_fdivW s_div (se_ix (se_var 0) se_int (fun _ _ => rfl)) se_int) sa_nil)) (se_var 1))))))))
theorem c__law_draw (T : Top P K mg) : Cal P w K mg base 1 (PySem.Str.ofString "_law_draw") g__law_draw 2 1 [] := by
  obtain ⟨f, fd, D⟩ := T.d__law_draw
  exact cal_of D (f__law_draw T D) rfl fun _ _ _ _ _ _ us hl => match us, hl with | [_, _], _ => rfl
theorem f_is_integer {f : Addr} {fd : FuncData} (T : Top P K mg) (D : Df K mg (PySem.Str.ofString "is_integer") s_is_integer [] f fd) : FnG P w K mg base 1 f fd [PySem.Str.ofString "value"] (spF K g_is_integer 1 0) := by
  refine okD_def (n := 0) D.fn S_is_integer rfl fun cdv A outer s H E hr hgd => ?_
  have hu : (A.deeper (envOfC (PySem.Str.ofString "is_integer") (defScope s_is_integer) s.heap.objs.size f cdv)).units + 200 < cLine := by have := hr.un; omega
  exact (ss_one (ss_ret (se_andT (se_isi (se_var 0) (by rfl) T.b_isinstance PyProof.Rows.boot_isinstance (by rfl) T.b_int PyProof.Rows.boot_int) (se_one (se_notT (se_isi (se_var 0) (by rfl) T.b_isinstance PyProof.Rows.boot_isinstance (by rfl) T.b_bool PyProof.Rows.boot_bool))))))
theorem c_is_integer (T : Top P K mg) : Cal P w K mg base 1 (PySem.Str.ofString "is_integer") g_is_integer 1 0 [] := by
  obtain ⟨f, fd, D⟩ := T.d_is_integer
  exact cal_of D (f_is_integer T D) rfl fun _ _ _ _ _ _ us hl => match us, hl with | [_], _ => rfl
theorem f_is_amount {f : Addr} {fd : FuncData} (T : Top P K mg) (D : Df K mg (PySem.Str.ofString "is_amount") s_is_amount [] f fd) : FnG P w K mg base 2 f fd [PySem.Str.ofString "value"] (spF K g_is_amount 1 0) := by
  obtain ⟨t_MAX_SIZE, m_MAX_SIZE⟩ := T.k_MAX_SIZE
  refine okD_def (n := 0) D.fn S_is_amount rfl fun cdv A outer s H E hr hgd => ?_
  have hu : (A.deeper (envOfC (PySem.Str.ofString "is_amount") (defScope s_is_amount) s.heap.objs.size f cdv)).units + 200 < cLine := by have := hr.un; omega
  exact (ss_one (ss_ret (se_andT (se_c (c_is_integer T) hr (by decide) hgd (by rfl) (sa_cons (se_var 0) sa_nil)) (se_one (se_chain (op_leA hu) (op_leA hu) s_le s_le se_int (se_var 0) (se_globI (by rfl) m_MAX_SIZE))))))
theorem c_is_amount (T : Top P K mg) : Cal P w K mg base 2 (PySem.Str.ofString "is_amount") g_is_amount 1 0 [] := by
  obtain ⟨f, fd, D⟩ := T.d_is_amount
  exact cal_of D (f_is_amount T D) rfl fun _ _ _ _ _ _ us hl => match us, hl with | [_], _ => rfl
theorem f_check_standard {f : Addr} {fd : FuncData} (T : Top P K mg) (D : Df K mg (PySem.Str.ofString "check_standard") s_check_standard [] f fd) : FnG P w K mg base 3 f fd [PySem.Str.ofString "standard"] (spF K g_check_standard 1 1) := by
  refine okD_def (n := 1) D.fn S_check_standard rfl fun cdv A outer s H E hr hgd => ?_
  have hu : (A.deeper (envOfC (PySem.Str.ofString "check_standard") (defScope s_check_standard) s.heap.objs.size f cdv)).units + 200 < cLine := by have := hr.un; omega
  exact (ss_cons (ss_if (st_w (st_or (st_not (st_tru (se_isi (se_var 0) (by rfl) T.b_isinstance PyProof.Rows.boot_isinstance (by rfl) T.b_tuple PyProof.Rows.boot_tuple))) (st_or (st_cmp (op_neA hu) s_ne (se_callB call_len s_len (by rfl) T.b_len boot_len (sa_cons (se_var 0) sa_nil)) se_int (by rfl)) (st_or1 (st_not (st_tru (se_callB (cr_all rfl) s_all (by rfl) T.b_all PyProof.Rows.boot_all (sa_cons (se_ofL (sl_lc (own := [(PySem.Str.ofString "own", 1)]) rfl S_check_standard.nd (si_seq (se_var 0)) (blkOk_by (own := [(PySem.Str.ofString "own", 1)]) (N := N_check_standard) (sc := defScope s_check_standard) (by decide +kernel)) (fun _ _ _ _ _ => (sg_name (i := 1) S_check_standard.nd)) (fun _ _ _ _ _ => sts_nil) (fun _ _ _ _ _ => (se_c (c_is_amount T) hr (by decide) hgd (by rfl) (sa_cons (se_var 1) sa_nil))) (by decide))) sa_nil)))))))) (ss_one ss_never) ss_nil)
    (ss_one (ss_if (st_w (st_or (st_not (st_chain (op_leA hu) (op_leA hu) s_le s_le se_int (se_ix (se_var 0) se_int (fun _ _ => rfl)) (se_ix (se_var 0) se_int (fun _ _ => rfl)))) (st_or1 (st_not (st_cmp (op_leA hu) s_le (se_ix (se_var 0) se_int (fun _ _ => rfl)) (se_ix (se_var 0) se_int (fun _ _ => rfl)) (by rfl)))))) (ss_one ss_never) ss_nil)))
theorem c_check_standard (T : Top P K mg) : Cal P w K mg base 3 (PySem.Str.ofString "check_standard") g_check_standard 1 1 [] := by
  obtain ⟨f, fd, D⟩ := T.d_check_standard
  exact cal_of D (f_check_standard T D) rfl fun _ _ _ _ _ _ us hl => match us, hl with | [_], _ => rfl
theorem f_check_years {f : Addr} {fd : FuncData} (T : Top P K mg) (D : Df K mg (PySem.Str.ofString "check_years") s_check_years [] f fd) : FnG P w K mg base 2 f fd [PySem.Str.ofString "years"] (spF K g_check_years 1 0) := by
  obtain ⟨t_MAX_YEARS, m_MAX_YEARS⟩ := T.k_MAX_YEARS
  refine okD_def (n := 0) D.fn S_check_years rfl fun cdv A outer s H E hr hgd => ?_
  have hu : (A.deeper (envOfC (PySem.Str.ofString "check_years") (defScope s_check_years) s.heap.objs.size f cdv)).units + 200 < cLine := by have := hr.un; omega
  exact (ss_one (ss_if (st_w (st_or (st_not (st_tru (se_c (c_is_integer T) hr (by decide) hgd (by rfl) (sa_cons (se_var 0) sa_nil)))) (st_or1 (st_not (st_chain (op_leA hu) (op_leA hu) s_le s_le se_int (se_var 0) (se_globI (by rfl) m_MAX_YEARS)))))) (ss_one ss_never) ss_nil))
theorem c_check_years (T : Top P K mg) : Cal P w K mg base 2 (PySem.Str.ofString "check_years") g_check_years 1 0 [] := by
  obtain ⟨f, fd, D⟩ := T.d_check_years
  exact cal_of D (f_check_years T D) rfl fun _ _ _ _ _ _ us hl => match us, hl with | [_], _ => rfl
theorem f_can_weigh {f : Addr} {fd : FuncData} (T : Top P K mg) (D : Df K mg (PySem.Str.ofString "can_weigh") s_can_weigh [] f fd) : FnG P w K mg base 4 f fd [PySem.Str.ofString "standard", PySem.Str.ofString "years"] (spF K g_can_weigh 2 4) := by
  refine okD_def (n := 4) D.fn S_can_weigh rfl fun cdv A outer s H E hr hgd => ?_
  have hu : (A.deeper (envOfC (PySem.Str.ofString "can_weigh") (defScope s_can_weigh) s.heap.objs.size f cdv)).units + 200 < cLine := by have := hr.un; omega
  exact (ss_cons (ss_expr (se_c (c_check_standard T) hr (by decide) hgd (by rfl) (sa_cons (se_var 0) sa_nil)))
    (ss_cons (ss_expr (se_c (c_check_years T) hr (by decide) hgd (by rfl) (sa_cons (se_var 1) sa_nil)))
    (ss_cons (ss_asg (se_var 0) (sg_tup rfl (sgs_cons (sg_name (i := 2) S_can_weigh.nd) (sgs_cons (sg_name (i := 3) S_can_weigh.nd) (sgs_cons (sg_name (i := 4) S_can_weigh.nd) (sgs_cons (sg_name (i := 5) S_can_weigh.nd) sgs_nil)))) (hl := (len_gCons (len_gCons (len_gCons (len_gCons len_gNil)))))))
    (ss_one (ss_ret (se_tup (sa_cons (se_callB (cr_maxA rfl hu) s_max (by rfl) T.b_max PyProof.Rows.boot_max (sa_cons se_int (sa_cons (se_op op_sub s_sub (se_var 2) (se_op op_mulA s_mul (se_var 5) (se_var 1))) sa_nil))) (sa_cons (se_callB (cr_maxA rfl hu) s_max (by rfl) T.b_max PyProof.Rows.boot_max (sa_cons se_int (sa_cons (se_op op_sub s_sub (se_var 3) (se_op op_mulA s_mul (se_var 4) (se_var 1))) sa_nil))) sa_nil))))))))
theorem c_can_weigh (T : Top P K mg) : Cal P w K mg base 4 (PySem.Str.ofString "can_weigh") g_can_weigh 2 4 [] := by
  obtain ⟨f, fd, D⟩ := T.d_can_weigh
  exact cal_of D (f_can_weigh T D) rfl fun _ _ _ _ _ _ us hl => match us, hl with | [_, _], _ => rfl
theorem f_check_weights {f : Addr} {fd : FuncData} (T : Top P K mg) (D : Df K mg (PySem.Str.ofString "check_weights") s_check_weights [] f fd) : FnG P w K mg base 3 f fd [PySem.Str.ofString "weights"] (spF K g_check_weights 1 1) := by
  obtain ⟨t_MAX_COINS, m_MAX_COINS⟩ := T.k_MAX_COINS
  refine okD_def (n := 1) D.fn S_check_weights rfl fun cdv A outer s H E hr hgd => ?_
  have hu : (A.deeper (envOfC (PySem.Str.ofString "check_weights") (defScope s_check_weights) s.heap.objs.size f cdv)).units + 200 < cLine := by have := hr.un; omega
  exact (ss_cons (ss_if (st_w (st_or (st_not (st_tru (se_isi (se_var 0) (by rfl) T.b_isinstance PyProof.Rows.boot_isinstance (by rfl) T.b_tuple PyProof.Rows.boot_tuple))) (st_or1 (st_not (st_chain (op_leA hu) (op_leA hu) s_le s_le se_int (se_callB call_len s_len (by rfl) T.b_len boot_len (sa_cons (se_var 0) sa_nil)) (se_globI (by rfl) m_MAX_COINS)))))) (ss_one ss_never) ss_nil)
    (ss_one (ss_if (st_not (st_tru (se_callB (cr_all rfl) s_all (by rfl) T.b_all PyProof.Rows.boot_all (sa_cons (se_ofL (sl_lc (own := [(PySem.Str.ofString "own", 1)]) rfl S_check_weights.nd (si_seq (se_var 0)) (blkOk_by (own := [(PySem.Str.ofString "own", 1)]) (N := N_check_weights) (sc := defScope s_check_weights) (by decide +kernel)) (fun _ _ _ _ _ => (sg_name (i := 1) S_check_weights.nd)) (fun _ _ _ _ _ => sts_nil) (fun _ _ _ _ _ => (se_c (c_is_amount T) hr (by decide) hgd (by rfl) (sa_cons (se_var 1) sa_nil))) (by decide))) sa_nil)))) (ss_one ss_never) ss_nil)))
theorem c_check_weights (T : Top P K mg) : Cal P w K mg base 3 (PySem.Str.ofString "check_weights") g_check_weights 1 1 [] := by
  obtain ⟨f, fd, D⟩ := T.d_check_weights
  exact cal_of D (f_check_weights T D) rfl fun _ _ _ _ _ _ us hl => match us, hl with | [_], _ => rfl
theorem f_span_of {f : Addr} {fd : FuncData} (T : Top P K mg) (D : Df K mg (PySem.Str.ofString "span_of") s_span_of [] f fd) : FnG P w K mg base 1 f fd [PySem.Str.ofString "standard", PySem.Str.ofString "weight"] (spF K g_span_of 2 6) := by
  obtain ⟨t_MAX_YEARS, m_MAX_YEARS⟩ := T.k_MAX_YEARS
  refine okD_def (n := 6) D.fn S_span_of rfl fun cdv A outer s H E hr hgd => ?_
  have hu : (A.deeper (envOfC (PySem.Str.ofString "span_of") (defScope s_span_of) s.heap.objs.size f cdv)).units + 200 < cLine := by have := hr.un; omega
  exact (ss_cons (ss_asg (se_var 0) (sg_tup rfl (sgs_cons (sg_name (i := 2) S_span_of.nd) (sgs_cons (sg_name (i := 3) S_span_of.nd) (sgs_cons (sg_name (i := 4) S_span_of.nd) (sgs_cons (sg_name (i := 5) S_span_of.nd) sgs_nil)))) (hl := (len_gCons (len_gCons (len_gCons (len_gCons len_gNil)))))))
    (ss_cons (ss_if (st_cmp (op_gtA hu) s_gt (se_var 1) (se_var 3) (by rfl)) (ss_one (ss_ret se_non)) ss_nil)
    (ss_cons (ss_set (i := 6) S_span_of.nd se_int)
    (ss_cons (ss_if (st_cmp (op_ltA hu) s_lt (se_var 1) (se_var 2) (by rfl)) (ss_cons (ss_if (st_cmp (op_eqA hu) s_eq (se_var 5) se_int (by rfl)) (ss_one (ss_ret se_non)) ss_nil)
    (ss_one (ss_set (i := 6) S_span_of.nd (se_un un_neg s_neg (se_op op_fdivW s_div (se_op op_sub s_sub (se_var 1) (se_var 2)) (se_var 5)))))) ss_nil)
    (ss_cons (ss_set (i := 7) S_span_of.nd (se_globI (by rfl) m_MAX_YEARS))
    (ss_cons (ss_if (st_w (st_and (st_cmp (op_gtA hu) s_gt (se_var 4) se_int (by rfl)) (st_and1 (st_cmp (op_gtA hu) s_gt (se_var 1) se_int (by rfl))))) (ss_one (ss_set (i := 7) S_span_of.nd (se_callB (cr_minA rfl hu) s_min (by rfl) T.b_min PyProof.Rows.boot_min (sa_cons (se_var 7) (sa_cons (se_op op_fdivW s_div (se_op op_sub s_sub (se_var 3) (se_var 1)) (se_var 4)) sa_nil))))) ss_nil)
    (ss_one (ss_ret (se_ifE (st_cmp (op_leA hu) s_le (se_var 6) (se_var 7) (by rfl)) (se_tup (sa_cons (se_var 6) (sa_cons (se_var 7) sa_nil))) se_non)))))))))
theorem c_span_of (T : Top P K mg) : Cal P w K mg base 1 (PySem.Str.ofString "span_of") g_span_of 2 6 [] := by
  obtain ⟨f, fd, D⟩ := T.d_span_of
  exact cal_of D (f_span_of T D) rfl fun _ _ _ _ _ _ us hl => match us, hl with | [_, _], _ => rfl
theorem f_surely_older {f : Addr} {fd : FuncData} (T : Top P K mg) (D : Df K mg (PySem.Str.ofString "surely_older") s_surely_older [] f fd) : FnG P w K mg base 4 f fd [PySem.Str.ofString "standard", PySem.Str.ofString "weights"] (spF K g_surely_older 2 6) := by
  refine okD_def (n := 6) D.fn S_surely_older rfl fun cdv A outer s H E hr hgd => ?_
  have hu : (A.deeper (envOfC (PySem.Str.ofString "surely_older") (defScope s_surely_older) s.heap.objs.size f cdv)).units + 200 < cLine := by have := hr.un; omega
  exact (ss_cons (ss_expr (se_c (c_check_standard T) hr (by decide) hgd (by rfl) (sa_cons (se_var 0) sa_nil)))
    (ss_cons (ss_expr (se_c (c_check_weights T) hr (by decide) hgd (by rfl) (sa_cons (se_var 1) sa_nil)))
    (ss_cons (ss_set (i := 3) S_surely_older.nd (se_ofL (sl_lc (own := [(PySem.Str.ofString "own", 2)]) rfl S_surely_older.nd (si_seq (se_var 1)) (blkOk_by (own := [(PySem.Str.ofString "own", 2)]) (N := N_surely_older) (sc := defScope s_surely_older) (by decide +kernel)) (fun _ _ _ _ _ => (sg_name (i := 2) S_surely_older.nd)) (fun _ _ _ _ _ => sts_nil) (fun _ _ _ _ _ => (se_c (c_span_of T) hr (by decide) hgd (by rfl) (sa_cons (se_var 0) (sa_cons (se_var 2) sa_nil)))) (by decide))))
    (ss_cons (ss_set (i := 5) S_surely_older.nd (se_ofL (sl_lc (own := [(PySem.Str.ofString "at", 4), (PySem.Str.ofString "own", 2)]) rfl S_surely_older.nd (si_enum (by rfl) T.b_enumerate (se_var 3)) (blkOk_by (own := [(PySem.Str.ofString "at", 4), (PySem.Str.ofString "own", 2)]) (N := N_surely_older) (sc := defScope s_surely_older) (by decide +kernel)) (fun _ _ _ _ _ => (sg_tup rfl (sgs_cons (sg_name (i := 4) S_surely_older.nd) (sgs_cons (sg_name (i := 2) S_surely_older.nd) sgs_nil)) (hl := (len_gCons (len_gCons len_gNil))))) (fun _ _ _ _ _ => (sts_one (st_notN (se_var 2)))) (fun _ _ _ _ _ => (se_var 4)) (by decide))))
    (ss_one (ss_ret (se_callTy call_tuple_of s_tuple (by rfl) T.b_tuple PyProof.Rows.boot_tuple (sa_cons (se_ofL (sl_lc2 (own := [(PySem.Str.ofString "one", 6), (PySem.Str.ofString "other", 7)]) (vs1 := [7]) rfl S_surely_older.nd (si_seq (se_var 5)) (blkOk_by (own := [(PySem.Str.ofString "one", 6), (PySem.Str.ofString "other", 7)]) (N := N_surely_older) (sc := defScope s_surely_older) (by decide +kernel)) (by decide) (fun _ _ _ _ _ => (sg_name (i := 6) S_surely_older.nd)) (fun _ _ _ _ _ => sts_nil) (fun _ _ _ _ _ => (si_seq (se_var 5))) (fun _ _ _ _ _ => (sg_name (i := 7) S_surely_older.nd)) (fun _ _ _ _ _ => (sts_one (st_cmp (op_gtA hu) s_gt (se_ix (se_ix (se_var 3) (se_var 6) (fun _ _ => rfl)) se_int (fun _ _ => rfl)) (se_ix (se_ix (se_var 3) (se_var 7) (fun _ _ => rfl)) se_int (fun _ _ => rfl)) (by rfl)))) (fun _ _ _ _ _ => (se_tup (sa_cons (se_var 6) (sa_cons (se_var 7) sa_nil)))) (by decide) (by decide))) sa_nil))))))))
theorem c_surely_older (T : Top P K mg) : Cal P w K mg base 4 (PySem.Str.ofString "surely_older") g_surely_older 2 6 [] := by
  obtain ⟨f, fd, D⟩ := T.d_surely_older
  exact cal_of D (f_surely_older T D) rfl fun _ _ _ _ _ _ us hl => match us, hl with | [_, _], _ => rfl
theorem f_check_weight {f : Addr} {fd : FuncData} (T : Top P K mg) (D : Df K mg (PySem.Str.ofString "check_weight") s_check_weight [] f fd) : FnG P w K mg base 3 f fd [PySem.Str.ofString "weight"] (spF K g_check_weight 1 0) := by
  refine okD_def (n := 0) D.fn S_check_weight rfl fun cdv A outer s H E hr hgd => ?_
  have hu : (A.deeper (envOfC (PySem.Str.ofString "check_weight") (defScope s_check_weight) s.heap.objs.size f cdv)).units + 200 < cLine := by have := hr.un; omega
  exact (ss_one (ss_if (st_not (st_tru (se_c (c_is_amount T) hr (by decide) hgd (by rfl) (sa_cons (se_var 0) sa_nil)))) (ss_one ss_never) ss_nil))
theorem c_check_weight (T : Top P K mg) : Cal P w K mg base 3 (PySem.Str.ofString "check_weight") g_check_weight 1 0 [] := by
  obtain ⟨f, fd, D⟩ := T.d_check_weight
  exact cal_of D (f_check_weight T D) rfl fun _ _ _ _ _ _ us hl => match us, hl with | [_], _ => rfl
theorem f_years_for {f : Addr} {fd : FuncData} (T : Top P K mg) (D : Df K mg (PySem.Str.ofString "years_for") s_years_for [] f fd) : FnG P w K mg base 4 f fd [PySem.Str.ofString "standard", PySem.Str.ofString "weight"] (spF K g_years_for 2 0) := by
  refine okD_def (n := 0) D.fn S_years_for rfl fun cdv A outer s H E hr hgd => ?_
  have hu : (A.deeper (envOfC (PySem.Str.ofString "years_for") (defScope s_years_for) s.heap.objs.size f cdv)).units + 200 < cLine := by have := hr.un; omega
  exact (ss_cons (ss_expr (se_c (c_check_standard T) hr (by decide) hgd (by rfl) (sa_cons (se_var 0) sa_nil)))
    (ss_cons (ss_expr (se_c (c_check_weight T) hr (by decide) hgd (by rfl) (sa_cons (se_var 1) sa_nil)))
    (ss_one (ss_ret (se_c (c_span_of T) hr (by decide) hgd (by rfl) (sa_cons (se_var 0) (sa_cons (se_var 1) sa_nil)))))))
theorem c_years_for (T : Top P K mg) : Cal P w K mg base 4 (PySem.Str.ofString "years_for") g_years_for 2 0 [] := by
  obtain ⟨f, fd, D⟩ := T.d_years_for
  exact cal_of D (f_years_for T D) rfl fun _ _ _ _ _ _ us hl => match us, hl with | [_, _], _ => rfl
theorem f_judge_common {f : Addr} {fd : FuncData} (T : Top P K mg) (D : Df K mg (PySem.Str.ofString "judge_common") s_judge_common [] f fd) : FnG P w K mg base 4 f fd [PySem.Str.ofString "standard", PySem.Str.ofString "weights"] (spF K g_judge_common 2 4) := by
  refine okD_def (n := 4) D.fn S_judge_common rfl fun cdv A outer s H E hr hgd => ?_
  have hu : (A.deeper (envOfC (PySem.Str.ofString "judge_common") (defScope s_judge_common) s.heap.objs.size f cdv)).units + 200 < cLine := by have := hr.un; omega
  exact (ss_cons (ss_expr (se_c (c_check_standard T) hr (by decide) hgd (by rfl) (sa_cons (se_var 0) sa_nil)))
    (ss_cons (ss_expr (se_c (c_check_weights T) hr (by decide) hgd (by rfl) (sa_cons (se_var 1) sa_nil)))
    (ss_cons (ss_setLc (i := 3) (own := [(PySem.Str.ofString "own", 2)]) rfl S_judge_common.nd (si_seq (se_var 1)) (blkOk_by (own := [(PySem.Str.ofString "own", 2)]) (N := N_judge_common) (sc := defScope s_judge_common) (by decide +kernel)) (fun _ _ _ _ _ => (sg_name (i := 2) S_judge_common.nd)) (fun _ _ _ _ _ => sts_nil) (fun _ _ _ _ _ => (se_c (c_span_of T) hr (by decide) hgd (by rfl) (sa_cons (se_var 0) (sa_cons (se_var 2) sa_nil)))) (by decide) (sw_true rfl rfl rfl (by decide +kernel)))
    (ss_cons (ss_if (st_cmp (op_inA hu) s_in se_non (se_var 3) (by rfl)) (ss_one (ss_ret (se_tup (sa_cons se_str (sa_cons (se_index hu (se_var 3) se_non) sa_nil))))) ss_nil)
    (ss_cons (ss_par (i := 4) (j := 5) rfl S_judge_common.nd (sp_e (se_ofL (sl_lc (own := [(PySem.Str.ofString "own", 2)]) rfl S_judge_common.nd (si_seq (se_var 3)) (blkOk_by (own := [(PySem.Str.ofString "own", 2)]) (N := N_judge_common) (sc := defScope s_judge_common) (by decide +kernel)) (fun _ _ _ _ _ => (sg_name (i := 2) S_judge_common.nd)) (fun _ _ _ _ _ => sts_nil) (fun _ _ _ _ _ => (se_ix (se_var 2) se_int (fun _ _ => rfl))) (by decide))) (sp_e (se_ofL (sl_lc (own := [(PySem.Str.ofString "own", 2)]) rfl S_judge_common.nd (si_seq (se_var 3)) (blkOk_by (own := [(PySem.Str.ofString "own", 2)]) (N := N_judge_common) (sc := defScope s_judge_common) (by decide +kernel)) (fun _ _ _ _ _ => (sg_name (i := 2) S_judge_common.nd)) (fun _ _ _ _ _ => sts_nil) (fun _ _ _ _ _ => (se_ix (se_var 2) se_int (fun _ _ => rfl))) (by decide))) sp_nil)) (by decide))
    (ss_cons (ss_if (st_cmp (op_gtA hu) s_gt (se_callB (cr_maxA rfl hu) s_max (by rfl) T.b_max PyProof.Rows.boot_max (sa_cons (se_var 4) sa_nil)) (se_callB (cr_minA rfl hu) s_min (by rfl) T.b_min PyProof.Rows.boot_min (sa_cons (se_var 5) sa_nil)) (by rfl)) (ss_one (ss_ret (se_tup (sa_cons se_str (sa_cons (se_index hu (se_var 5) (se_callB (cr_minA rfl hu) s_min (by rfl) T.b_min PyProof.Rows.boot_min (sa_cons (se_var 5) sa_nil))) (sa_cons (se_index hu (se_var 4) (se_callB (cr_maxA rfl hu) s_max (by rfl) T.b_max PyProof.Rows.boot_max (sa_cons (se_var 4) sa_nil))) sa_nil)))))) ss_nil)
    (ss_one (ss_ret (se_tup (sa_cons se_str (sa_cons (se_callB (cr_maxA rfl hu) s_max (by rfl) T.b_max PyProof.Rows.boot_max (sa_cons (se_var 4) sa_nil)) (sa_cons (se_callB (cr_minA rfl hu) s_min (by rfl) T.b_min PyProof.Rows.boot_min (sa_cons (se_var 5) sa_nil)) sa_nil))))))))))))
theorem c_judge_common (T : Top P K mg) : Cal P w K mg base 4 (PySem.Str.ofString "judge_common") g_judge_common 2 4 [] := by
  obtain ⟨f, fd, D⟩ := T.d_judge_common
  exact cal_of D (f_judge_common T D) rfl fun _ _ _ _ _ _ us hl => match us, hl with | [_, _], _ => rfl
theorem f_struck_between {f : Addr} {fd : FuncData} (T : Top P K mg) (D : Df K mg (PySem.Str.ofString "struck_between") s_struck_between [] f fd) : FnG P w K mg base 4 f fd [PySem.Str.ofString "standard", PySem.Str.ofString "weights", PySem.Str.ofString "closed"] (spF K g_struck_between 3 3) := by
  obtain ⟨t_MAX_YEARS, m_MAX_YEARS⟩ := T.k_MAX_YEARS
  refine okD_def (n := 3) D.fn S_struck_between rfl fun cdv A outer s H E hr hgd => ?_
  have hu : (A.deeper (envOfC (PySem.Str.ofString "struck_between") (defScope s_struck_between) s.heap.objs.size f cdv)).units + 200 < cLine := by have := hr.un; omega
  exact (ss_cons (ss_expr (se_c (c_check_standard T) hr (by decide) hgd (by rfl) (sa_cons (se_var 0) sa_nil)))
    (ss_cons (ss_expr (se_c (c_check_weights T) hr (by decide) hgd (by rfl) (sa_cons (se_var 1) sa_nil)))
    (ss_cons (ss_if (st_w (st_or (st_not (st_tru (se_c (c_is_integer T) hr (by decide) hgd (by rfl) (sa_cons (se_var 2) sa_nil)))) (st_or1 (st_not (st_chain (op_leA hu) (op_leA hu) s_le s_le (se_un un_neg s_neg (se_globI (by rfl) m_MAX_YEARS)) (se_var 2) (se_globI (by rfl) m_MAX_YEARS)))))) (ss_one ss_never) ss_nil)
    (ss_cons (ss_setL (i := 3) S_struck_between.nd (sl_lst sa_nil))
    (ss_cons (ss_for PassesOwn.never rfl (si_seq (se_var 1)) (sg_name (i := 4) S_struck_between.nd) (ss_cons (ss_set (i := 5) S_struck_between.nd (se_c (c_span_of T) hr (by decide) hgd (by rfl) (sa_cons (se_var 0) (sa_cons (se_var 4) sa_nil))))
    (ss_one (ss_app 3 (se_ifE (st_isN (se_var 5)) se_non (se_tup (sa_cons (se_op op_sub s_sub (se_var 2) (se_ix (se_var 5) se_int (fun _ _ => rfl))) (sa_cons (se_op op_sub s_sub (se_var 2) (se_ix (se_var 5) se_int (fun _ _ => rfl))) sa_nil))))))))
    (ss_one (ss_ret (se_callTy call_tuple_of s_tuple (by rfl) T.b_tuple PyProof.Rows.boot_tuple (sa_cons (se_var 3) sa_nil)))))))))
theorem c_struck_between (T : Top P K mg) : Cal P w K mg base 4 (PySem.Str.ofString "struck_between") g_struck_between 3 3 [] := by
  obtain ⟨f, fd, D⟩ := T.d_struck_between
  exact cal_of D (f_struck_between T D) rfl fun _ _ _ _ _ _ us hl => match us, hl with | [_, _, _], _ => rfl
theorem f__law_same {f : Addr} {fd : FuncData} (T : Top P K mg) (D : Df K mg (PySem.Str.ofString "_law_same") s__law_same [] f fd) : FnG P w K mg base 1 f fd [PySem.Str.ofString "actual", PySem.Str.ofString "due"] (spF K g__law_same 2 0) := by
  refine okD_def (n := 0) D.fn S__law_same rfl fun cdv A outer s H E hr hgd => ?_
  have hu : (A.deeper (envOfC (PySem.Str.ofString "_law_same") (defScope s__law_same) s.heap.objs.size f cdv)).units + 200 < cLine := by have := hr.un; omega
  exact (ss_one (ss_ret (se_andT (se_cmp (op_eqA hu) s_eq (se_var 0) (se_var 1) (by rfl)) (se_one (se_cmp (op_eqA hu) s_eq (se_callB (cr_reprD hgd hu) s_repr (by rfl) T.b_repr PyProof.Rows.boot_repr (sa_cons (se_var 0) sa_nil)) (se_callB (cr_reprD hgd hu) s_repr (by rfl) T.b_repr PyProof.Rows.boot_repr (sa_cons (se_var 1) sa_nil)) (by rfl))))))
theorem c__law_same (T : Top P K mg) : Cal P w K mg base 1 (PySem.Str.ofString "_law_same") g__law_same 2 0 [] := by
  obtain ⟨f, fd, D⟩ := T.d__law_same
  exact cal_of D (f__law_same T D) rfl fun _ _ _ _ _ _ us hl => match us, hl with | [_, _], _ => rfl
theorem f_x_accept_years {f C fI : Addr} {fd : FuncData} (T : Top P K mg) (hpx : PySem.PxX.PxTxt P K mg "PaperError" C fI) (D : Df K mg (PySem.Str.ofString "accept_years") s_x_accept_years [] f fd) : FnX P w K mg base 4 f fd [PySem.Str.ofString "standard", PySem.Str.ofString "weights", PySem.Str.ofString "years"] (spX K C g_x_accept_years 3 2) := by
  obtain ⟨t_MAX_YEARS, m_MAX_YEARS⟩ := T.k_MAX_YEARS
  refine okX_def (n := 2) D.fn S_x_accept_years rfl fun cdv A outer s H E hr hgd => ?_
  have hu : (A.deeper (envOfC (PySem.Str.ofString "accept_years") (defScope s_x_accept_years) s.heap.objs.size f cdv)).units + 200 < cLine := by have := hr.un; omega
  have hps := passes_of (X := cxOf (L2.CX P w) P w K mg base N_x_accept_years (PySem.Str.ofString "accept_years") (defScope s_x_accept_years) f cdv A outer s H E) rfl
  have tkx := takes_of (X := cxOf (L2.CX P w) P w K mg base N_x_accept_years (PySem.Str.ofString "accept_years") (defScope s_x_accept_years) f cdv A outer s H E) rfl rfl rfl rfl
  exact (sx_cons (sx_l (ss_expr (se_c (c_check_standard T) hr (by decide) hgd (by rfl) (sa_cons (se_var 0) sa_nil))))
    (sx_cons (sx_l (ss_expr (se_c (c_check_weights T) hr (by decide) hgd (by rfl) (sa_cons (se_var 1) sa_nil))))
    (sx_cons (sx_if (st_w (st_or (st_not (st_tru (se_c (c_is_integer T) hr (by decide) hgd (by rfl) (sa_cons (se_var 2) sa_nil)))) (st_or1 (st_not (st_chain (op_leA hu) (op_leA hu) s_le s_le se_int (se_var 2) (se_globI (by rfl) m_MAX_YEARS)))))) (sx_one (sx_raise hpx hr rfl tkx (by rfl))) sx_nil)
    (sx_one (sx_for hps rfl (si_seq (se_var 1)) (sg_name (i := 3) S_x_accept_years.nd) (sx_cons (sx_l (ss_set (i := 4) S_x_accept_years.nd (se_c (c_span_of T) hr (by decide) hgd (by rfl) (sa_cons (se_var 0) (sa_cons (se_var 3) sa_nil)))))
    (sx_one (sx_if (st_w (st_or (st_isN (se_var 4)) (st_or1 (st_not (st_chain (op_leA hu) (op_leA hu) s_le s_le (se_ix (se_var 4) se_int (fun _ _ => rfl)) (se_var 2) (se_ix (se_var 4) se_int (fun _ _ => rfl))))))) (sx_one (sx_raise hpx hr rfl tkx (by rfl))) sx_nil))))))))
theorem tk_accept_years (T : Top P K mg) : Tkn P w K mg base 5 (PySem.Str.ofString "_law_is_taken") (PySem.Str.ofString "accept_years") g_x_accept_years 3 2 := by
  obtain ⟨C, fI, hpx⟩ := T.px
  obtain ⟨ft, fdt, DT⟩ := T.d__law_is_taken
  obtain ⟨f, fd, D⟩ := T.d_x_accept_years
  have FX := f_x_accept_years (P := P) (w := w) (base := base) T hpx D
  refine ⟨ft, f, fdt, _, ok_taken (nx := "PaperError") (an := "accept") (sm := "some") DT.fn S__law_is_taken rfl hpx FX rfl (by decide) D.fn.kp (D.fn.bindsN fun _ _ _ _ _ _ us hl => match us, hl with | [_, _, _], _ => rfl) (by decide) (by decide) (by decide) (fun cdv A outer s H E hr hgd => ?_), DT.mgf, DT.fn.kp, DT.fn.bindsN fun _ _ _ _ _ _ us hl => match us, hl with | [_, _], _ => rfl, D.mgf⟩
  have hu : (A.deeper (envOfC (PySem.Str.ofString "_law_is_taken") (defScope s__law_is_taken) s.heap.objs.size ft cdv)).units + 200 < cLine := by have := hr.un; omega
  exact ⟨_, rfl, rfl, .inl rfl, ⟨(st_cmp (op_eqA hu) s_eq (se_callB call_len s_len (by rfl) T.b_len boot_len (sa_cons (se_var 1) sa_nil)) se_int (by rfl)), (st_cmp (op_eqA hu) s_eq (se_callB call_len s_len (by rfl) T.b_len boot_len (sa_cons (se_var 1) sa_nil)) se_int (by rfl)), (st_cmp (op_eqA hu) s_eq (se_callB call_len s_len (by rfl) T.b_len boot_len (sa_cons (se_var 1) sa_nil)) se_int (by rfl)), (st_cmp (op_eqA hu) s_eq (se_callB call_len s_len (by rfl) T.b_len boot_len (sa_cons (se_var 1) sa_nil)) se_int (by rfl))⟩, ⟨(sa_cons (se_ix (se_var 1) se_int (fun _ _ => rfl)) (sa_cons (se_ix (se_var 1) se_int (fun _ _ => rfl)) sa_nil)), (sa_cons (se_ix (se_var 1) se_int (fun _ _ => rfl)) (sa_cons (se_ix (se_var 1) se_int (fun _ _ => rfl)) (sa_cons (se_ix (se_var 1) se_int (fun _ _ => rfl)) sa_nil))), (sa_cons (se_ix (se_var 1) se_int (fun _ _ => rfl)) (sa_cons (se_ix (se_var 1) se_int (fun _ _ => rfl)) (sa_cons (se_ix (se_var 1) se_int (fun _ _ => rfl)) (sa_cons (se_ix (se_var 1) se_int (fun _ _ => rfl)) sa_nil)))), (sa_cons (se_ix (se_var 1) se_int (fun _ _ => rfl)) (sa_cons (se_ix (se_var 1) se_int (fun _ _ => rfl)) (sa_cons (se_ix (se_var 1) se_int (fun _ _ => rfl)) (sa_cons (se_ix (se_var 1) se_int (fun _ _ => rfl)) (sa_cons (se_ix (se_var 1) se_int (fun _ _ => rfl)) sa_nil))))), (sa_cons (se_ix (se_var 1) se_int (fun _ _ => rfl)) (sa_cons (se_ix (se_var 1) se_int (fun _ _ => rfl)) (sa_cons (se_ix (se_var 1) se_int (fun _ _ => rfl)) (sa_cons (se_ix (se_var 1) se_int (fun _ _ => rfl)) (sa_cons (se_ix (se_var 1) se_int (fun _ _ => rfl)) (sa_cons (se_ix (se_var 1) se_int (fun _ _ => rfl)) sa_nil))))))⟩, ⟨rfl, rfl, rfl, rfl, rfl⟩, ⟨rfl, rfl, rfl, rfl, rfl⟩⟩
theorem f__law_worn_holds {f : Addr} {fd : FuncData} (T : Top P K mg) (D : Df K mg (PySem.Str.ofString "_law_worn_holds") s__law_worn_holds [] f fd) : FnG P w K mg base 6 f fd [PySem.Str.ofString "state"] (spF K g__law_worn_holds 1 19) := by
  refine okD_def (n := 19) D.fn S__law_worn_holds rfl fun cdv A outer s H E hr hgd => ?_
  have hu : (A.deeper (envOfC (PySem.Str.ofString "_law_worn_holds") (defScope s__law_worn_holds) s.heap.objs.size f cdv)).units + 200 < cLine := by have := hr.un; omega
  exact (ss_cons (ss_par (i := 1) (j := 2) rfl S__law_worn_holds.nd (sp_e (se_op op_addA s_add se_int (se_c (c__law_draw T) hr (by decide) hgd (by rfl) (sa_cons (se_var 0) (sa_cons se_int sa_nil)))) (sp_e (se_c (c__law_draw T) hr (by decide) hgd (by rfl) (sa_cons (se_var 0) (sa_cons se_int sa_nil))) sp_nil)) (by decide))
    (ss_cons (ss_set (i := 3) S__law_worn_holds.nd (se_tup (sa_cons (se_var 1) (sa_cons (se_op op_addA s_add (se_var 1) (se_c (c__law_draw T) hr (by decide) hgd (by rfl) (sa_cons (se_var 0) (sa_cons se_int sa_nil)))) (sa_cons (se_var 2) (sa_cons (se_op op_addA s_add (se_var 2) (se_c (c__law_draw T) hr (by decide) hgd (by rfl) (sa_cons (se_var 0) (sa_cons se_int sa_nil)))) sa_nil))))))
    (ss_cons (ss_set (i := 4) S__law_worn_holds.nd (se_c (c__law_draw T) hr (by decide) hgd (by rfl) (sa_cons (se_var 0) (sa_cons se_int sa_nil))))
    (ss_cons (ss_set (i := 5) S__law_worn_holds.nd (se_c (c_can_weigh T) hr (by decide) hgd (by rfl) (sa_cons (se_var 3) (sa_cons (se_var 4) sa_nil))))
    (ss_cons (ss_set (i := 6) S__law_worn_holds.nd (se_op op_addA s_add (se_var 5) (se_slice (se_var 3) (so_some se_int) so_none)))
    (ss_cons (ss_for PassesOwn.never rfl (si_range1 (by rfl) T.b_range se_int) (sg_name (i := 7) S__law_worn_holds.nd) (ss_one (ss_if (st_not (st_tru (se_c (c__law_same T) hr (by decide) hgd (by rfl) (sa_cons (se_c (c_can_weigh T) hr (by decide) hgd (by rfl) (sa_cons (se_var 6) (sa_cons (se_var 7) sa_nil))) (sa_cons (se_c (c_can_weigh T) hr (by decide) hgd (by rfl) (sa_cons (se_var 3) (sa_cons (se_op op_addA s_add (se_var 4) (se_var 7)) sa_nil))) sa_nil))))) (ss_one (ss_ret se_bl)) ss_nil)))
    (ss_cons (ss_set (i := 9) S__law_worn_holds.nd (se_callTy call_tuple_of s_tuple (by rfl) T.b_tuple PyProof.Rows.boot_tuple (sa_cons (se_ofL (sl_lc (own := [(PySem.Str.ofString "k", 8)]) rfl S__law_worn_holds.nd (si_range1 (by rfl) T.b_range (se_op op_addA s_add se_int (se_c (c__law_draw T) hr (by decide) hgd (by rfl) (sa_cons (se_var 0) (sa_cons se_int sa_nil))))) (blkOk_by (own := [(PySem.Str.ofString "k", 8)]) (N := N__law_worn_holds) (sc := defScope s__law_worn_holds) (by decide +kernel)) (fun _ _ _ _ _ => (sg_name (i := 8) S__law_worn_holds.nd)) (fun _ _ _ _ _ => sts_nil) (fun _ _ _ _ _ => (se_c (c__law_draw T) hr (by decide) hgd (by rfl) (sa_cons (se_var 0) (sa_cons se_int sa_nil)))) (by decide))) sa_nil)))
    (ss_cons (ss_for PassesOwn.never rfl (si_seq (se_var 9)) (sg_name (i := 10) S__law_worn_holds.nd) (ss_cons (ss_setLc (i := 11) (own := [(PySem.Str.ofString "more", 7)]) rfl S__law_worn_holds.nd (si_range1 (by rfl) T.b_range se_int) (blkOk_by (own := [(PySem.Str.ofString "more", 7)]) (N := N__law_worn_holds) (sc := defScope s__law_worn_holds) (by decide +kernel)) (fun _ _ _ _ _ => (sg_name (i := 7) S__law_worn_holds.nd)) (fun _ _ _ _ _ => (sts_one (st_tru (se_tk (tk_accept_years T) hr (by decide) hgd (by rfl) (by rfl) (se_ofL (sl_lst (sa_cons (se_var 6) (sa_cons (se_tup (sa_cons (se_var 10) sa_nil)) (sa_cons (se_var 7) sa_nil))))))))) (fun _ _ _ _ _ => (se_var 7)) (by decide) (sw_true rfl rfl rfl (by decide +kernel)))
    (ss_cons (ss_if (st_cmp (op_neA hu) s_ne (se_var 11) (se_ofL (sl_lc (own := [(PySem.Str.ofString "more", 7)]) rfl S__law_worn_holds.nd (si_range1 (by rfl) T.b_range se_int) (blkOk_by (own := [(PySem.Str.ofString "more", 7)]) (N := N__law_worn_holds) (sc := defScope s__law_worn_holds) (by decide +kernel)) (fun _ _ _ _ _ => (sg_name (i := 7) S__law_worn_holds.nd)) (fun _ _ _ _ _ => (sts_one (st_tru (se_tk (tk_accept_years T) hr (by decide) hgd (by rfl) (by rfl) (se_ofL (sl_lst (sa_cons (se_var 3) (sa_cons (se_tup (sa_cons (se_var 10) sa_nil)) (sa_cons (se_op op_addA s_add (se_var 4) (se_var 7)) sa_nil))))))))) (fun _ _ _ _ _ => (se_var 7)) (by decide))) (by rfl)) (ss_one (ss_ret se_bl)) ss_nil)
    (ss_cons (ss_set (i := 12) S__law_worn_holds.nd (se_c (c_years_for T) hr (by decide) hgd (by rfl) (sa_cons (se_var 6) (sa_cons (se_var 10) sa_nil))))
    (ss_one (ss_if (st_w (st_or (st_cmp (op_neA hu) s_ne (se_isN (se_var 12)) (se_cmp (op_eqA hu) s_eq (se_var 11) (se_ofL (sl_lst sa_nil)) (by rfl)) (by rfl)) (st_or1 (st_w (st_and (st_notN (se_var 12)) (st_and1 (st_w (st_or (st_cmp (op_neA hu) s_ne (se_ix (se_var 12) se_int (fun _ _ => rfl)) (se_ix (se_var 11) se_int (fun _ _ => rfl)) (by rfl)) (st_or1 (st_cmp (op_neA hu) s_ne (se_callB (cr_minA rfl hu) s_min (by rfl) T.b_min PyProof.Rows.boot_min (sa_cons (se_ofL (sl_lst (sa_cons (se_ix (se_var 12) se_int (fun _ _ => rfl)) (sa_cons se_int sa_nil)))) sa_nil)) (se_ix (se_var 11) (se_un un_neg s_neg se_int) (fun _ _ => rfl)) (by rfl))))))))))) (ss_one (ss_ret se_bl)) ss_nil))))))
    (ss_cons (ss_par (i := 13) (j := 14) rfl S__law_worn_holds.nd (sp_e (se_c (c_judge_common T) hr (by decide) hgd (by rfl) (sa_cons (se_var 6) (sa_cons (se_var 9) sa_nil))) (sp_e (se_ofL (sl_lc (own := [(PySem.Str.ofString "more", 7)]) rfl S__law_worn_holds.nd (si_range1 (by rfl) T.b_range se_int) (blkOk_by (own := [(PySem.Str.ofString "more", 7)]) (N := N__law_worn_holds) (sc := defScope s__law_worn_holds) (by decide +kernel)) (fun _ _ _ _ _ => (sg_name (i := 7) S__law_worn_holds.nd)) (fun _ _ _ _ _ => (sts_one (st_tru (se_tk (tk_accept_years T) hr (by decide) hgd (by rfl) (by rfl) (se_ofL (sl_lst (sa_cons (se_var 3) (sa_cons (se_var 9) (sa_cons (se_op op_addA s_add (se_var 4) (se_var 7)) sa_nil))))))))) (fun _ _ _ _ _ => (se_var 7)) (by decide))) sp_nil)) (by decide))
    (ss_cons (ss_if (st_w (st_or (st_cmp (op_neA hu) s_ne (se_cmp (op_eqA hu) s_eq (se_ix (se_var 13) se_int (fun _ _ => rfl)) se_str (by rfl)) (se_cmp (op_neA hu) s_ne (se_var 14) (se_ofL (sl_lst sa_nil)) (by rfl)) (by rfl)) (st_or1 (st_w (st_and (st_cmp (op_neA hu) s_ne (se_var 14) (se_ofL (sl_lst sa_nil)) (by rfl)) (st_and1 (st_cmp (op_neA hu) s_ne (se_ix (se_var 13) se_int (fun _ _ => rfl)) (se_ix (se_var 14) se_int (fun _ _ => rfl)) (by rfl)))))))) (ss_one (ss_ret se_bl)) ss_nil)
    (ss_cons (ss_set (i := 15) S__law_worn_holds.nd (se_op op_sub s_sub (se_c (c__law_draw T) hr (by decide) hgd (by rfl) (sa_cons (se_var 0) (sa_cons se_int sa_nil))) se_int))
    (ss_cons (ss_parT rfl (sn_cons (i := 16) S__law_worn_holds.nd (sn_cons (i := 17) S__law_worn_holds.nd sn_nil)) (sp_e (se_c (c_struck_between T) hr (by decide) hgd (by rfl) (sa_cons (se_var 3) (sa_cons (se_var 9) (sa_cons (se_var 15) sa_nil)))) (sp_e (se_c (c_struck_between T) hr (by decide) hgd (by rfl) (sa_cons (se_var 3) (sa_cons (se_var 9) (sa_cons (se_op op_addA s_add (se_var 15) se_int) sa_nil)))) sp_nil)) rfl (by decide))
    (ss_cons (ss_if (st_cmp (op_neA hu) s_ne (se_var 17) (se_callTy call_tuple_of s_tuple (by rfl) T.b_tuple PyProof.Rows.boot_tuple (sa_cons (se_ofL (sl_lc (own := [(PySem.Str.ofString "own", 18)]) rfl S__law_worn_holds.nd (si_seq (se_var 16)) (blkOk_by (own := [(PySem.Str.ofString "own", 18)]) (N := N__law_worn_holds) (sc := defScope s__law_worn_holds) (by decide +kernel)) (fun _ _ _ _ _ => (sg_name (i := 18) S__law_worn_holds.nd)) (fun _ _ _ _ _ => sts_nil) (fun _ _ _ _ _ => (se_ifE (st_isN (se_var 18)) se_non (se_tup (sa_cons (se_op op_addA s_add (se_ix (se_var 18) se_int (fun _ _ => rfl)) se_int) (sa_cons (se_op op_addA s_add (se_ix (se_var 18) se_int (fun _ _ => rfl)) se_int) sa_nil))))) (by decide))) sa_nil)) (by rfl)) (ss_one (ss_ret se_bl)) ss_nil)
    (ss_cons (ss_set (i := 19) S__law_worn_holds.nd (se_c (c_surely_older T) hr (by decide) hgd (by rfl) (sa_cons (se_var 3) (sa_cons (se_var 9) sa_nil))))
    (ss_one (ss_ret (se_cmp (op_eqA hu) s_eq (se_ofL (sl_lc (own := [(PySem.Str.ofString "own", 18)]) rfl S__law_worn_holds.nd (si_seq (se_var 19)) (blkOk_by (own := [(PySem.Str.ofString "own", 18)]) (N := N__law_worn_holds) (sc := defScope s__law_worn_holds) (by decide +kernel)) (fun _ _ _ _ _ => (sg_name (i := 18) S__law_worn_holds.nd)) (fun _ _ _ _ _ => (sts_one (st_cmp (op_geA hu) s_ge (se_ix (se_ix (se_var 16) (se_ix (se_var 18) se_int (fun _ _ => rfl)) (fun _ _ => rfl)) se_int (fun _ _ => rfl)) (se_ix (se_ix (se_var 16) (se_ix (se_var 18) se_int (fun _ _ => rfl)) (fun _ _ => rfl)) se_int (fun _ _ => rfl)) (by rfl)))) (fun _ _ _ _ _ => (se_var 18)) (by decide))) (se_ofL (sl_lst sa_nil)) (by rfl))))))))))))))))))
theorem c__law_worn_holds (T : Top P K mg) : Cal P w K mg base 6 (PySem.Str.ofString "_law_worn_holds") g__law_worn_holds 1 19 [] := by
  obtain ⟨f, fd, D⟩ := T.d__law_worn_holds
  exact cal_of D (f__law_worn_holds T D) rfl fun _ _ _ _ _ _ us hl => match us, hl with | [_], _ => rfl
theorem f_check_width {f : Addr} {fd : FuncData} (T : Top P K mg) (D : Df K mg (PySem.Str.ofString "check_width") s_check_width [] f fd) : FnG P w K mg base 2 f fd [PySem.Str.ofString "value", PySem.Str.ofString "reason"] (spF K g_check_width 2 0) := by
  obtain ⟨t_MAX_SIZE, m_MAX_SIZE⟩ := T.k_MAX_SIZE
  refine okD_def (n := 0) D.fn S_check_width rfl fun cdv A outer s H E hr hgd => ?_
  have hu : (A.deeper (envOfC (PySem.Str.ofString "check_width") (defScope s_check_width) s.heap.objs.size f cdv)).units + 200 < cLine := by have := hr.un; omega
  exact (ss_one (ss_if (st_w (st_or (st_not (st_tru (se_c (c_is_integer T) hr (by decide) hgd (by rfl) (sa_cons (se_var 0) sa_nil)))) (st_or1 (st_not (st_chain (op_leA hu) (op_leA hu) s_le s_le se_int (se_var 0) (se_globI (by rfl) m_MAX_SIZE)))))) (ss_one ss_never) ss_nil))
theorem c_check_width (T : Top P K mg) : Cal P w K mg base 2 (PySem.Str.ofString "check_width") g_check_width 2 0 [] := by
  obtain ⟨f, fd, D⟩ := T.d_check_width
  exact cal_of D (f_check_width T D) rfl fun _ _ _ _ _ _ us hl => match us, hl with | [_, _], _ => rfl
theorem f_cast_times {f : Addr} {fd : FuncData} (T : Top P K mg) (D : Df K mg (PySem.Str.ofString "cast_times") s_cast_times [] f fd) : FnG P w K mg base 3 f fd [PySem.Str.ofString "mother", PySem.Str.ofString "copy", PySem.Str.ofString "low", PySem.Str.ofString "high"] (spF K g_cast_times 4 7) := by
  obtain ⟨t_MAX_FLAWS, m_MAX_FLAWS⟩ := T.k_MAX_FLAWS
  obtain ⟨t_WHOLE, m_WHOLE⟩ := T.k_WHOLE
  refine okD_def (n := 7) D.fn S_cast_times rfl fun cdv A outer s H E hr hgd => ?_
  have hu : (A.deeper (envOfC (PySem.Str.ofString "cast_times") (defScope s_cast_times) s.heap.objs.size f cdv)).units + 200 < cLine := by have := hr.un; omega
  exact (ss_cons (ss_expr (se_c (c_check_width T) hr (by decide) hgd (by rfl) (sa_cons (se_var 0) (sa_cons se_str sa_nil))))
    (ss_cons (ss_expr (se_c (c_check_width T) hr (by decide) hgd (by rfl) (sa_cons (se_var 1) (sa_cons se_str sa_nil))))
    (ss_cons (ss_for PassesOwn.never rfl (si_seq (se_tup (sa_cons (se_tup (sa_cons se_str (sa_cons (se_var 2) sa_nil))) (sa_cons (se_tup (sa_cons se_str (sa_cons (se_var 3) sa_nil))) sa_nil)))) (sg_tup rfl (sgs_cons (sg_name (i := 4) S_cast_times.nd) (sgs_cons (sg_name (i := 5) S_cast_times.nd) sgs_nil)) (hl := (len_gCons (len_gCons len_gNil)))) (ss_one (ss_if (st_w (st_or (st_not (st_tru (se_c (c_is_integer T) hr (by decide) hgd (by rfl) (sa_cons (se_var 5) sa_nil)))) (st_or1 (st_not (st_chain (op_leA hu) (op_leA hu) s_le s_le se_int (se_var 5) (se_globI (by rfl) m_WHOLE)))))) (ss_one ss_never) ss_nil)))
    (ss_cons (ss_if (st_cmp (op_gtA hu) s_gt (se_var 2) (se_var 3) (by rfl)) (ss_one ss_never) ss_nil)
    (ss_cons (ss_setL (i := 6) S_cast_times.nd (sl_lst sa_nil))
    (ss_cons (ss_par3 (i := 7) (j := 8) (l := 9) rfl S_cast_times.nd (sp_e (se_var 0) (sp_e (se_var 0) (sp_e se_int sp_nil))) (by decide) (by decide) (by decide))
    (ss_cons (ss_for PassesOwn.never rfl (si_range1 (by rfl) T.b_range (se_op op_addA s_add (se_globI (by rfl) m_MAX_FLAWS) se_int)) (sg_name (i := 10) S_cast_times.nd) (ss_cons (ss_if (st_chain (op_leA hu) (op_leA hu) s_le s_le (se_var 7) (se_op op_mulA s_mul (se_var 1) (se_var 9)) (se_var 8)) (ss_one (ss_app 6 (se_var 10))) ss_nil)
    (ss_one (ss_par3 (i := 7) (j := 8) (l := 9) rfl S_cast_times.nd (sp_e (se_op op_mulA s_mul (se_var 7) (se_op op_sub s_sub (se_globI (by rfl) m_WHOLE) (se_var 3))) (sp_e (se_op op_mulA s_mul (se_var 8) (se_op op_sub s_sub (se_globI (by rfl) m_WHOLE) (se_var 2))) (sp_e (se_op op_mulA s_mul (se_var 9) (se_globI (by rfl) m_WHOLE)) sp_nil))) (by decide) (by decide) (by decide)))))
    (ss_one (ss_ret (se_callTy call_tuple_of s_tuple (by rfl) T.b_tuple PyProof.Rows.boot_tuple (sa_cons (se_var 6) sa_nil)))))))))))
theorem c_cast_times (T : Top P K mg) : Cal P w K mg base 3 (PySem.Str.ofString "cast_times") g_cast_times 4 7 [] := by
  obtain ⟨f, fd, D⟩ := T.d_cast_times
  exact cal_of D (f_cast_times T D) rfl fun _ _ _ _ _ _ us hl => match us, hl with | [_, _, _, _], _ => rfl
theorem f__law_casts_hold {f : Addr} {fd : FuncData} (T : Top P K mg) (D : Df K mg (PySem.Str.ofString "_law_casts_hold") s__law_casts_hold [] f fd) : FnG P w K mg base 4 f fd [PySem.Str.ofString "state"] (spF K g__law_casts_hold 1 15) := by
  refine okD_def (n := 15) D.fn S__law_casts_hold rfl fun cdv A outer s H E hr hgd => ?_
  have hu : (A.deeper (envOfC (PySem.Str.ofString "_law_casts_hold") (defScope s__law_casts_hold) s.heap.objs.size f cdv)).units + 200 < cLine := by have := hr.un; omega
  exact (ss_cons (ss_set (i := 1) S__law_casts_hold.nd (se_c (c__law_draw T) hr (by decide) hgd (by rfl) (sa_cons (se_var 0) (sa_cons se_int sa_nil))))
    (ss_cons (ss_par (i := 2) (j := 3) rfl S__law_casts_hold.nd (sp_e (se_op op_addA s_add (se_var 1) (se_c (c__law_draw T) hr (by decide) hgd (by rfl) (sa_cons (se_var 0) (sa_cons se_int sa_nil)))) (sp_e (se_op op_addA s_add se_int (se_c (c__law_draw T) hr (by decide) hgd (by rfl) (sa_cons (se_var 0) (sa_cons se_int sa_nil)))) sp_nil)) (by decide))
    (ss_cons (ss_setL (i := 4) S__law_casts_hold.nd (sl_lst (sa_cons (se_var 3) sa_nil)))
    (ss_cons (ss_for PassesOwn.never rfl (si_range1 (by rfl) T.b_range se_int) (sg_name (i := 5) S__law_casts_hold.nd) (ss_cons (ss_set (i := 6) S__law_casts_hold.nd (se_c (c__law_draw T) hr (by decide) hgd (by rfl) (sa_cons (se_var 0) (sa_cons se_int sa_nil))))
    (ss_cons (ss_set (i := 7) S__law_casts_hold.nd (se_ix (se_var 4) (se_un un_neg s_neg se_int) (fun _ _ => rfl)))
    (ss_cons (ss_for PassesOwn.never rfl (si_range1 (by rfl) T.b_range (se_var 6)) (sg_name (i := 8) S__law_casts_hold.nd) (ss_cons (ss_set (i := 9) S__law_casts_hold.nd (se_op op_addA s_add (se_var 1) (se_c (c__law_draw T) hr (by decide) hgd (by rfl) (sa_cons (se_var 0) (sa_cons (se_op op_addA s_add (se_op op_sub s_sub (se_var 2) (se_var 1)) se_int) sa_nil)))))
    (ss_one (ss_set (i := 7) S__law_casts_hold.nd (se_op op_sub s_sub (se_var 7) (se_op op_fdivW s_div (se_op op_mulA s_mul (se_var 7) (se_var 9)) se_int))))))
    (ss_one (ss_app 4 (se_callB (cr_maxA rfl hu) s_max (by rfl) T.b_max PyProof.Rows.boot_max (sa_cons (se_ofL (sl_lst (sa_cons se_int (sa_cons (se_var 7) sa_nil)))) sa_nil))))))))
    (ss_cons (ss_parT rfl (sn_cons (i := 10) S__law_casts_hold.nd (sn_cons (i := 11) S__law_casts_hold.nd (sn_cons (i := 12) S__law_casts_hold.nd sn_nil))) (sp_e (se_c (c_cast_times T) hr (by decide) hgd (by rfl) (sa_cons (se_ix (se_var 4) se_int (fun _ _ => rfl)) (sa_cons (se_ix (se_var 4) se_int (fun _ _ => rfl)) (sa_cons (se_var 1) (sa_cons (se_var 2) sa_nil))))) (sp_e (se_c (c_cast_times T) hr (by decide) hgd (by rfl) (sa_cons (se_ix (se_var 4) se_int (fun _ _ => rfl)) (sa_cons (se_ix (se_var 4) se_int (fun _ _ => rfl)) (sa_cons (se_var 1) (sa_cons (se_var 2) sa_nil))))) (sp_e (se_c (c_cast_times T) hr (by decide) hgd (by rfl) (sa_cons (se_ix (se_var 4) se_int (fun _ _ => rfl)) (sa_cons (se_ix (se_var 4) se_int (fun _ _ => rfl)) (sa_cons (se_var 1) (sa_cons (se_var 2) sa_nil))))) sp_nil))) rfl (by decide))
    (ss_cons (ss_for PassesOwn.never rfl (si_seq (se_var 10)) (sg_name (i := 13) S__law_casts_hold.nd) (ss_one (ss_if (st_tru (se_ofL (sl_lc (own := [(PySem.Str.ofString "own", 7)]) rfl S__law_casts_hold.nd (si_seq (se_var 11)) (blkOk_by (own := [(PySem.Str.ofString "own", 7)]) (N := N__law_casts_hold) (sc := defScope s__law_casts_hold) (by decide +kernel)) (fun _ _ _ _ _ => (sg_name (i := 7) S__law_casts_hold.nd)) (fun _ _ _ _ _ => (sts_one (st_w (st_and (st_cmp (op_leA hu) s_le (se_op op_addA s_add (se_var 13) (se_var 7)) se_int (by rfl)) (st_and1 (st_cmp (op_notInA hu) s_notIn (se_op op_addA s_add (se_var 13) (se_var 7)) (se_var 12) (by rfl))))))) (fun _ _ _ _ _ => (se_var 7)) (by decide)))) (ss_one (ss_ret se_bl)) ss_nil)))
    (ss_cons (ss_set (i := 14) S__law_casts_hold.nd (se_c (c_cast_times T) hr (by decide) hgd (by rfl) (sa_cons (se_ix (se_var 4) se_int (fun _ _ => rfl)) (sa_cons (se_ix (se_var 4) se_int (fun _ _ => rfl)) (sa_cons (se_callB (cr_maxA rfl hu) s_max (by rfl) T.b_max PyProof.Rows.boot_max (sa_cons (se_ofL (sl_lst (sa_cons se_int (sa_cons (se_op op_sub s_sub (se_var 1) se_int) sa_nil)))) sa_nil)) (sa_cons (se_op op_addA s_add (se_var 2) se_int) sa_nil))))))
    (ss_cons (ss_if (st_w (st_or (st_tru (se_ofL (sl_lc (own := [(PySem.Str.ofString "own", 7)]) rfl S__law_casts_hold.nd (si_seq (se_var 12)) (blkOk_by (own := [(PySem.Str.ofString "own", 7)]) (N := N__law_casts_hold) (sc := defScope s__law_casts_hold) (by decide +kernel)) (fun _ _ _ _ _ => (sg_name (i := 7) S__law_casts_hold.nd)) (fun _ _ _ _ _ => (sts_one (st_cmp (op_notInA hu) s_notIn (se_var 7) (se_var 14) (by rfl)))) (fun _ _ _ _ _ => (se_var 7)) (by decide)))) (st_or1 (st_cmp (op_neA hu) s_ne (se_cmp (op_inA hu) s_in se_int (se_var 12) (by rfl)) (se_cmp (op_eqA hu) s_eq (se_ix (se_var 4) se_int (fun _ _ => rfl)) (se_ix (se_var 4) se_int (fun _ _ => rfl)) (by rfl)) (by rfl))))) (ss_one (ss_ret se_bl)) ss_nil)
    (ss_cons (ss_if (st_w (st_or (st_not (st_tru (se_c (c__law_same T) hr (by decide) hgd (by rfl) (sa_cons (se_c (c_cast_times T) hr (by decide) hgd (by rfl) (sa_cons (se_op op_mulA s_mul se_int (se_ix (se_var 4) se_int (fun _ _ => rfl))) (sa_cons (se_op op_mulA s_mul se_int (se_ix (se_var 4) se_int (fun _ _ => rfl))) (sa_cons (se_var 1) (sa_cons (se_var 2) sa_nil))))) (sa_cons (se_var 12) sa_nil))))) (st_or1 (st_w (st_and (st_cmp (op_gtA hu) s_gt (se_var 1) se_int (by rfl)) (st_and1 (st_cmp (op_neA hu) s_ne (se_c (c_cast_times T) hr (by decide) hgd (by rfl) (sa_cons (se_ix (se_var 4) se_int (fun _ _ => rfl)) (sa_cons (se_op op_addA s_add (se_ix (se_var 4) se_int (fun _ _ => rfl)) se_int) (sa_cons (se_var 1) (sa_cons (se_var 2) sa_nil))))) (se_tup sa_nil) (by rfl)))))))) (ss_one (ss_ret se_bl)) ss_nil)
    (ss_cons (ss_set (i := 15) S__law_casts_hold.nd (se_c (c_cast_times T) hr (by decide) hgd (by rfl) (sa_cons (se_var 3) (sa_cons (se_var 3) (sa_cons se_int (sa_cons (se_var 2) sa_nil))))))
    (ss_one (ss_ret (se_andT (se_c (c__law_same T) hr (by decide) hgd (by rfl) (sa_cons (se_var 15) (sa_cons (se_callTy call_tuple_of s_tuple (by rfl) T.b_tuple PyProof.Rows.boot_tuple (sa_cons (se_ofL (sl_lr1 rfl (by rfl) T.b_list (by rfl) T.b_range se_int)) sa_nil)) sa_nil))) (se_one (se_orT (se_cmp (op_eqA hu) s_eq (se_var 1) se_int (by rfl)) (se_one (se_cmp (op_eqA hu) s_eq (se_c (c_cast_times T) hr (by decide) hgd (by rfl) (sa_cons (se_var 3) (sa_cons (se_var 3) (sa_cons (se_var 1) (sa_cons (se_var 2) sa_nil))))) (se_tup (sa_cons se_int sa_nil)) (by rfl))))))))))))))))))
theorem c__law_casts_hold (T : Top P K mg) : Cal P w K mg base 4 (PySem.Str.ofString "_law_casts_hold") g__law_casts_hold 1 15 [] := by
  obtain ⟨f, fd, D⟩ := T.d__law_casts_hold
  exact cal_of D (f__law_casts_hold T D) rfl fun _ _ _ _ _ _ us hl => match us, hl with | [_], _ => rfl
theorem f__law_less {f : Addr} {fd : FuncData} (T : Top P K mg) (D : Df K mg (PySem.Str.ofString "_law_less") s__law_less [] f fd) : FnG P w K mg base 1 f fd [PySem.Str.ofString "one", PySem.Str.ofString "other"] (spF K g__law_less 2 0) := by
  refine okD_def (n := 0) D.fn S__law_less rfl fun cdv A outer s H E hr hgd => ?_
  have hu : (A.deeper (envOfC (PySem.Str.ofString "_law_less") (defScope s__law_less) s.heap.objs.size f cdv)).units + 200 < cLine := by have := hr.un; omega
  exact (ss_one (ss_ret (se_cmp (op_ltA hu) s_lt (se_op op_mulA s_mul (se_ix (se_var 0) se_int (fun _ _ => rfl)) (se_ix (se_var 1) se_int (fun _ _ => rfl))) (se_op op_mulA s_mul (se_ix (se_var 1) se_int (fun _ _ => rfl)) (se_ix (se_var 0) se_int (fun _ _ => rfl))) (by rfl))))
theorem c__law_less (T : Top P K mg) : Cal P w K mg base 1 (PySem.Str.ofString "_law_less") g__law_less 2 0 [] := by
  obtain ⟨f, fd, D⟩ := T.d__law_less
  exact cal_of D (f__law_less T D) rfl fun _ _ _ _ _ _ us hl => match us, hl with | [_, _], _ => rfl
theorem f_check_dated {f : Addr} {fd : FuncData} (T : Top P K mg) (D : Df K mg (PySem.Str.ofString "check_dated") s_check_dated [] f fd) : FnG P w K mg base 3 f fd [PySem.Str.ofString "dated"] (spF K g_check_dated 1 2) := by
  obtain ⟨t_MAX_COINS, m_MAX_COINS⟩ := T.k_MAX_COINS
  obtain ⟨t_MAX_YEARS, m_MAX_YEARS⟩ := T.k_MAX_YEARS
  refine okD_def (n := 2) D.fn S_check_dated rfl fun cdv A outer s H E hr hgd => ?_
  have hu : (A.deeper (envOfC (PySem.Str.ofString "check_dated") (defScope s_check_dated) s.heap.objs.size f cdv)).units + 200 < cLine := by have := hr.un; omega
  exact (ss_cons (ss_if (st_w (st_or (st_not (st_tru (se_isi (se_var 0) (by rfl) T.b_isinstance PyProof.Rows.boot_isinstance (by rfl) T.b_tuple PyProof.Rows.boot_tuple))) (st_or1 (st_not (st_chain (op_leA hu) (op_leA hu) s_le s_le se_int (se_callB call_len s_len (by rfl) T.b_len boot_len (sa_cons (se_var 0) sa_nil)) (se_globI (by rfl) m_MAX_COINS)))))) (ss_one ss_never) ss_nil)
    (ss_one (ss_for PassesOwn.never rfl (si_seq (se_var 0)) (sg_name (i := 1) S_check_dated.nd) (ss_cons (ss_if (st_w (st_or (st_not (st_tru (se_isi (se_var 1) (by rfl) T.b_isinstance PyProof.Rows.boot_isinstance (by rfl) T.b_tuple PyProof.Rows.boot_tuple))) (st_or (st_cmp (op_neA hu) s_ne (se_callB call_len s_len (by rfl) T.b_len boot_len (sa_cons (se_var 1) sa_nil)) se_int (by rfl)) (st_or1 (st_not (st_tru (se_callB (cr_all rfl) s_all (by rfl) T.b_all PyProof.Rows.boot_all (sa_cons (se_ofL (sl_lc (own := [(PySem.Str.ofString "own", 2)]) rfl S_check_dated.nd (si_seq (se_var 1)) (blkOk_by (own := [(PySem.Str.ofString "own", 2)]) (N := N_check_dated) (sc := defScope s_check_dated) (by decide +kernel)) (fun _ _ _ _ _ => (sg_name (i := 2) S_check_dated.nd)) (fun _ _ _ _ _ => sts_nil) (fun _ _ _ _ _ => (se_c (c_is_amount T) hr (by decide) hgd (by rfl) (sa_cons (se_var 2) sa_nil))) (by decide))) sa_nil)))))))) (ss_one ss_never) ss_nil)
    (ss_one (ss_if (st_w (st_or (st_cmp (op_gtA hu) s_gt (se_ix (se_var 1) se_int (fun _ _ => rfl)) (se_ix (se_var 1) se_int (fun _ _ => rfl)) (by rfl)) (st_or1 (st_not (st_chain (op_leA hu) (op_leA hu) s_le s_le se_int (se_ix (se_var 1) se_int (fun _ _ => rfl)) (se_globI (by rfl) m_MAX_YEARS)))))) (ss_one ss_never) ss_nil))))))
theorem c_check_dated (T : Top P K mg) : Cal P w K mg base 3 (PySem.Str.ofString "check_dated") g_check_dated 1 2 [] := by
  obtain ⟨f, fd, D⟩ := T.d_check_dated
  exact cal_of D (f_check_dated T D) rfl fun _ _ _ _ _ _ us hl => match us, hl with | [_], _ => rfl
theorem f_less {f : Addr} {fd : FuncData} (T : Top P K mg) (D : Df K mg (PySem.Str.ofString "less") s_less [] f fd) : FnG P w K mg base 1 f fd [PySem.Str.ofString "one", PySem.Str.ofString "other"] (spF K g_less 2 0) := by
  refine okD_def (n := 0) D.fn S_less rfl fun cdv A outer s H E hr hgd => ?_
  have hu : (A.deeper (envOfC (PySem.Str.ofString "less") (defScope s_less) s.heap.objs.size f cdv)).units + 200 < cLine := by have := hr.un; omega
  exact (ss_one (ss_ret (se_cmp (op_ltA hu) s_lt (se_op op_mulA s_mul (se_ix (se_var 0) se_int (fun _ _ => rfl)) (se_ix (se_var 1) se_int (fun _ _ => rfl))) (se_op op_mulA s_mul (se_ix (se_var 1) se_int (fun _ _ => rfl)) (se_ix (se_var 0) se_int (fun _ _ => rfl))) (by rfl))))
theorem c_less (T : Top P K mg) : Cal P w K mg base 1 (PySem.Str.ofString "less") g_less 2 0 [] := by
  obtain ⟨f, fd, D⟩ := T.d_less
  exact cal_of D (f_less T D) rfl fun _ _ _ _ _ _ us hl => match us, hl with | [_, _], _ => rfl
theorem f_quotient {f : Addr} {fd : FuncData} (T : Top P K mg) (D : Df K mg (PySem.Str.ofString "quotient") s_quotient [] f fd) : FnG P w K mg base 1 f fd [PySem.Str.ofString "up", PySem.Str.ofString "down"] (spF K g_quotient 2 2) := by
  refine okD_def (n := 2) D.fn S_quotient rfl fun cdv A outer s H E hr hgd => ?_
  have hu : (A.deeper (envOfC (PySem.Str.ofString "quotient") (defScope s_quotient) s.heap.objs.size f cdv)).units + 200 < cLine := by have := hr.un; omega
  exact (ss_cons (ss_par (i := 2) (j := 3) rfl S_quotient.nd (sp_e (se_var 0) (sp_e (se_var 1) sp_nil)) (by decide))
    (ss_cons (ss_while PassesOwn.never (st_tru (se_var 3)) (ss_one (ss_par (i := 2) (j := 3) rfl S_quotient.nd (sp_e (se_var 3) (sp_e (se_op op_mod s_mod (se_var 2) (se_var 3)) sp_nil)) (by decide))))
    (ss_one (ss_ret (se_tup (sa_cons (se_op op_fdivW s_div (se_var 0) (se_var 2)) (sa_cons (se_op op_fdivW s_div (se_var 1) (se_var 2)) sa_nil)))))))
theorem c_quotient (T : Top P K mg) : Cal P w K mg base 1 (PySem.Str.ofString "quotient") g_quotient 2 2 [] := by
  obtain ⟨f, fd, D⟩ := T.d_quotient
  exact cal_of D (f_quotient T D) rfl fun _ _ _ _ _ _ us hl => match us, hl with | [_, _], _ => rfl
theorem f_judge_rate {f : Addr} {fd : FuncData} (T : Top P K mg) (D : Df K mg (PySem.Str.ofString "judge_rate") s_judge_rate [] f fd) : FnG P w K mg base 4 f fd [PySem.Str.ofString "dated"] (spF K g_judge_rate 1 6) := by
  refine okD_def (n := 6) D.fn S_judge_rate rfl fun cdv A outer s H E hr hgd => ?_
  have hu : (A.deeper (envOfC (PySem.Str.ofString "judge_rate") (defScope s_judge_rate) s.heap.objs.size f cdv)).units + 200 < cLine := by have := hr.un; omega
  exact (ss_cons (ss_expr (se_c (c_check_dated T) hr (by decide) hgd (by rfl) (sa_cons (se_var 0) sa_nil)))
    (ss_cons (ss_parT rfl (sn_cons (i := 1) S_judge_rate.nd (sn_cons (i := 2) S_judge_rate.nd sn_nil)) (sp_e se_int (sp_e se_int sp_nil)) rfl (by decide))
    (ss_cons (ss_for PassesOwn.never rfl (si_enum (by rfl) T.b_enumerate (se_var 0)) (sg_tup rfl (sgs_cons (sg_name (i := 3) S_judge_rate.nd) (sgs_cons (sg_tup rfl (sgs_cons (sg_name (i := 4) S_judge_rate.nd) (sgs_cons (sg_name (i := 5) S_judge_rate.nd) (sgs_cons (sg_name (i := 6) S_judge_rate.nd) sgs_nil))) (hl := (len_gCons (len_gCons (len_gCons len_gNil))))) sgs_nil)) (hl := (len_gCons (len_gCons len_gNil)))) (ss_cons (ss_if (st_tru (se_c (c_less T) hr (by decide) hgd (by rfl) (sa_cons (se_tup (sa_cons (se_var 5) (sa_cons (se_var 6) sa_nil))) (sa_cons (se_slice (se_ix (se_var 0) (se_var 1) (fun _ _ => rfl)) (so_some se_int) so_none) sa_nil)))) (ss_one (ss_set (i := 1) S_judge_rate.nd (se_var 3))) ss_nil)
    (ss_one (ss_if (st_tru (se_c (c_less T) hr (by decide) hgd (by rfl) (sa_cons (se_tup (sa_cons (se_ix (se_ix (se_var 0) (se_var 2) (fun _ _ => rfl)) se_int (fun _ _ => rfl)) (sa_cons (se_ix (se_ix (se_var 0) (se_var 2) (fun _ _ => rfl)) se_int (fun _ _ => rfl)) sa_nil))) (sa_cons (se_tup (sa_cons (se_var 4) (sa_cons (se_var 6) sa_nil))) sa_nil)))) (ss_one (ss_set (i := 2) S_judge_rate.nd (se_var 3))) ss_nil))))
    (ss_cons (ss_if (st_tru (se_c (c_less T) hr (by decide) hgd (by rfl) (sa_cons (se_slice (se_ix (se_var 0) (se_var 1) (fun _ _ => rfl)) (so_some se_int) so_none) (sa_cons (se_tup (sa_cons (se_ix (se_ix (se_var 0) (se_var 2) (fun _ _ => rfl)) se_int (fun _ _ => rfl)) (sa_cons (se_ix (se_ix (se_var 0) (se_var 2) (fun _ _ => rfl)) se_int (fun _ _ => rfl)) sa_nil))) sa_nil)))) (ss_one (ss_ret (se_tup (sa_cons se_str (sa_cons (se_var 1) (sa_cons (se_var 2) sa_nil)))))) ss_nil)
    (ss_one (ss_ret (se_tup (sa_cons se_str (sa_cons (se_c (c_quotient T) hr (by decide) hgd (by rfl) (sa_cons (se_ix (se_ix (se_var 0) (se_var 2) (fun _ _ => rfl)) se_int (fun _ _ => rfl)) (sa_cons (se_ix (se_ix (se_var 0) (se_var 2) (fun _ _ => rfl)) se_int (fun _ _ => rfl)) sa_nil))) (sa_cons (se_c (c_quotient T) hr (by decide) hgd (by rfl) (sa_cons (se_ix (se_ix (se_var 0) (se_var 1) (fun _ _ => rfl)) se_int (fun _ _ => rfl)) (sa_cons (se_ix (se_ix (se_var 0) (se_var 1) (fun _ _ => rfl)) se_int (fun _ _ => rfl)) sa_nil))) sa_nil))))))))))
theorem c_judge_rate (T : Top P K mg) : Cal P w K mg base 4 (PySem.Str.ofString "judge_rate") g_judge_rate 1 6 [] := by
  obtain ⟨f, fd, D⟩ := T.d_judge_rate
  exact cal_of D (f_judge_rate T D) rfl fun _ _ _ _ _ _ us hl => match us, hl with | [_], _ => rfl
theorem f_x_accept_rate {f C fI : Addr} {fd : FuncData} (T : Top P K mg) (hpx : PySem.PxX.PxTxt P K mg "PaperError" C fI) (D : Df K mg (PySem.Str.ofString "accept_rate") s_x_accept_rate [] f fd) : FnX P w K mg base 4 f fd [PySem.Str.ofString "dated", PySem.Str.ofString "rate"] (spX K C g_x_accept_rate 2 4) := by
  refine okX_def (n := 4) D.fn S_x_accept_rate rfl fun cdv A outer s H E hr hgd => ?_
  have hu : (A.deeper (envOfC (PySem.Str.ofString "accept_rate") (defScope s_x_accept_rate) s.heap.objs.size f cdv)).units + 200 < cLine := by have := hr.un; omega
  have hps := passes_of (X := cxOf (L2.CX P w) P w K mg base N_x_accept_rate (PySem.Str.ofString "accept_rate") (defScope s_x_accept_rate) f cdv A outer s H E) rfl
  have tkx := takes_of (X := cxOf (L2.CX P w) P w K mg base N_x_accept_rate (PySem.Str.ofString "accept_rate") (defScope s_x_accept_rate) f cdv A outer s H E) rfl rfl rfl rfl
  exact (sx_cons (sx_l (ss_expr (se_c (c_check_dated T) hr (by decide) hgd (by rfl) (sa_cons (se_var 0) sa_nil))))
    (sx_cons (sx_if (st_w (st_or (st_not (st_tru (se_isi (se_var 1) (by rfl) T.b_isinstance PyProof.Rows.boot_isinstance (by rfl) T.b_tuple PyProof.Rows.boot_tuple))) (st_or (st_cmp (op_neA hu) s_ne (se_callB call_len s_len (by rfl) T.b_len boot_len (sa_cons (se_var 1) sa_nil)) se_int (by rfl)) (st_or1 (st_not (st_tru (se_callB (cr_all rfl) s_all (by rfl) T.b_all PyProof.Rows.boot_all (sa_cons (se_ofL (sl_lc (own := [(PySem.Str.ofString "own", 2)]) rfl S_x_accept_rate.nd (si_seq (se_var 1)) (blkOk_by (own := [(PySem.Str.ofString "own", 2)]) (N := N_x_accept_rate) (sc := defScope s_x_accept_rate) (by decide +kernel)) (fun _ _ _ _ _ => (sg_name (i := 2) S_x_accept_rate.nd)) (fun _ _ _ _ _ => sts_nil) (fun _ _ _ _ _ => (se_c (c_is_integer T) hr (by decide) hgd (by rfl) (sa_cons (se_var 2) sa_nil))) (by decide))) sa_nil)))))))) (sx_one (sx_raise hpx hr rfl tkx (by rfl))) sx_nil)
    (sx_cons (sx_if (st_w (st_or (st_cmp (op_ltA hu) s_lt (se_ix (se_var 1) se_int (fun _ _ => rfl)) se_int (by rfl)) (st_or (st_cmp (op_ltA hu) s_lt (se_ix (se_var 1) se_int (fun _ _ => rfl)) se_int (by rfl)) (st_or1 (st_cmp (op_neA hu) s_ne (se_c (c_quotient T) hr (by decide) hgd (by rfl) (sa_cons (se_ix (se_var 1) se_int (fun _ _ => rfl)) (sa_cons (se_ix (se_var 1) se_int (fun _ _ => rfl)) sa_nil))) (se_var 1) (by rfl)))))) (sx_one (sx_raise hpx hr rfl tkx (by rfl))) sx_nil)
    (sx_one (sx_for hps rfl (si_seq (se_var 0)) (sg_tup rfl (sgs_cons (sg_name (i := 3) S_x_accept_rate.nd) (sgs_cons (sg_name (i := 4) S_x_accept_rate.nd) (sgs_cons (sg_name (i := 5) S_x_accept_rate.nd) sgs_nil))) (hl := (len_gCons (len_gCons (len_gCons len_gNil))))) (sx_one (sx_if (st_w (st_or (st_tru (se_c (c_less T) hr (by decide) hgd (by rfl) (sa_cons (se_var 1) (sa_cons (se_tup (sa_cons (se_var 3) (sa_cons (se_var 5) sa_nil))) sa_nil)))) (st_or1 (st_tru (se_c (c_less T) hr (by decide) hgd (by rfl) (sa_cons (se_tup (sa_cons (se_var 4) (sa_cons (se_var 5) sa_nil))) (sa_cons (se_var 1) sa_nil))))))) (sx_one (sx_raise hpx hr rfl tkx (by rfl))) sx_nil)))))))
theorem tk_accept_rate (T : Top P K mg) : Tkn P w K mg base 5 (PySem.Str.ofString "_law_is_taken") (PySem.Str.ofString "accept_rate") g_x_accept_rate 2 4 := by
  obtain ⟨C, fI, hpx⟩ := T.px
  obtain ⟨ft, fdt, DT⟩ := T.d__law_is_taken
  obtain ⟨f, fd, D⟩ := T.d_x_accept_rate
  have FX := f_x_accept_rate (P := P) (w := w) (base := base) T hpx D
  refine ⟨ft, f, fdt, _, ok_taken (nx := "PaperError") (an := "accept") (sm := "some") DT.fn S__law_is_taken rfl hpx FX rfl (by decide) D.fn.kp (D.fn.bindsN fun _ _ _ _ _ _ us hl => match us, hl with | [_, _], _ => rfl) (by decide) (by decide) (by decide) (fun cdv A outer s H E hr hgd => ?_), DT.mgf, DT.fn.kp, DT.fn.bindsN fun _ _ _ _ _ _ us hl => match us, hl with | [_, _], _ => rfl, D.mgf⟩
  have hu : (A.deeper (envOfC (PySem.Str.ofString "_law_is_taken") (defScope s__law_is_taken) s.heap.objs.size ft cdv)).units + 200 < cLine := by have := hr.un; omega
  exact ⟨_, rfl, rfl, .inl rfl, ⟨(st_cmp (op_eqA hu) s_eq (se_callB call_len s_len (by rfl) T.b_len boot_len (sa_cons (se_var 1) sa_nil)) se_int (by rfl)), (st_cmp (op_eqA hu) s_eq (se_callB call_len s_len (by rfl) T.b_len boot_len (sa_cons (se_var 1) sa_nil)) se_int (by rfl)), (st_cmp (op_eqA hu) s_eq (se_callB call_len s_len (by rfl) T.b_len boot_len (sa_cons (se_var 1) sa_nil)) se_int (by rfl)), (st_cmp (op_eqA hu) s_eq (se_callB call_len s_len (by rfl) T.b_len boot_len (sa_cons (se_var 1) sa_nil)) se_int (by rfl))⟩, ⟨(sa_cons (se_ix (se_var 1) se_int (fun _ _ => rfl)) (sa_cons (se_ix (se_var 1) se_int (fun _ _ => rfl)) sa_nil)), (sa_cons (se_ix (se_var 1) se_int (fun _ _ => rfl)) (sa_cons (se_ix (se_var 1) se_int (fun _ _ => rfl)) (sa_cons (se_ix (se_var 1) se_int (fun _ _ => rfl)) sa_nil))), (sa_cons (se_ix (se_var 1) se_int (fun _ _ => rfl)) (sa_cons (se_ix (se_var 1) se_int (fun _ _ => rfl)) (sa_cons (se_ix (se_var 1) se_int (fun _ _ => rfl)) (sa_cons (se_ix (se_var 1) se_int (fun _ _ => rfl)) sa_nil)))), (sa_cons (se_ix (se_var 1) se_int (fun _ _ => rfl)) (sa_cons (se_ix (se_var 1) se_int (fun _ _ => rfl)) (sa_cons (se_ix (se_var 1) se_int (fun _ _ => rfl)) (sa_cons (se_ix (se_var 1) se_int (fun _ _ => rfl)) (sa_cons (se_ix (se_var 1) se_int (fun _ _ => rfl)) sa_nil))))), (sa_cons (se_ix (se_var 1) se_int (fun _ _ => rfl)) (sa_cons (se_ix (se_var 1) se_int (fun _ _ => rfl)) (sa_cons (se_ix (se_var 1) se_int (fun _ _ => rfl)) (sa_cons (se_ix (se_var 1) se_int (fun _ _ => rfl)) (sa_cons (se_ix (se_var 1) se_int (fun _ _ => rfl)) (sa_cons (se_ix (se_var 1) se_int (fun _ _ => rfl)) sa_nil))))))⟩, ⟨rfl, rfl, rfl, rfl, rfl⟩, ⟨rfl, rfl, rfl, rfl, rfl⟩⟩
theorem f__law_rates_hold {f : Addr} {fd : FuncData} (T : Top P K mg) (D : Df K mg (PySem.Str.ofString "_law_rates_hold") s__law_rates_hold [] f fd) : FnG P w K mg base 6 f fd [PySem.Str.ofString "state"] (spF K g__law_rates_hold 1 10) := by
  refine okD_def (n := 10) D.fn S__law_rates_hold rfl fun cdv A outer s H E hr hgd => ?_
  have hu : (A.deeper (envOfC (PySem.Str.ofString "_law_rates_hold") (defScope s__law_rates_hold) s.heap.objs.size f cdv)).units + 200 < cLine := by have := hr.un; omega
  exact (ss_cons (ss_setL (i := 1) S__law_rates_hold.nd (sl_lst sa_nil))
    (ss_cons (ss_for PassesOwn.never rfl (si_range1 (by rfl) T.b_range se_int) (sg_name (i := 2) S__law_rates_hold.nd) (ss_cons (ss_setL (i := 3) S__law_rates_hold.nd (sl_lst sa_nil))
    (ss_cons (ss_for PassesOwn.never rfl (si_range1 (by rfl) T.b_range (se_op op_addA s_add se_int (se_c (c__law_draw T) hr (by decide) hgd (by rfl) (sa_cons (se_var 0) (sa_cons se_int sa_nil))))) (sg_name (i := 4) S__law_rates_hold.nd) (ss_cons (ss_set (i := 5) S__law_rates_hold.nd (se_op op_addA s_add se_int (se_c (c__law_draw T) hr (by decide) hgd (by rfl) (sa_cons (se_var 0) (sa_cons se_int sa_nil)))))
    (ss_cons (ss_set (i := 6) S__law_rates_hold.nd (se_op op_sub s_sub (se_op op_mulA s_mul (se_var 5) (se_op op_addA s_add se_int (se_c (c__law_draw T) hr (by decide) hgd (by rfl) (sa_cons (se_var 0) (sa_cons se_int sa_nil))))) (se_c (c__law_draw T) hr (by decide) hgd (by rfl) (sa_cons (se_var 0) (sa_cons se_int sa_nil)))))
    (ss_one (ss_app 3 (se_tup (sa_cons (se_callB (cr_maxA rfl hu) s_max (by rfl) T.b_max PyProof.Rows.boot_max (sa_cons (se_ofL (sl_lst (sa_cons se_int (sa_cons (se_var 6) sa_nil)))) sa_nil)) (sa_cons (se_op op_addA s_add (se_callB (cr_maxA rfl hu) s_max (by rfl) T.b_max PyProof.Rows.boot_max (sa_cons (se_ofL (sl_lst (sa_cons se_int (sa_cons (se_var 6) sa_nil)))) sa_nil)) (se_c (c__law_draw T) hr (by decide) hgd (by rfl) (sa_cons (se_var 0) (sa_cons (se_op op_addA s_add (se_op op_mulA s_mul se_int (se_var 5)) se_int) sa_nil)))) (sa_cons (se_var 5) sa_nil)))))))))
    (ss_one (ss_app 1 (se_callTy call_tuple_of s_tuple (by rfl) T.b_tuple PyProof.Rows.boot_tuple (sa_cons (se_var 3) sa_nil)))))))
    (ss_cons (ss_par (i := 8) (j := 9) rfl S__law_rates_hold.nd (sp_e (se_ofL (sl_lc (own := [(PySem.Str.ofString "own", 7)]) rfl S__law_rates_hold.nd (si_seq (se_frz 1)) (blkOk_by (own := [(PySem.Str.ofString "own", 7)]) (N := N__law_rates_hold) (sc := defScope s__law_rates_hold) (by decide +kernel)) (fun _ _ _ _ _ => (sg_name (i := 7) S__law_rates_hold.nd)) (fun _ _ _ _ _ => sts_nil) (fun _ _ _ _ _ => (se_c (c_judge_rate T) hr (by decide) hgd (by rfl) (sa_cons (se_var 7) sa_nil))) (by decide))) (sp_e (se_c (c_judge_rate T) hr (by decide) hgd (by rfl) (sa_cons (se_op op_addA s_add (se_ix (se_var 1) se_int (fun _ _ => rfl)) (se_ix (se_var 1) se_int (fun _ _ => rfl))) sa_nil)) sp_nil)) (by decide))
    (ss_cons (ss_if (st_cmp (op_inA hu) s_in se_str (se_ofL (sl_lc (own := [(PySem.Str.ofString "own", 7)]) rfl S__law_rates_hold.nd (si_seq (se_var 8)) (blkOk_by (own := [(PySem.Str.ofString "own", 7)]) (N := N__law_rates_hold) (sc := defScope s__law_rates_hold) (by decide +kernel)) (fun _ _ _ _ _ => (sg_name (i := 7) S__law_rates_hold.nd)) (fun _ _ _ _ _ => sts_nil) (fun _ _ _ _ _ => (se_ix (se_var 7) se_int (fun _ _ => rfl))) (by decide))) (by rfl)) (ss_one (ss_ret (se_cmp (op_eqA hu) s_eq (se_ix (se_var 9) se_int (fun _ _ => rfl)) se_str (by rfl)))) ss_nil)
    (ss_cons (ss_par (i := 10) (j := 6) rfl S__law_rates_hold.nd (sp_e (se_ix (se_ix (se_var 8) se_int (fun _ _ => rfl)) se_int (fun _ _ => rfl)) (sp_e (se_ix (se_ix (se_var 8) se_int (fun _ _ => rfl)) se_int (fun _ _ => rfl)) sp_nil)) (by decide))
    (ss_cons (ss_par (i := 10) (j := 6) rfl S__law_rates_hold.nd (sp_e (se_ifE (st_tru (se_c (c__law_less T) hr (by decide) hgd (by rfl) (sa_cons (se_var 10) (sa_cons (se_ix (se_ix (se_var 8) se_int (fun _ _ => rfl)) se_int (fun _ _ => rfl)) sa_nil)))) (se_ix (se_ix (se_var 8) se_int (fun _ _ => rfl)) se_int (fun _ _ => rfl)) (se_var 10)) (sp_e (se_ifE (st_tru (se_c (c__law_less T) hr (by decide) hgd (by rfl) (sa_cons (se_ix (se_ix (se_var 8) se_int (fun _ _ => rfl)) se_int (fun _ _ => rfl)) (sa_cons (se_var 6) sa_nil)))) (se_ix (se_ix (se_var 8) se_int (fun _ _ => rfl)) se_int (fun _ _ => rfl)) (se_var 6)) sp_nil)) (by decide))
    (ss_cons (ss_if (st_tru (se_c (c__law_less T) hr (by decide) hgd (by rfl) (sa_cons (se_var 6) (sa_cons (se_var 10) sa_nil)))) (ss_one (ss_ret (se_andT (se_cmp (op_eqA hu) s_eq (se_ix (se_var 9) se_int (fun _ _ => rfl)) se_str (by rfl)) (se_one (se_cmp (op_neA hu) s_ne (se_ix (se_var 9) se_int (fun _ _ => rfl)) (se_ix (se_var 9) se_int (fun _ _ => rfl)) (by rfl)))))) ss_nil)
    (ss_cons (ss_if (st_cmp (op_neA hu) s_ne (se_var 9) (se_tup (sa_cons se_str (sa_cons (se_var 10) (sa_cons (se_var 6) sa_nil)))) (by rfl)) (ss_one (ss_ret se_bl)) ss_nil)
    (ss_one (ss_ret (se_cmp (op_eqA hu) s_eq (se_ofL (sl_lc (own := [(PySem.Str.ofString "own", 7)]) rfl S__law_rates_hold.nd (si_seq (se_ofL (sl_lst (sa_cons (se_var 10) (sa_cons (se_var 6) sa_nil))))) (blkOk_by (own := [(PySem.Str.ofString "own", 7)]) (N := N__law_rates_hold) (sc := defScope s__law_rates_hold) (by decide +kernel)) (fun _ _ _ _ _ => (sg_name (i := 7) S__law_rates_hold.nd)) (fun _ _ _ _ _ => (sts_one (st_not (st_tru (se_tk (tk_accept_rate T) hr (by decide) hgd (by rfl) (by rfl) (se_ofL (sl_lst (sa_cons (se_op op_addA s_add (se_ix (se_var 1) se_int (fun _ _ => rfl)) (se_ix (se_var 1) se_int (fun _ _ => rfl))) (sa_cons (se_var 7) sa_nil))))))))) (fun _ _ _ _ _ => (se_var 7)) (by decide))) (se_ofL (sl_lst sa_nil)) (by rfl))))))))))))
theorem c__law_rates_hold (T : Top P K mg) : Cal P w K mg base 6 (PySem.Str.ofString "_law_rates_hold") g__law_rates_hold 1 10 [] := by
  obtain ⟨f, fd, D⟩ := T.d__law_rates_hold
  exact cal_of D (f__law_rates_hold T D) rfl fun _ _ _ _ _ _ us hl => match us, hl with | [_], _ => rfl
theorem f_law {f : Addr} {fd : FuncData} (T : Top P K mg) (D : Df K mg (PySem.Str.ofString "law") s_law [] f fd) : FnG P w K mg base 7 f fd [PySem.Str.ofString "script"] (spF K g_law 1 2) := by
  refine okD_def (n := 2) D.fn S_law rfl fun cdv A outer s H E hr hgd => ?_
  have hu : (A.deeper (envOfC (PySem.Str.ofString "law") (defScope s_law) s.heap.objs.size f cdv)).units + 200 < cLine := by have := hr.un; omega
  exact (ss_cons (ss_setL (i := 1) S_law.nd (sl_call0 (c__law_start T) hr (by decide) hgd (by rfl) (sa_cons (se_var 0) sa_nil)))
    (ss_cons (ss_for PassesOwn.never rfl (si_range1 (by rfl) T.b_range se_int) (sg_name (i := 2) S_law.nd) (ss_one (ss_if (st_w (st_or (st_not (st_tru (se_c (c__law_worn_holds T) hr (by decide) hgd (by rfl) (sa_cons (se_var 1) sa_nil)))) (st_or (st_not (st_tru (se_c (c__law_casts_hold T) hr (by decide) hgd (by rfl) (sa_cons (se_var 1) sa_nil)))) (st_or1 (st_not (st_tru (se_c (c__law_rates_hold T) hr (by decide) hgd (by rfl) (sa_cons (se_var 1) sa_nil)))))))) (ss_one (ss_ret se_bl)) ss_nil)))
    (ss_one (ss_ret se_bl))))
end
theorem all_mk {l : PySem.W.OpenLaw} {w : World} {K : PySem.W.Frag} {h : Heap} {mg : Str → Option Value} {fa : Addr} {f0 : Addr} {od0 an0 : Option Addr} {sl0 : Array (Option Value)} {oc0 kV0 dc0 pm0 cd0 ct0 : Value} {f1 : Addr} {od1 an1 : Option Addr} {sl1 : Array (Option Value)} {oc1 kV1 dc1 pm1 cd1 ct1 : Value} {f2 : Addr} {od2 an2 : Option Addr} {sl2 : Array (Option Value)} {oc2 kV2 dc2 pm2 cd2 ct2 : Value} {f3 : Addr} {od3 an3 : Option Addr} {sl3 : Array (Option Value)} {oc3 kV3 dc3 pm3 cd3 ct3 : Value} {f4 : Addr} {od4 an4 : Option Addr} {sl4 : Array (Option Value)} {oc4 kV4 dc4 pm4 cd4 ct4 : Value} {f5 : Addr} {od5 an5 : Option Addr} {sl5 : Array (Option Value)} {oc5 kV5 dc5 pm5 cd5 ct5 : Value} {f6 : Addr} {od6 an6 : Option Addr} {sl6 : Array (Option Value)} {oc6 kV6 dc6 pm6 cd6 ct6 : Value} {f7 : Addr} {od7 an7 : Option Addr} {sl7 : Array (Option Value)} {oc7 kV7 dc7 pm7 cd7 ct7 : Value} {f8 : Addr} {od8 an8 : Option Addr} {sl8 : Array (Option Value)} {oc8 kV8 dc8 pm8 cd8 ct8 : Value} {f9 : Addr} {od9 an9 : Option Addr} {sl9 : Array (Option Value)} {oc9 kV9 dc9 pm9 cd9 ct9 : Value} {f10 : Addr} {od10 an10 : Option Addr} {sl10 : Array (Option Value)} {oc10 kV10 dc10 pm10 cd10 ct10 : Value} {f11 : Addr} {od11 an11 : Option Addr} {sl11 : Array (Option Value)} {oc11 kV11 dc11 pm11 cd11 ct11 : Value} {f12 : Addr} {od12 an12 : Option Addr} {sl12 : Array (Option Value)} {oc12 kV12 dc12 pm12 cd12 ct12 : Value} {f13 : Addr} {od13 an13 : Option Addr} {sl13 : Array (Option Value)} {oc13 kV13 dc13 pm13 cd13 ct13 : Value} {f14 : Addr} {od14 an14 : Option Addr} {sl14 : Array (Option Value)} {oc14 kV14 dc14 pm14 cd14 ct14 : Value} {f15 : Addr} {od15 an15 : Option Addr} {sl15 : Array (Option Value)} {oc15 kV15 dc15 pm15 cd15 ct15 : Value} {f16 : Addr} {od16 an16 : Option Addr} {sl16 : Array (Option Value)} {oc16 kV16 dc16 pm16 cd16 ct16 : Value} {f17 : Addr} {od17 an17 : Option Addr} {sl17 : Array (Option Value)} {oc17 kV17 dc17 pm17 cd17 ct17 : Value} {f18 : Addr} {od18 an18 : Option Addr} {sl18 : Array (Option Value)} {oc18 kV18 dc18 pm18 cd18 ct18 : Value} {f19 : Addr} {od19 an19 : Option Addr} {sl19 : Array (Option Value)} {oc19 kV19 dc19 pm19 cd19 ct19 : Value} {f20 : Addr} {od20 an20 : Option Addr} {sl20 : Array (Option Value)} {oc20 kV20 dc20 pm20 cd20 ct20 : Value} {f21 : Addr} {od21 an21 : Option Addr} {sl21 : Array (Option Value)} {oc21 kV21 dc21 pm21 cd21 ct21 : Value} {f22 : Addr} {od22 an22 : Option Addr} {sl22 : Array (Option Value)} {oc22 kV22 dc22 pm22 cd22 ct22 : Value} {f23 : Addr} {od23 an23 : Option Addr} {sl23 : Array (Option Value)} {oc23 kV23 dc23 pm23 cd23 ct23 : Value} {f24 : Addr} {od24 an24 : Option Addr} {sl24 : Array (Option Value)} {oc24 kV24 dc24 pm24 cd24 ct24 : Value} {f25 : Addr} {od25 an25 : Option Addr} {sl25 : Array (Option Value)} {oc25 kV25 dc25 pm25 cd25 ct25 : Value} {f26 : Addr} {od26 an26 : Option Addr} {sl26 : Array (Option Value)} {oc26 kV26 dc26 pm26 cd26 ct26 : Value} {f27 : Addr} {od27 an27 : Option Addr} {sl27 : Array (Option Value)} {oc27 kV27 dc27 pm27 cd27 ct27 : Value} {f28 : Addr} {od28 an28 : Option Addr} {sl28 : Array (Option Value)} {oc28 kV28 dc28 pm28 cd28 ct28 : Value} {tz_MAX_COINS : Tok} {tz_MAX_FLAWS : Tok} {tz_MAX_SIZE : Tok} {tz_MAX_YEARS : Tok} {tz_WHOLE : Tok} {CE fIE CB : Addr} {nmE qE : Str} {NE : Addr} {bsE : List Value} {snE : List Str} {subE : List Value} {abE : Bool} {colE : Option Bool} {ddE : Option Addr} {me0 me1 me2 me3 me5 : Option Value} {odE anE : Option Addr} {slE : Array (Option Value)} {ocE dcE pmE ctE : Value} {cdaE ccE : Addr} {qnE : Str} {cclE : Value} {cddE : Option Addr} {vsE : Array Value} {ccsE : Array (Option Value)} {fileE : Str} {tfE : Tok} {clE : Value} {cldE : Option Addr} {cslE : Array (Option Value)}
    (X : K.In h) (G : h.Ns mainGlobals mg) (hfa : mg (PySem.Str.ofString "law") = some (.ref fa))
    (a0 : PySem.W.nsIn K mainGlobals (PySem.Str.ofString "_law_start") = some (some (.ref f0)))
    (l0 : K.lookup f0 = some ⟨oc0, od0, .func (PySem.W.fnOf (PySem.Str.ofString "_law_start") (PySem.Str.ofString "_law_start") (defArgs s__law_start) (defBody s__law_start) (defScope s__law_start) .none kV0 dc0 pm0 an0 cd0 ct0), sl0⟩)
    (c0 : PySem.W.codeIn K cd0 (PySem.Str.ofString "_law_start") = true)
    (k0 : PySem.W.keepIn K (.ref f0) = true)
    (a1 : PySem.W.nsIn K mainGlobals (PySem.Str.ofString "_law_draw") = some (some (.ref f1)))
    (l1 : K.lookup f1 = some ⟨oc1, od1, .func (PySem.W.fnOf (PySem.Str.ofString "_law_draw") (PySem.Str.ofString "_law_draw") (defArgs s__law_draw) (defBody s__law_draw) (defScope s__law_draw) .none kV1 dc1 pm1 an1 cd1 ct1), sl1⟩)
    (c1 : PySem.W.codeIn K cd1 (PySem.Str.ofString "_law_draw") = true)
    (k1 : PySem.W.keepIn K (.ref f1) = true)
    (a2 : PySem.W.nsIn K mainGlobals (PySem.Str.ofString "is_integer") = some (some (.ref f2)))
    (l2 : K.lookup f2 = some ⟨oc2, od2, .func (PySem.W.fnOf (PySem.Str.ofString "is_integer") (PySem.Str.ofString "is_integer") (defArgs s_is_integer) (defBody s_is_integer) (defScope s_is_integer) .none kV2 dc2 pm2 an2 cd2 ct2), sl2⟩)
    (c2 : PySem.W.codeIn K cd2 (PySem.Str.ofString "is_integer") = true)
    (k2 : PySem.W.keepIn K (.ref f2) = true)
    (a3 : PySem.W.nsIn K mainGlobals (PySem.Str.ofString "is_amount") = some (some (.ref f3)))
    (l3 : K.lookup f3 = some ⟨oc3, od3, .func (PySem.W.fnOf (PySem.Str.ofString "is_amount") (PySem.Str.ofString "is_amount") (defArgs s_is_amount) (defBody s_is_amount) (defScope s_is_amount) .none kV3 dc3 pm3 an3 cd3 ct3), sl3⟩)
    (c3 : PySem.W.codeIn K cd3 (PySem.Str.ofString "is_amount") = true)
    (k3 : PySem.W.keepIn K (.ref f3) = true)
    (a4 : PySem.W.nsIn K mainGlobals (PySem.Str.ofString "check_standard") = some (some (.ref f4)))
    (l4 : K.lookup f4 = some ⟨oc4, od4, .func (PySem.W.fnOf (PySem.Str.ofString "check_standard") (PySem.Str.ofString "check_standard") (defArgs s_check_standard) (defBody s_check_standard) (defScope s_check_standard) .none kV4 dc4 pm4 an4 cd4 ct4), sl4⟩)
    (c4 : PySem.W.codeIn K cd4 (PySem.Str.ofString "check_standard") = true)
    (k4 : PySem.W.keepIn K (.ref f4) = true)
    (a5 : PySem.W.nsIn K mainGlobals (PySem.Str.ofString "check_years") = some (some (.ref f5)))
    (l5 : K.lookup f5 = some ⟨oc5, od5, .func (PySem.W.fnOf (PySem.Str.ofString "check_years") (PySem.Str.ofString "check_years") (defArgs s_check_years) (defBody s_check_years) (defScope s_check_years) .none kV5 dc5 pm5 an5 cd5 ct5), sl5⟩)
    (c5 : PySem.W.codeIn K cd5 (PySem.Str.ofString "check_years") = true)
    (k5 : PySem.W.keepIn K (.ref f5) = true)
    (a6 : PySem.W.nsIn K mainGlobals (PySem.Str.ofString "can_weigh") = some (some (.ref f6)))
    (l6 : K.lookup f6 = some ⟨oc6, od6, .func (PySem.W.fnOf (PySem.Str.ofString "can_weigh") (PySem.Str.ofString "can_weigh") (defArgs s_can_weigh) (defBody s_can_weigh) (defScope s_can_weigh) .none kV6 dc6 pm6 an6 cd6 ct6), sl6⟩)
    (c6 : PySem.W.codeIn K cd6 (PySem.Str.ofString "can_weigh") = true)
    (k6 : PySem.W.keepIn K (.ref f6) = true)
    (a7 : PySem.W.nsIn K mainGlobals (PySem.Str.ofString "check_weights") = some (some (.ref f7)))
    (l7 : K.lookup f7 = some ⟨oc7, od7, .func (PySem.W.fnOf (PySem.Str.ofString "check_weights") (PySem.Str.ofString "check_weights") (defArgs s_check_weights) (defBody s_check_weights) (defScope s_check_weights) .none kV7 dc7 pm7 an7 cd7 ct7), sl7⟩)
    (c7 : PySem.W.codeIn K cd7 (PySem.Str.ofString "check_weights") = true)
    (k7 : PySem.W.keepIn K (.ref f7) = true)
    (a8 : PySem.W.nsIn K mainGlobals (PySem.Str.ofString "span_of") = some (some (.ref f8)))
    (l8 : K.lookup f8 = some ⟨oc8, od8, .func (PySem.W.fnOf (PySem.Str.ofString "span_of") (PySem.Str.ofString "span_of") (defArgs s_span_of) (defBody s_span_of) (defScope s_span_of) .none kV8 dc8 pm8 an8 cd8 ct8), sl8⟩)
    (c8 : PySem.W.codeIn K cd8 (PySem.Str.ofString "span_of") = true)
    (k8 : PySem.W.keepIn K (.ref f8) = true)
    (a9 : PySem.W.nsIn K mainGlobals (PySem.Str.ofString "surely_older") = some (some (.ref f9)))
    (l9 : K.lookup f9 = some ⟨oc9, od9, .func (PySem.W.fnOf (PySem.Str.ofString "surely_older") (PySem.Str.ofString "surely_older") (defArgs s_surely_older) (defBody s_surely_older) (defScope s_surely_older) .none kV9 dc9 pm9 an9 cd9 ct9), sl9⟩)
    (c9 : PySem.W.codeIn K cd9 (PySem.Str.ofString "surely_older") = true)
    (k9 : PySem.W.keepIn K (.ref f9) = true)
    (a10 : PySem.W.nsIn K mainGlobals (PySem.Str.ofString "check_weight") = some (some (.ref f10)))
    (l10 : K.lookup f10 = some ⟨oc10, od10, .func (PySem.W.fnOf (PySem.Str.ofString "check_weight") (PySem.Str.ofString "check_weight") (defArgs s_check_weight) (defBody s_check_weight) (defScope s_check_weight) .none kV10 dc10 pm10 an10 cd10 ct10), sl10⟩)
    (c10 : PySem.W.codeIn K cd10 (PySem.Str.ofString "check_weight") = true)
    (k10 : PySem.W.keepIn K (.ref f10) = true)
    (a11 : PySem.W.nsIn K mainGlobals (PySem.Str.ofString "years_for") = some (some (.ref f11)))
    (l11 : K.lookup f11 = some ⟨oc11, od11, .func (PySem.W.fnOf (PySem.Str.ofString "years_for") (PySem.Str.ofString "years_for") (defArgs s_years_for) (defBody s_years_for) (defScope s_years_for) .none kV11 dc11 pm11 an11 cd11 ct11), sl11⟩)
    (c11 : PySem.W.codeIn K cd11 (PySem.Str.ofString "years_for") = true)
    (k11 : PySem.W.keepIn K (.ref f11) = true)
    (a12 : PySem.W.nsIn K mainGlobals (PySem.Str.ofString "judge_common") = some (some (.ref f12)))
    (l12 : K.lookup f12 = some ⟨oc12, od12, .func (PySem.W.fnOf (PySem.Str.ofString "judge_common") (PySem.Str.ofString "judge_common") (defArgs s_judge_common) (defBody s_judge_common) (defScope s_judge_common) .none kV12 dc12 pm12 an12 cd12 ct12), sl12⟩)
    (c12 : PySem.W.codeIn K cd12 (PySem.Str.ofString "judge_common") = true)
    (k12 : PySem.W.keepIn K (.ref f12) = true)
    (a13 : PySem.W.nsIn K mainGlobals (PySem.Str.ofString "struck_between") = some (some (.ref f13)))
    (l13 : K.lookup f13 = some ⟨oc13, od13, .func (PySem.W.fnOf (PySem.Str.ofString "struck_between") (PySem.Str.ofString "struck_between") (defArgs s_struck_between) (defBody s_struck_between) (defScope s_struck_between) .none kV13 dc13 pm13 an13 cd13 ct13), sl13⟩)
    (c13 : PySem.W.codeIn K cd13 (PySem.Str.ofString "struck_between") = true)
    (k13 : PySem.W.keepIn K (.ref f13) = true)
    (a14 : PySem.W.nsIn K mainGlobals (PySem.Str.ofString "_law_same") = some (some (.ref f14)))
    (l14 : K.lookup f14 = some ⟨oc14, od14, .func (PySem.W.fnOf (PySem.Str.ofString "_law_same") (PySem.Str.ofString "_law_same") (defArgs s__law_same) (defBody s__law_same) (defScope s__law_same) .none kV14 dc14 pm14 an14 cd14 ct14), sl14⟩)
    (c14 : PySem.W.codeIn K cd14 (PySem.Str.ofString "_law_same") = true)
    (k14 : PySem.W.keepIn K (.ref f14) = true)
    (a15 : PySem.W.nsIn K mainGlobals (PySem.Str.ofString "_law_is_taken") = some (some (.ref f15)))
    (l15 : K.lookup f15 = some ⟨oc15, od15, .func (PySem.W.fnOf (PySem.Str.ofString "_law_is_taken") (PySem.Str.ofString "_law_is_taken") (defArgs s__law_is_taken) (defBody s__law_is_taken) (defScope s__law_is_taken) .none kV15 dc15 pm15 an15 cd15 ct15), sl15⟩)
    (c15 : PySem.W.codeIn K cd15 (PySem.Str.ofString "_law_is_taken") = true)
    (k15 : PySem.W.keepIn K (.ref f15) = true)
    (a16 : PySem.W.nsIn K mainGlobals (PySem.Str.ofString "accept_years") = some (some (.ref f16)))
    (l16 : K.lookup f16 = some ⟨oc16, od16, .func (PySem.W.fnOf (PySem.Str.ofString "accept_years") (PySem.Str.ofString "accept_years") (defArgs s_x_accept_years) (defBody s_x_accept_years) (defScope s_x_accept_years) .none kV16 dc16 pm16 an16 cd16 ct16), sl16⟩)
    (c16 : PySem.W.codeIn K cd16 (PySem.Str.ofString "accept_years") = true)
    (k16 : PySem.W.keepIn K (.ref f16) = true)
    (a17 : PySem.W.nsIn K mainGlobals (PySem.Str.ofString "_law_worn_holds") = some (some (.ref f17)))
    (l17 : K.lookup f17 = some ⟨oc17, od17, .func (PySem.W.fnOf (PySem.Str.ofString "_law_worn_holds") (PySem.Str.ofString "_law_worn_holds") (defArgs s__law_worn_holds) (defBody s__law_worn_holds) (defScope s__law_worn_holds) .none kV17 dc17 pm17 an17 cd17 ct17), sl17⟩)
    (c17 : PySem.W.codeIn K cd17 (PySem.Str.ofString "_law_worn_holds") = true)
    (k17 : PySem.W.keepIn K (.ref f17) = true)
    (a18 : PySem.W.nsIn K mainGlobals (PySem.Str.ofString "check_width") = some (some (.ref f18)))
    (l18 : K.lookup f18 = some ⟨oc18, od18, .func (PySem.W.fnOf (PySem.Str.ofString "check_width") (PySem.Str.ofString "check_width") (defArgs s_check_width) (defBody s_check_width) (defScope s_check_width) .none kV18 dc18 pm18 an18 cd18 ct18), sl18⟩)
    (c18 : PySem.W.codeIn K cd18 (PySem.Str.ofString "check_width") = true)
    (k18 : PySem.W.keepIn K (.ref f18) = true)
    (a19 : PySem.W.nsIn K mainGlobals (PySem.Str.ofString "cast_times") = some (some (.ref f19)))
    (l19 : K.lookup f19 = some ⟨oc19, od19, .func (PySem.W.fnOf (PySem.Str.ofString "cast_times") (PySem.Str.ofString "cast_times") (defArgs s_cast_times) (defBody s_cast_times) (defScope s_cast_times) .none kV19 dc19 pm19 an19 cd19 ct19), sl19⟩)
    (c19 : PySem.W.codeIn K cd19 (PySem.Str.ofString "cast_times") = true)
    (k19 : PySem.W.keepIn K (.ref f19) = true)
    (a20 : PySem.W.nsIn K mainGlobals (PySem.Str.ofString "_law_casts_hold") = some (some (.ref f20)))
    (l20 : K.lookup f20 = some ⟨oc20, od20, .func (PySem.W.fnOf (PySem.Str.ofString "_law_casts_hold") (PySem.Str.ofString "_law_casts_hold") (defArgs s__law_casts_hold) (defBody s__law_casts_hold) (defScope s__law_casts_hold) .none kV20 dc20 pm20 an20 cd20 ct20), sl20⟩)
    (c20 : PySem.W.codeIn K cd20 (PySem.Str.ofString "_law_casts_hold") = true)
    (k20 : PySem.W.keepIn K (.ref f20) = true)
    (a21 : PySem.W.nsIn K mainGlobals (PySem.Str.ofString "_law_less") = some (some (.ref f21)))
    (l21 : K.lookup f21 = some ⟨oc21, od21, .func (PySem.W.fnOf (PySem.Str.ofString "_law_less") (PySem.Str.ofString "_law_less") (defArgs s__law_less) (defBody s__law_less) (defScope s__law_less) .none kV21 dc21 pm21 an21 cd21 ct21), sl21⟩)
    (c21 : PySem.W.codeIn K cd21 (PySem.Str.ofString "_law_less") = true)
    (k21 : PySem.W.keepIn K (.ref f21) = true)
    (a22 : PySem.W.nsIn K mainGlobals (PySem.Str.ofString "check_dated") = some (some (.ref f22)))
    (l22 : K.lookup f22 = some ⟨oc22, od22, .func (PySem.W.fnOf (PySem.Str.ofString "check_dated") (PySem.Str.ofString "check_dated") (defArgs s_check_dated) (defBody s_check_dated) (defScope s_check_dated) .none kV22 dc22 pm22 an22 cd22 ct22), sl22⟩)
    (c22 : PySem.W.codeIn K cd22 (PySem.Str.ofString "check_dated") = true)
    (k22 : PySem.W.keepIn K (.ref f22) = true)
    (a23 : PySem.W.nsIn K mainGlobals (PySem.Str.ofString "less") = some (some (.ref f23)))
    (l23 : K.lookup f23 = some ⟨oc23, od23, .func (PySem.W.fnOf (PySem.Str.ofString "less") (PySem.Str.ofString "less") (defArgs s_less) (defBody s_less) (defScope s_less) .none kV23 dc23 pm23 an23 cd23 ct23), sl23⟩)
    (c23 : PySem.W.codeIn K cd23 (PySem.Str.ofString "less") = true)
    (k23 : PySem.W.keepIn K (.ref f23) = true)
    (a24 : PySem.W.nsIn K mainGlobals (PySem.Str.ofString "quotient") = some (some (.ref f24)))
    (l24 : K.lookup f24 = some ⟨oc24, od24, .func (PySem.W.fnOf (PySem.Str.ofString "quotient") (PySem.Str.ofString "quotient") (defArgs s_quotient) (defBody s_quotient) (defScope s_quotient) .none kV24 dc24 pm24 an24 cd24 ct24), sl24⟩)
    (c24 : PySem.W.codeIn K cd24 (PySem.Str.ofString "quotient") = true)
    (k24 : PySem.W.keepIn K (.ref f24) = true)
    (a25 : PySem.W.nsIn K mainGlobals (PySem.Str.ofString "judge_rate") = some (some (.ref f25)))
    (l25 : K.lookup f25 = some ⟨oc25, od25, .func (PySem.W.fnOf (PySem.Str.ofString "judge_rate") (PySem.Str.ofString "judge_rate") (defArgs s_judge_rate) (defBody s_judge_rate) (defScope s_judge_rate) .none kV25 dc25 pm25 an25 cd25 ct25), sl25⟩)
    (c25 : PySem.W.codeIn K cd25 (PySem.Str.ofString "judge_rate") = true)
    (k25 : PySem.W.keepIn K (.ref f25) = true)
    (a26 : PySem.W.nsIn K mainGlobals (PySem.Str.ofString "accept_rate") = some (some (.ref f26)))
    (l26 : K.lookup f26 = some ⟨oc26, od26, .func (PySem.W.fnOf (PySem.Str.ofString "accept_rate") (PySem.Str.ofString "accept_rate") (defArgs s_x_accept_rate) (defBody s_x_accept_rate) (defScope s_x_accept_rate) .none kV26 dc26 pm26 an26 cd26 ct26), sl26⟩)
    (c26 : PySem.W.codeIn K cd26 (PySem.Str.ofString "accept_rate") = true)
    (k26 : PySem.W.keepIn K (.ref f26) = true)
    (a27 : PySem.W.nsIn K mainGlobals (PySem.Str.ofString "_law_rates_hold") = some (some (.ref f27)))
    (l27 : K.lookup f27 = some ⟨oc27, od27, .func (PySem.W.fnOf (PySem.Str.ofString "_law_rates_hold") (PySem.Str.ofString "_law_rates_hold") (defArgs s__law_rates_hold) (defBody s__law_rates_hold) (defScope s__law_rates_hold) .none kV27 dc27 pm27 an27 cd27 ct27), sl27⟩)
    (c27 : PySem.W.codeIn K cd27 (PySem.Str.ofString "_law_rates_hold") = true)
    (k27 : PySem.W.keepIn K (.ref f27) = true)
    (a28 : PySem.W.nsIn K mainGlobals (PySem.Str.ofString "law") = some (some (.ref f28)))
    (l28 : K.lookup f28 = some ⟨oc28, od28, .func (PySem.W.fnOf (PySem.Str.ofString "law") (PySem.Str.ofString "law") (defArgs s_law) (defBody s_law) (defScope s_law) .none kV28 dc28 pm28 an28 cd28 ct28), sl28⟩)
    (c28 : PySem.W.codeIn K cd28 (PySem.Str.ofString "law") = true)
    (k28 : PySem.W.keepIn K (.ref f28) = true)
    (zb_abs : PySem.W.nsIn K mainGlobals (PySem.Str.ofString "abs") = some none)
    (zb_all : PySem.W.nsIn K mainGlobals (PySem.Str.ofString "all") = some none)
    (zb_bool : PySem.W.nsIn K mainGlobals (PySem.Str.ofString "bool") = some none)
    (zb_enumerate : PySem.W.nsIn K mainGlobals (PySem.Str.ofString "enumerate") = some none)
    (zb_int : PySem.W.nsIn K mainGlobals (PySem.Str.ofString "int") = some none)
    (zb_isinstance : PySem.W.nsIn K mainGlobals (PySem.Str.ofString "isinstance") = some none)
    (zb_len : PySem.W.nsIn K mainGlobals (PySem.Str.ofString "len") = some none)
    (zb_list : PySem.W.nsIn K mainGlobals (PySem.Str.ofString "list") = some none)
    (zb_max : PySem.W.nsIn K mainGlobals (PySem.Str.ofString "max") = some none)
    (zb_min : PySem.W.nsIn K mainGlobals (PySem.Str.ofString "min") = some none)
    (zb_range : PySem.W.nsIn K mainGlobals (PySem.Str.ofString "range") = some none)
    (zb_repr : PySem.W.nsIn K mainGlobals (PySem.Str.ofString "repr") = some none)
    (zb_tuple : PySem.W.nsIn K mainGlobals (PySem.Str.ofString "tuple") = some none)
    (zk_MAX_COINS : PySem.W.nsIn K mainGlobals (PySem.Str.ofString "MAX_COINS") = some (some (.int 60 tz_MAX_COINS)))
    (zk_MAX_FLAWS : PySem.W.nsIn K mainGlobals (PySem.Str.ofString "MAX_FLAWS") = some (some (.int 12 tz_MAX_FLAWS)))
    (zk_MAX_SIZE : PySem.W.nsIn K mainGlobals (PySem.Str.ofString "MAX_SIZE") = some (some (.int 1000000000000 tz_MAX_SIZE)))
    (zk_MAX_YEARS : PySem.W.nsIn K mainGlobals (PySem.Str.ofString "MAX_YEARS") = some (some (.int 5000 tz_MAX_YEARS)))
    (zk_WHOLE : PySem.W.nsIn K mainGlobals (PySem.Str.ofString "WHOLE") = some (some (.int 1000 tz_WHOLE)))
    (xaC : PySem.W.nsIn K mainGlobals (PySem.Str.ofString "PaperError") = some (some (.ref CE)))
    (xL : K.lookup CE = some (excClassObj nmE qE CE NE bsE [.ref CB, .type "ValueError", .type "Exception", .type "BaseException", .type "object"] true snE subE abE colE ddE me0 me1 me2 me3 me5 "ValueError.__new__"))
    (xsa : PySem.W.findIn K (.ref CE) (PySem.Str.ofString "__setattr__") = some (some (.builtin "object.__setattr__")))
    (xnb : PySem.W.findIn K (.ref CE) (PySem.Str.ofString "reason") = some none)
    (xa1 : PySem.W.findIn K (.ref CE) (PySem.Str.ofString "__init__") = some (some (.ref fIE)))
    (xt1 : PySem.W.typeIn K (.ref fIE) = some (.type "function"))
    (xl1 : K.lookup fIE = some ⟨ocE, odE, .func (PySem.W.ksFn (PySem.Str.ofString "__init__") qnE (defArgs (initOf s_PaperError)) (defBody (initOf s_PaperError)) (defScope (initOf s_PaperError)) .none .none dcE pmE anE (.ref cdaE) ctE ccE), slE⟩)
    (xc1 : PySem.W.codeIn K (.ref cdaE) qnE = true)
    (xcode : K.lookup cdaE = some ⟨cclE, cddE, .fields vsE, ccsE⟩)
    (xvs : vsE[2]? = some (.str fileE tfE))
    (xfile : ((l.prog.main.file : Str) == fileE) = true)
    (xcell : K.lookup ccE = some ⟨clE, cldE, .cell (some (.ref CE)), cslE⟩)
    (xkC : PySem.W.keepIn K (.ref CE) = true)
    (xeC : PySem.W.subIn K (.ref CE) (.type "BaseException") = some true)
    (xvC : PySem.W.subIn K (.ref CE) (.type "ValueError") = some true)
    (xtC : PySem.W.typeIn K (.ref CE) = some (.type "type"))
    (xiC : PySem.W.isClsIn K CE = true)
    (xsC : PySem.W.subIn K (.ref CE) (.ref CE) = some true)
    (xmC : PySem.W.mroIn K CE (.ref CE) = some true)
    (xopq : PySem.W.nsIn K cStatics (PySem.Str.ofString "thirdparty.any") = some none)
    (xsup : PySem.W.nsIn K mainGlobals (PySem.Str.ofString "super") = some none)
    (xhm : PySem.W.ks_superIn K CE CE (PySem.Str.ofString "__init__") = some (some (.builtin "ValueError.__init__")))
    (xtop : (l.prog.main.scope.names.lookup (PySem.Str.ofString "super")).isSome = false)
    : ∃ fd : FuncData, (∀ (s : Shared) (v : Value), BindsTo s fd ⟨[v], []⟩ [(PySem.Str.ofString "script", v)]) ∧ ∀ base : Heap, K.In base → base.Ns mainGlobals mg → FnG l.prog w K mg base 7 fa fd [PySem.Str.ofString "script"] (spF K g_law 1 2) := by
  have e := hfa.symm.trans (PySem.W.mg_of X G a28)
  cases e
  have T : Top l.prog K mg := {
    d__law_start := ⟨_, _, ⟨⟨_, _, .none, _, _, _, _, _, _, _, rfl, l0, c0, .inl ⟨rfl, rfl⟩, .inl rfl⟩, k0⟩, PySem.W.mg_of X G a0⟩
    d__law_draw := ⟨_, _, ⟨⟨_, _, .none, _, _, _, _, _, _, _, rfl, l1, c1, .inl ⟨rfl, rfl⟩, .inl rfl⟩, k1⟩, PySem.W.mg_of X G a1⟩
    d_is_integer := ⟨_, _, ⟨⟨_, _, .none, _, _, _, _, _, _, _, rfl, l2, c2, .inl ⟨rfl, rfl⟩, .inl rfl⟩, k2⟩, PySem.W.mg_of X G a2⟩
    d_is_amount := ⟨_, _, ⟨⟨_, _, .none, _, _, _, _, _, _, _, rfl, l3, c3, .inl ⟨rfl, rfl⟩, .inl rfl⟩, k3⟩, PySem.W.mg_of X G a3⟩
    d_check_standard := ⟨_, _, ⟨⟨_, _, .none, _, _, _, _, _, _, _, rfl, l4, c4, .inl ⟨rfl, rfl⟩, .inl rfl⟩, k4⟩, PySem.W.mg_of X G a4⟩
    d_check_years := ⟨_, _, ⟨⟨_, _, .none, _, _, _, _, _, _, _, rfl, l5, c5, .inl ⟨rfl, rfl⟩, .inl rfl⟩, k5⟩, PySem.W.mg_of X G a5⟩
    d_can_weigh := ⟨_, _, ⟨⟨_, _, .none, _, _, _, _, _, _, _, rfl, l6, c6, .inl ⟨rfl, rfl⟩, .inl rfl⟩, k6⟩, PySem.W.mg_of X G a6⟩
    d_check_weights := ⟨_, _, ⟨⟨_, _, .none, _, _, _, _, _, _, _, rfl, l7, c7, .inl ⟨rfl, rfl⟩, .inl rfl⟩, k7⟩, PySem.W.mg_of X G a7⟩
    d_span_of := ⟨_, _, ⟨⟨_, _, .none, _, _, _, _, _, _, _, rfl, l8, c8, .inl ⟨rfl, rfl⟩, .inl rfl⟩, k8⟩, PySem.W.mg_of X G a8⟩
    d_surely_older := ⟨_, _, ⟨⟨_, _, .none, _, _, _, _, _, _, _, rfl, l9, c9, .inl ⟨rfl, rfl⟩, .inl rfl⟩, k9⟩, PySem.W.mg_of X G a9⟩
    d_check_weight := ⟨_, _, ⟨⟨_, _, .none, _, _, _, _, _, _, _, rfl, l10, c10, .inl ⟨rfl, rfl⟩, .inl rfl⟩, k10⟩, PySem.W.mg_of X G a10⟩
    d_years_for := ⟨_, _, ⟨⟨_, _, .none, _, _, _, _, _, _, _, rfl, l11, c11, .inl ⟨rfl, rfl⟩, .inl rfl⟩, k11⟩, PySem.W.mg_of X G a11⟩
    d_judge_common := ⟨_, _, ⟨⟨_, _, .none, _, _, _, _, _, _, _, rfl, l12, c12, .inl ⟨rfl, rfl⟩, .inl rfl⟩, k12⟩, PySem.W.mg_of X G a12⟩
    d_struck_between := ⟨_, _, ⟨⟨_, _, .none, _, _, _, _, _, _, _, rfl, l13, c13, .inl ⟨rfl, rfl⟩, .inl rfl⟩, k13⟩, PySem.W.mg_of X G a13⟩
    d__law_same := ⟨_, _, ⟨⟨_, _, .none, _, _, _, _, _, _, _, rfl, l14, c14, .inl ⟨rfl, rfl⟩, .inl rfl⟩, k14⟩, PySem.W.mg_of X G a14⟩
    d__law_is_taken := ⟨_, _, ⟨⟨_, _, .none, _, _, _, _, _, _, _, rfl, l15, c15, .inl ⟨rfl, rfl⟩, .inl rfl⟩, k15⟩, PySem.W.mg_of X G a15⟩
    d_x_accept_years := ⟨_, _, ⟨⟨_, _, .none, _, _, _, _, _, _, _, rfl, l16, c16, .inl ⟨rfl, rfl⟩, .inl rfl⟩, k16⟩, PySem.W.mg_of X G a16⟩
    d__law_worn_holds := ⟨_, _, ⟨⟨_, _, .none, _, _, _, _, _, _, _, rfl, l17, c17, .inl ⟨rfl, rfl⟩, .inl rfl⟩, k17⟩, PySem.W.mg_of X G a17⟩
    d_check_width := ⟨_, _, ⟨⟨_, _, .none, _, _, _, _, _, _, _, rfl, l18, c18, .inl ⟨rfl, rfl⟩, .inl rfl⟩, k18⟩, PySem.W.mg_of X G a18⟩
    d_cast_times := ⟨_, _, ⟨⟨_, _, .none, _, _, _, _, _, _, _, rfl, l19, c19, .inl ⟨rfl, rfl⟩, .inl rfl⟩, k19⟩, PySem.W.mg_of X G a19⟩
    d__law_casts_hold := ⟨_, _, ⟨⟨_, _, .none, _, _, _, _, _, _, _, rfl, l20, c20, .inl ⟨rfl, rfl⟩, .inl rfl⟩, k20⟩, PySem.W.mg_of X G a20⟩
    d__law_less := ⟨_, _, ⟨⟨_, _, .none, _, _, _, _, _, _, _, rfl, l21, c21, .inl ⟨rfl, rfl⟩, .inl rfl⟩, k21⟩, PySem.W.mg_of X G a21⟩
    d_check_dated := ⟨_, _, ⟨⟨_, _, .none, _, _, _, _, _, _, _, rfl, l22, c22, .inl ⟨rfl, rfl⟩, .inl rfl⟩, k22⟩, PySem.W.mg_of X G a22⟩
    d_less := ⟨_, _, ⟨⟨_, _, .none, _, _, _, _, _, _, _, rfl, l23, c23, .inl ⟨rfl, rfl⟩, .inl rfl⟩, k23⟩, PySem.W.mg_of X G a23⟩
    d_quotient := ⟨_, _, ⟨⟨_, _, .none, _, _, _, _, _, _, _, rfl, l24, c24, .inl ⟨rfl, rfl⟩, .inl rfl⟩, k24⟩, PySem.W.mg_of X G a24⟩
    d_judge_rate := ⟨_, _, ⟨⟨_, _, .none, _, _, _, _, _, _, _, rfl, l25, c25, .inl ⟨rfl, rfl⟩, .inl rfl⟩, k25⟩, PySem.W.mg_of X G a25⟩
    d_x_accept_rate := ⟨_, _, ⟨⟨_, _, .none, _, _, _, _, _, _, _, rfl, l26, c26, .inl ⟨rfl, rfl⟩, .inl rfl⟩, k26⟩, PySem.W.mg_of X G a26⟩
    d__law_rates_hold := ⟨_, _, ⟨⟨_, _, .none, _, _, _, _, _, _, _, rfl, l27, c27, .inl ⟨rfl, rfl⟩, .inl rfl⟩, k27⟩, PySem.W.mg_of X G a27⟩
    d_law := ⟨_, _, ⟨⟨_, _, .none, _, _, _, _, _, _, _, rfl, l28, c28, .inl ⟨rfl, rfl⟩, .inl rfl⟩, k28⟩, PySem.W.mg_of X G a28⟩
    b_abs := PySem.W.mg_none_of X G zb_abs
    b_all := PySem.W.mg_none_of X G zb_all
    b_bool := PySem.W.mg_none_of X G zb_bool
    b_enumerate := PySem.W.mg_none_of X G zb_enumerate
    b_int := PySem.W.mg_none_of X G zb_int
    b_isinstance := PySem.W.mg_none_of X G zb_isinstance
    b_len := PySem.W.mg_none_of X G zb_len
    b_list := PySem.W.mg_none_of X G zb_list
    b_max := PySem.W.mg_none_of X G zb_max
    b_min := PySem.W.mg_none_of X G zb_min
    b_range := PySem.W.mg_none_of X G zb_range
    b_repr := PySem.W.mg_none_of X G zb_repr
    b_tuple := PySem.W.mg_none_of X G zb_tuple
    k_MAX_COINS := ⟨_, PySem.W.mg_of X G zk_MAX_COINS⟩
    k_MAX_FLAWS := ⟨_, PySem.W.mg_of X G zk_MAX_FLAWS⟩
    k_MAX_SIZE := ⟨_, PySem.W.mg_of X G zk_MAX_SIZE⟩
    k_MAX_YEARS := ⟨_, PySem.W.mg_of X G zk_MAX_YEARS⟩
    k_WHOLE := ⟨_, PySem.W.mg_of X G zk_WHOLE⟩
    px := ⟨CE, fIE, px_mk X G (initOf s_PaperError) xaC xL xsa xnb xa1 xt1 xl1 xc1 xcode xvs xfile xcell xkC xeC xvC xtC xiC xsC xmC xopq xsup xhm xtop rfl rfl rfl (by rfl)⟩
  }
  obtain ⟨f, fd, D⟩ := T.d_law
  have e2 := hfa.symm.trans D.mgf
  cases e2
  exact ⟨fd, fun s v => D.fn.bindsA (ps := [PySem.Str.ofString "script"]) (fun _ _ _ _ _ _ us hl => match us, hl with | [_], _ => rfl) s [v] rfl, fun base _ _ => f_law T D⟩
end K18
set_option Elab.async false
set_option linter.all false
set_option maxRecDepth 100000
set_option maxHeartbeats 4000000
namespace K18
open PySem PySem.Spec L2 L2.FL

theorem sim__law_draw : StN g__law_draw 1 2 (st1 p_draw) := st_draw
theorem sim_is_integer : PuN g_is_integer 0 1 (ap1 HR.p_integers_is_integer) := fun xs r h => by
  obtain ⟨v_value, rfl⟩ := ap1_inv h
  refine ⟨rfl, fn_pu ?_ h⟩
  show PR true [.k (.d v_value)] g_is_integer (HR.p_integers_is_integer v_value) id NoJ
  exact (pr_ret (pd_andT (pd_1 (PD.v (pd_var (i := 0)))) (pd_notT (PD.v (pd_1 (PD.v (pd_var (i := 0))))))))
theorem sim_is_amount : PuN g_is_amount 0 1 (ap1 HR.p_wear_is_amount) := fun xs r h => by
  obtain ⟨v_value, rfl⟩ := ap1_inv h
  refine ⟨rfl, fn_pu ?_ h⟩
  show PR true [.k (.d v_value)] g_is_amount (HR.p_wear_is_amount v_value) id NoJ
  exact (pr_ret (pd_andT (pd_cl sim_is_integer (pd_cs (pd_var (i := 0)) pd_nl)) (pd_chain (PD.p pd_c) (PD.p (pd_var (i := 0))) (PD.v pd_c))))
theorem sim_check_standard : PuN g_check_standard 1 1 (ap1 HR.p_wear_check_standard) := fun xs r h => by
  obtain ⟨v_standard, rfl⟩ := ap1_inv h
  refine ⟨rfl, fn_pu ?_ h⟩
  show PR true [.k (.d v_standard), .o] g_check_standard (HR.p_wear_check_standard v_standard) id NoJ
  exact (pr_guard (pt_or (pt_not (pt_tr (PD.v (pd_1 (PD.v (pd_var (i := 0))))))) (pt_or (pt_bl (PD.v (pd_2 (PD.p (pd_B1 (PD.v (pd_var (i := 0))))) (PD.v pd_c)))) (pt_not (pt_tr (PD.v (pd_B1 (PD.v (pd_ofL (pl_lcA (vs := [1]) (pi_sq (pd_var (i := 0))) (pg_set (i := 1)) (fun t_2 => (pd_cl sim_is_amount (pd_cs (pd_var (i := 1)) pd_nl))) (hw := fun t_2 => ⟨rfl, trivial, trivial⟩)))))))))) pr_never
  (pr_if (pt_or (pt_not (pt_bl (PD.v (pd_chain (PD.p pd_c) (PD.p (pd_2 (PD.p (pd_var (i := 0))) (PD.v pd_c))) (PD.v (pd_2 (PD.p (pd_var (i := 0))) (PD.v pd_c))))))) (pt_not (pt_bl (PD.v (pd_2 (PD.p (pd_2 (PD.p (pd_var (i := 0))) (PD.v pd_c))) (PD.v (pd_2 (PD.p (pd_var (i := 0))) (PD.v pd_c)))))))) pr_never pr_nil))
theorem sim_check_years : PuN g_check_years 0 1 (ap1 HR.p_wear_check_years) := fun xs r h => by
  obtain ⟨v_years, rfl⟩ := ap1_inv h
  refine ⟨rfl, fn_pu ?_ h⟩
  show PR true [.k (.d v_years)] g_check_years (HR.p_wear_check_years v_years) id NoJ
  exact (pr_if (pt_or (pt_not (pt_tr (PD.v (pd_cl sim_is_integer (pd_cs (pd_var (i := 0)) pd_nl))))) (pt_not (pt_bl (PD.v (pd_chain (PD.p pd_c) (PD.p (pd_var (i := 0))) (PD.v pd_c)))))) pr_never pr_nil)
theorem sim_can_weigh : PuN g_can_weigh 4 2 (ap2 HR.p_wear_can_weigh) := fun xs r h => by
  obtain ⟨v_standard, v_years, rfl⟩ := ap2_inv h
  refine ⟨rfl, fn_pu ?_ h⟩
  show PR true [.k (.d v_standard), .k (.d v_years), .o, .o, .o, .o] g_can_weigh (HR.p_wear_can_weigh v_standard v_years) id NoJ
  exact (pr_seq (pn_drop (PD.v (pd_cl sim_check_standard (pd_cs (pd_var (i := 0)) pd_nl)))) fun _u_1 =>
  (pr_seq (pn_drop (PD.v (pd_cl sim_check_years (pd_cs (pd_var (i := 1)) pd_nl)))) fun _u_2 =>
  (pr_seq (pn_asg (pd_var (i := 0)) (pg_tup (pg_cons (pg_set (i := 2)) fun _ => (pg_cons (pg_set (i := 3)) fun _ => (pg_cons (pg_set (i := 4)) fun _ => (pg_cons (pg_set (i := 5)) fun _ => pg_nil)))))) fun t_3 =>
  (pr_ret (pd_tup (pd_cs (pd_B (pa_cs (PD.p pd_c) (pa_cs (PD.p (pd_2 (PD.p (pd_var (i := 2))) (PD.v (pd_2 (PD.p (pd_var (i := 5))) (PD.v (pd_var (i := 1))))))) pa_nl))) (pd_cs (pd_B (pa_cs (PD.p pd_c) (pa_cs (PD.p (pd_2 (PD.p (pd_var (i := 3))) (PD.v (pd_2 (PD.p (pd_var (i := 4))) (PD.v (pd_var (i := 1))))))) pa_nl))) pd_nl)))))))
theorem sim_check_weights : PuN g_check_weights 1 1 (ap1 HR.p_wear_check_weights) := fun xs r h => by
  obtain ⟨v_weights, rfl⟩ := ap1_inv h
  refine ⟨rfl, fn_pu ?_ h⟩
  show PR true [.k (.d v_weights), .o] g_check_weights (HR.p_wear_check_weights v_weights) id NoJ
  exact (pr_guard (pt_or (pt_not (pt_tr (PD.v (pd_1 (PD.v (pd_var (i := 0))))))) (pt_not (pt_bl (PD.v (pd_chain (PD.p pd_c) (PD.p (pd_B1 (PD.v (pd_var (i := 0))))) (PD.v pd_c)))))) pr_never
  (pr_if (pt_not (pt_tr (PD.v (pd_B1 (PD.v (pd_ofL (pl_lcA (vs := [1]) (pi_sq (pd_var (i := 0))) (pg_set (i := 1)) (fun t_2 => (pd_cl sim_is_amount (pd_cs (pd_var (i := 1)) pd_nl))) (hw := fun t_2 => ⟨rfl, trivial, trivial⟩)))))))) pr_never pr_nil))
theorem sim_span_of : PuN g_span_of 6 2 (ap2 HR.p_wear_span_of) := fun xs r h => by
  obtain ⟨v_standard, v_weight, rfl⟩ := ap2_inv h
  refine ⟨rfl, fn_pu ?_ h⟩
  show PR true [.k (.d v_standard), .k (.d v_weight), .o, .o, .o, .o, .o, .o] g_span_of (HR.p_wear_span_of v_standard v_weight) id NoJ
  exact (pr_seq (pn_asg (pd_var (i := 0)) (pg_tup (pg_cons (pg_set (i := 2)) fun _ => (pg_cons (pg_set (i := 3)) fun _ => (pg_cons (pg_set (i := 4)) fun _ => (pg_cons (pg_set (i := 5)) fun _ => pg_nil)))))) fun t_1 =>
  (pr_guard (pt_bl (PD.v (pd_2 (PD.p (pd_var (i := 1))) (PD.v (pd_var (i := 3)))))) (pr_ret pd_c)
  (pr_seq (pn_set (i := 6) pd_c) fun v_first_2 =>
  (pr_seqO (po_if (N := FtN (fun (t_3 : PyData) => [.k (.d v_standard), .k (.d v_weight), .k (.d t_1.1), .k (.d t_1.2.1), .k (.d t_1.2.2.1), .k (.d t_1.2.2.2.1), .k (.d t_3), .o])) (pt_bl (PD.v (pd_2 (PD.p (pd_var (i := 1))) (PD.v (pd_var (i := 2)))))) (po_guard (pt_bl (PD.v (pd_2 (PD.p (pd_var (i := 5))) (PD.v pd_c)))) (po_R (pr_ret pd_c))
  (po_end (y := fun (v_first_4 : PyData) => v_first_4) (pn_set (i := 6) (pd_1 (PD.v (pd_2 (PD.p (pd_2 (PD.p (pd_var (i := 1))) (PD.v (pd_var (i := 2))))) (PD.v (pd_var (i := 5))))))) (fun v_first_4 => ⟨rfl, rfl, rfl, rfl, rfl, rfl, rfl, trivial, trivial⟩))) (po_nil (y := v_first_2) ⟨rfl, rfl, rfl, rfl, rfl, rfl, rfl, trivial, trivial⟩)) fun t_3 =>
  (pr_seq (pn_set (i := 7) pd_c) fun v_last_5 =>
  (pr_seq (pn_if (Δ := (fun (t_6 : PyData) => [.k (.d v_standard), .k (.d v_weight), .k (.d t_1.1), .k (.d t_1.2.1), .k (.d t_1.2.2.1), .k (.d t_1.2.2.2.1), .k (.d t_3), .k (.d t_6)])) (pt_and (pt_bl (PD.v (pd_2 (PD.p (pd_var (i := 4))) (PD.v pd_c)))) (pt_bl (PD.v (pd_2 (PD.p (pd_var (i := 1))) (PD.v pd_c))))) (pn_end (y := fun (v_last_7 : PyData) => v_last_7) (pn_set (i := 7) (pd_B (pa_cs (PD.p (pd_var (i := 7))) (pa_cs (PD.p (pd_2 (PD.p (pd_2 (PD.p (pd_var (i := 3))) (PD.v (pd_var (i := 1))))) (PD.v (pd_var (i := 4))))) pa_nl)))) (fun v_last_7 => ⟨rfl, rfl, rfl, rfl, rfl, rfl, rfl, rfl, trivial⟩)) (pn_nil (y := v_last_5) ⟨rfl, rfl, rfl, rfl, rfl, rfl, rfl, rfl, trivial⟩)) fun t_6 =>
  (pr_ret (pd_ifE (pt_bl (PD.v (pd_2 (PD.p (pd_var (i := 6))) (PD.v (pd_var (i := 7)))))) (pd_tup (pd_cs (pd_var (i := 6)) (pd_cs (pd_var (i := 7)) pd_nl))) pd_c))))))))
theorem sim_surely_older : PuN g_surely_older 6 2 (ap2 HR.p_wear_surely_older) := fun xs r h => by
  obtain ⟨v_standard, v_weights, rfl⟩ := ap2_inv h
  refine ⟨rfl, fn_pu ?_ h⟩
  show PR true [.k (.d v_standard), .k (.d v_weights), .o, .o, .o, .o, .o, .o] g_surely_older (HR.p_wear_surely_older v_standard v_weights) id NoJ
  exact (pr_seq (pn_drop (PD.v (pd_cl sim_check_standard (pd_cs (pd_var (i := 0)) pd_nl)))) fun _u_1 =>
  (pr_seq (pn_drop (PD.v (pd_cl sim_check_weights (pd_cs (pd_var (i := 1)) pd_nl)))) fun _u_2 =>
  (pr_seq (pn_set (i := 3) (pd_ofL (pl_lcA (vs := [2]) (pi_sq (pd_var (i := 1))) (pg_set (i := 2)) (fun t_5 => (pd_cl sim_span_of (pd_cs (pd_var (i := 0)) (pd_cs (pd_var (i := 2)) pd_nl)))) (hw := fun t_5 => ⟨rfl, rfl, trivial, trivial, trivial, trivial, trivial, trivial, trivial⟩)))) fun v_spans_3 =>
  (pr_seq (pn_set (i := 5) (pd_ofL (pl_lc (vs := [4, 2]) (pi_en (pd_var (i := 3))) (pg_tup (pg_cons (pg_set (i := 4)) fun _ => (pg_cons (pg_set (i := 2)) fun _ => pg_nil))) (fun t_8 => (pt_bl (PD.v (pd_notN (PD.v (pd_var (i := 2))))))) (fun t_8 => (pd_var (i := 4))) (hw := fun t_8 => ⟨rfl, rfl, trivial, rfl, trivial, trivial, trivial, trivial, trivial⟩)))) fun v_good_6 =>
  (pr_ret (pd_B1 (PD.v (pd_ofL (pl_lc2 (vs := [6, 7]) (vs1 := [7]) (pi_sq (pd_var (i := 5))) (pg_set (i := 6)) (fun t_10 => pt_yes) (fun t_10 => (pi_sq (pd_var (i := 5)))) (fun t_10 => (pg_set (i := 7))) (fun t_10 t_12 => (pt_bl (PD.v (pd_2 (PD.p (pd_2 (PD.p (pd_2 (PD.p (pd_var (i := 3))) (PD.v (pd_var (i := 6))))) (PD.v pd_c))) (PD.v (pd_2 (PD.p (pd_2 (PD.p (pd_var (i := 3))) (PD.v (pd_var (i := 7))))) (PD.v pd_c))))))) (fun t_10 t_12 => (pd_tup (pd_cs (pd_var (i := 6)) (pd_cs (pd_var (i := 7)) pd_nl)))) (hw := fun t_10 => ⟨rfl, rfl, trivial, rfl, trivial, rfl, trivial, trivial, trivial⟩) (hw2 := fun t_10 => ⟨rfl, rfl, trivial, rfl, trivial, rfl, trivial, trivial, trivial⟩) (hw1 := fun t_10 t_12 => ⟨rfl, rfl, trivial, rfl, trivial, rfl, rfl, trivial, trivial⟩))))))))))
theorem sim_check_weight : PuN g_check_weight 0 1 (ap1 HR.p_wear_check_weight) := fun xs r h => by
  obtain ⟨v_weight, rfl⟩ := ap1_inv h
  refine ⟨rfl, fn_pu ?_ h⟩
  show PR true [.k (.d v_weight)] g_check_weight (HR.p_wear_check_weight v_weight) id NoJ
  exact (pr_if (pt_not (pt_tr (PD.v (pd_cl sim_is_amount (pd_cs (pd_var (i := 0)) pd_nl))))) pr_never pr_nil)
theorem sim_years_for : PuN g_years_for 0 2 (ap2 HR.p_wear_years_for) := fun xs r h => by
  obtain ⟨v_standard, v_weight, rfl⟩ := ap2_inv h
  refine ⟨rfl, fn_pu ?_ h⟩
  show PR true [.k (.d v_standard), .k (.d v_weight)] g_years_for (HR.p_wear_years_for v_standard v_weight) id NoJ
  exact (pr_seq (pn_drop (PD.v (pd_cl sim_check_standard (pd_cs (pd_var (i := 0)) pd_nl)))) fun _u_1 =>
  (pr_seq (pn_drop (PD.v (pd_cl sim_check_weight (pd_cs (pd_var (i := 1)) pd_nl)))) fun _u_2 =>
  (pr_ret (pd_cl sim_span_of (pd_cs (pd_var (i := 0)) (pd_cs (pd_var (i := 1)) pd_nl))))))
theorem sim_judge_common : PuN g_judge_common 4 2 (ap2 HR.p_wear_judge_common) := fun xs r h => by
  obtain ⟨v_standard, v_weights, rfl⟩ := ap2_inv h
  refine ⟨rfl, fn_pu ?_ h⟩
  show PR true [.k (.d v_standard), .k (.d v_weights), .o, .o, .o, .o] g_judge_common (HR.p_wear_judge_common v_standard v_weights) id NoJ
  exact (pr_seq (pn_drop (PD.v (pd_cl sim_check_standard (pd_cs (pd_var (i := 0)) pd_nl)))) fun _u_1 =>
  (pr_seq (pn_drop (PD.v (pd_cl sim_check_weights (pd_cs (pd_var (i := 1)) pd_nl)))) fun _u_2 =>
  (pr_seq (pn_set (i := 3) (pd_ofL (pl_lcA (vs := [2]) (pi_sq (pd_var (i := 1))) (pg_set (i := 2)) (fun t_5 => (pd_cl sim_span_of (pd_cs (pd_var (i := 0)) (pd_cs (pd_var (i := 2)) pd_nl)))) (hw := fun t_5 => ⟨rfl, rfl, trivial, trivial, trivial, trivial, trivial⟩)))) fun v_spans_3 =>
  (pr_guard (pt_bl (PD.v (pd_2 (PD.p pd_c) (PD.v (pd_var (i := 3)))))) (pr_ret (pd_tup (pd_cs pd_c (pd_cs (pd_methL (PD.p (pd_var (i := 3))) (PD.v pd_c)) pd_nl))))
  (pr_seq (pn_par (is := [4, 5]) (pq_e (pd_ofL (pl_lcA (vs := [2]) (pi_sq (pd_var (i := 3))) (pg_set (i := 2)) (fun t_8 => (pd_2 (PD.p (pd_var (i := 2))) (PD.v pd_c))) (hw := fun t_8 => ⟨rfl, rfl, trivial, rfl, trivial, trivial, trivial⟩))) (pq_e (pd_ofL (pl_lcA (vs := [2]) (pi_sq (pd_var (i := 3))) (pg_set (i := 2)) (fun t_10 => (pd_2 (PD.p (pd_var (i := 2))) (PD.v pd_c))) (hw := fun t_10 => ⟨rfl, rfl, trivial, rfl, trivial, trivial, trivial⟩))) pq_nil))) fun t_6 =>
  (pr_guard (pt_bl (PD.v (pd_2 (PD.p (pd_B1 (PD.v (pd_var (i := 4))))) (PD.v (pd_B1 (PD.v (pd_var (i := 5)))))))) (pr_ret (pd_tup (pd_cs pd_c (pd_cs (pd_methL (PD.p (pd_var (i := 5))) (PD.v (pd_B1 (PD.v (pd_var (i := 5)))))) (pd_cs (pd_methL (PD.p (pd_var (i := 4))) (PD.v (pd_B1 (PD.v (pd_var (i := 4)))))) pd_nl)))))
  (pr_ret (pd_tup (pd_cs pd_c (pd_cs (pd_B1 (PD.v (pd_var (i := 4)))) (pd_cs (pd_B1 (PD.v (pd_var (i := 5)))) pd_nl)))))))))))
theorem sim_struck_between : PuN g_struck_between 3 3 (ap3 HR.p_wear_struck_between) := fun xs r h => by
  obtain ⟨v_standard, v_weights, v_closed, rfl⟩ := ap3_inv h
  refine ⟨rfl, fn_pu ?_ h⟩
  show PR true [.k (.d v_standard), .k (.d v_weights), .k (.d v_closed), .o, .o, .o] g_struck_between (HR.p_wear_struck_between v_standard v_weights v_closed) id NoJ
  exact (pr_seq (pn_drop (PD.v (pd_cl sim_check_standard (pd_cs (pd_var (i := 0)) pd_nl)))) fun _u_1 =>
  (pr_seq (pn_drop (PD.v (pd_cl sim_check_weights (pd_cs (pd_var (i := 1)) pd_nl)))) fun _u_2 =>
  (pr_guard (pt_or (pt_not (pt_tr (PD.v (pd_cl sim_is_integer (pd_cs (pd_var (i := 2)) pd_nl))))) (pt_not (pt_bl (PD.v (pd_chain (PD.p (pd_1 (PD.v pd_c))) (PD.p (pd_var (i := 2))) (PD.v pd_c)))))) pr_never
  (pr_seq (pn_setL (i := 3) (pl_lst pd_nl)) fun v_found_3 =>
  (pr_seq (pn_for (Λ := (fun (st_4 : List PyData) => [.k (.d v_standard), .k (.d v_weights), .k (.d v_closed), .k (.l st_4), .o, .o])) (s0 := v_found_3) (pi_sq (pd_var (i := 1))) ⟨rfl, rfl, rfl, rfl, trivial, trivial, trivial⟩ (fun st_4 => (pg_set (i := 4))) (fun st_4 t_6 => (pn_seq (pn_set (i := 5) (pd_cl sim_span_of (pd_cs (pd_var (i := 0)) (pd_cs (pd_var (i := 4)) pd_nl)))) fun v_span_7 =>
  (pn_end (y := fun (v_found_8 : List PyData) => v_found_8) (pn_app (i := 3) (pd_ifE (pt_bl (PD.v (pd_isN (PD.v (pd_var (i := 5)))))) pd_c (pd_tup (pd_cs (pd_2 (PD.p (pd_var (i := 2))) (PD.v (pd_2 (PD.p (pd_var (i := 5))) (PD.v pd_c)))) (pd_cs (pd_2 (PD.p (pd_var (i := 2))) (PD.v (pd_2 (PD.p (pd_var (i := 5))) (PD.v pd_c)))) pd_nl))))) (fun v_found_8 => ⟨rfl, rfl, rfl, rfl, trivial, trivial, trivial⟩))))) fun st_4 =>
  (pr_ret (pd_B1 (PP.v (pp_varL (i := 3))))))))))
theorem sim__law_same : PuN g__law_same 0 2 (ap2 K18.p__law_same) := fun xs r h => by
  obtain ⟨v_actual, v_due, rfl⟩ := ap2_inv h
  refine ⟨rfl, fn_pu ?_ h⟩
  show PR true [.k (.d v_actual), .k (.d v_due)] g__law_same (K18.p__law_same v_actual v_due) id NoJ
  exact (pr_ret (pd_andT (pd_2 (PD.p (pd_var (i := 0))) (PD.v (pd_var (i := 1)))) (pd_2 (PD.p (pd_B1 (PD.v (pd_var (i := 0))))) (PD.v (pd_B1 (PD.v (pd_var (i := 1))))))))
theorem sim_x_accept_years : PuN g_x_accept_years 2 3 (ap3 HR.p_wear_x_accept_years) := fun xs r h => by
  obtain ⟨v_standard, v_weights, v_years, rfl⟩ := ap3_inv h
  refine ⟨rfl, fn_pu ?_ h⟩
  show PR true [.k (.d v_standard), .k (.d v_weights), .k (.d v_years), .o, .o] g_x_accept_years (HR.p_wear_x_accept_years v_standard v_weights v_years) id NoJ
  exact (pr_seq (pn_drop (PD.v (pd_cl sim_check_standard (pd_cs (pd_var (i := 0)) pd_nl)))) fun _u_1 =>
  (pr_seq (pn_drop (PD.v (pd_cl sim_check_weights (pd_cs (pd_var (i := 1)) pd_nl)))) fun _u_2 =>
  (pr_guard (pt_or (pt_not (pt_tr (PD.v (pd_cl sim_is_integer (pd_cs (pd_var (i := 2)) pd_nl))))) (pt_not (pt_bl (PD.v (pd_chain (PD.p pd_c) (PD.p (pd_var (i := 2))) (PD.v pd_c)))))) (pr_ret pd_c)
  (pr_endO (po_for (Λ := (fun (st_3 : Unit) => [.k (.d v_standard), .k (.d v_weights), .k (.d v_years), .o, .o])) (s0 := ()) (pi_sq (pd_var (i := 1))) ⟨rfl, rfl, rfl, trivial, trivial, trivial⟩ (fun st_3 => (pg_set (i := 3))) (fun st_3 t_5 => (po_seqN (pn_set (i := 4) (pd_cl sim_span_of (pd_cs (pd_var (i := 0)) (pd_cs (pd_var (i := 3)) pd_nl)))) fun v_span_6 =>
  (po_if (pt_or (pt_bl (PD.v (pd_isN (PD.v (pd_var (i := 4)))))) (pt_not (pt_bl (PD.v (pd_chain (PD.p (pd_2 (PD.p (pd_var (i := 4))) (PD.v pd_c))) (PD.p (pd_var (i := 2))) (PD.v (pd_2 (PD.p (pd_var (i := 4))) (PD.v pd_c)))))))) (po_R (pr_ret pd_c)) (po_nil (y := ()) ⟨rfl, rfl, rfl, trivial, trivial, trivial⟩)))))))))
theorem sim__law_worn_holds : StN g__law_worn_holds 19 1 (st0 K18.p__law_worn_holds) := fun xs S r h => by
  obtain rfl := st0_inv h
  refine ⟨rfl, fn_st ?_ h⟩
  show PR true [.k (.p S), .o, .o, .o, .o, .o, .o, .o, .o, .o, .o, .o, .o, .o, .o, .o, .o, .o, .o, .o] g__law_worn_holds (K18.p__law_worn_holds S) Prod.fst (StJ 0)
  exact (pr_seq (sn_par (C := (fun (S : List PyData) => [.k (.p S), .o, .o, .o, .o, .o, .o, .o, .o, .o, .o, .o, .o, .o, .o, .o, .o, .o, .o, .o])) (s := S) (is := [1, 2]) (sq_e (sd_2 (SD.p (sd_l fun _ => pd_c)) (SD.p (sd_st (i := 0) (.inl rfl) sim__law_draw (sd_cs (sd_l fun _ => pd_c) sd_nl) (fun _ => rfl) (fun _ _ => rfl)))) (sq_e (sd_st (i := 0) (.inl rfl) sim__law_draw (sd_cs (sd_l fun _ => pd_c) sd_nl) (fun _ => rfl) (fun _ _ => rfl)) sq_nil)) (ho := fun _ => rfl)) fun t_1 =>
  (pr_seq (sn_set (C := (fun (S : List PyData) => [.k (.p S), .k (.d t_1.1.1), .k (.d t_1.1.2.1), .o, .o, .o, .o, .o, .o, .o, .o, .o, .o, .o, .o, .o, .o, .o, .o, .o])) (s := t_1.2) (i := 3) (sd_tup (sd_cs (sd_l fun _ => (pd_var (i := 1))) (sd_cs (sd_2 (SD.p (sd_l fun _ => (pd_var (i := 1)))) (SD.p (sd_st (i := 0) (.inl rfl) sim__law_draw (sd_cs (sd_l fun _ => pd_c) sd_nl) (fun _ => rfl) (fun _ _ => rfl)))) (sd_cs (sd_l fun _ => (pd_var (i := 2))) (sd_cs (sd_2 (SD.p (sd_l fun _ => (pd_var (i := 2)))) (SD.p (sd_st (i := 0) (.inl rfl) sim__law_draw (sd_cs (sd_l fun _ => pd_c) sd_nl) (fun _ => rfl) (fun _ _ => rfl)))) sd_nl))))) (fun _ => rfl)) fun t_6 =>
  (pr_seq (sn_set (C := (fun (S : List PyData) => [.k (.p S), .k (.d t_1.1.1), .k (.d t_1.1.2.1), .k (.d t_6.1), .o, .o, .o, .o, .o, .o, .o, .o, .o, .o, .o, .o, .o, .o, .o, .o])) (s := t_6.2) (i := 4) (sd_st (i := 0) (.inl rfl) sim__law_draw (sd_cs (sd_l fun _ => pd_c) sd_nl) (fun _ => rfl) (fun _ _ => rfl)) (fun _ => rfl)) fun t_7 =>
  (pr_seq (pn_set (i := 5) (pd_cl sim_can_weigh (pd_cs (pd_var (i := 3)) (pd_cs (pd_var (i := 4)) pd_nl)))) fun v_left_8 =>
  (pr_seq (pn_set (i := 6) (pd_2 (PD.p (pd_var (i := 5))) (PD.v (pd_sl (PD.p (pd_var (i := 3))) (po_pt pd_c) po_no)))) fun v_later_9 =>
  (pr_seqO (po_for (Λ := (fun (st_10 : Unit) => [.k (.p t_7.2), .k (.d t_1.1.1), .k (.d t_1.1.2.1), .k (.d t_6.1), .k (.d t_7.1), .k (.d v_left_8), .k (.d v_later_9), .o, .o, .o, .o, .o, .o, .o, .o, .o, .o, .o, .o, .o])) (s0 := ()) (pi_rg1 pd_c) ⟨rfl, rfl, rfl, rfl, rfl, rfl, rfl, trivial, trivial, trivial, trivial, trivial, trivial, trivial, trivial, trivial, trivial, trivial, trivial, trivial, trivial⟩ (fun st_10 => (pg_set (i := 7))) (fun st_10 t_12 => (po_if (pt_not (pt_tr (PD.v (pd_cl sim__law_same (pd_cs (pd_cl sim_can_weigh (pd_cs (pd_var (i := 6)) (pd_cs (pd_var (i := 7)) pd_nl))) (pd_cs (pd_cl sim_can_weigh (pd_cs (pd_var (i := 3)) (pd_cs (pd_2 (PD.p (pd_var (i := 4))) (PD.v (pd_var (i := 7)))) pd_nl))) pd_nl)))))) (po_R (pr_retP (i := 0) pd_c)) (po_nil (y := ()) ⟨rfl, rfl, rfl, rfl, rfl, rfl, rfl, trivial, trivial, trivial, trivial, trivial, trivial, trivial, trivial, trivial, trivial, trivial, trivial, trivial, trivial⟩)))) fun st_10 =>
  (pr_seq (sn_set (C := (fun (S : List PyData) => [.k (.p S), .k (.d t_1.1.1), .k (.d t_1.1.2.1), .k (.d t_6.1), .k (.d t_7.1), .k (.d v_left_8), .k (.d v_later_9), .o, .o, .o, .o, .o, .o, .o, .o, .o, .o, .o, .o, .o])) (s := t_7.2) (i := 9) (sd_B (sa_cs (SD.p (sd_ofL (sl_lcA_ (vs := [8]) (si_rg1 (sd_2 (SD.p (sd_l fun _ => pd_c)) (SD.p (sd_st (i := 0) (.inl rfl) sim__law_draw (sd_cs (sd_l fun _ => pd_c) sd_nl) (fun _ => rfl) (fun _ _ => rfl))))) (fun _ => (pg_set (i := 8))) (fun t_15 => (sd_st (i := 0) (.inl rfl) sim__law_draw (sd_cs (sd_l fun _ => pd_c) sd_nl) (fun _ => rfl) (fun _ _ => rfl))) (fun _ => rfl) (fun _ _ => rfl) (fun t_15 _ => ⟨rfl, rfl, rfl, rfl, rfl, rfl, rfl, trivial, trivial, trivial, trivial, trivial, trivial, trivial, trivial, trivial, trivial, trivial, trivial, trivial, trivial⟩)))) sa_nl)) (fun _ => rfl)) fun t_13 =>
  (pr_seqO (po_for (Λ := (fun (st_16 : Unit) => [.k (.p t_13.2), .k (.d t_1.1.1), .k (.d t_1.1.2.1), .k (.d t_6.1), .k (.d t_7.1), .k (.d v_left_8), .k (.d v_later_9), .o, .o, .k (.d t_13.1), .o, .o, .o, .o, .o, .o, .o, .o, .o, .o])) (s0 := ()) (pi_sq (pd_var (i := 9))) ⟨rfl, rfl, rfl, rfl, rfl, rfl, rfl, trivial, trivial, rfl, trivial, trivial, trivial, trivial, trivial, trivial, trivial, trivial, trivial, trivial, trivial⟩ (fun st_16 => (pg_set (i := 10))) (fun st_16 t_18 => (po_seqN (pn_set (i := 11) (pd_ofL (pl_lc (vs := [7]) (pi_rg1 pd_c) (pg_set (i := 7)) (fun t_21 => (pt_tr (PD.v (pd_tk sim_x_accept_years (pd_ofL (pl_lst (pd_cs (pd_var (i := 6)) (pd_cs (pd_tup (pd_cs (pd_var (i := 10)) pd_nl)) (pd_cs (pd_var (i := 7)) pd_nl))))))))) (fun t_21 => (pd_var (i := 7))) (hw := fun t_21 => ⟨rfl, rfl, rfl, rfl, rfl, rfl, rfl, trivial, trivial, rfl, rfl, trivial, trivial, trivial, trivial, trivial, trivial, trivial, trivial, trivial, trivial⟩)))) fun v_good_19 =>
  (po_guard (pt_bl (PD.v (pd_2 (PD.p (pd_var (i := 11))) (PD.v (pd_ofL (pl_lc (vs := [7]) (pi_rg1 pd_c) (pg_set (i := 7)) (fun t_23 => (pt_tr (PD.v (pd_tk sim_x_accept_years (pd_ofL (pl_lst (pd_cs (pd_var (i := 3)) (pd_cs (pd_tup (pd_cs (pd_var (i := 10)) pd_nl)) (pd_cs (pd_2 (PD.p (pd_var (i := 4))) (PD.v (pd_var (i := 7)))) pd_nl))))))))) (fun t_23 => (pd_var (i := 7))) (hw := fun t_23 => ⟨rfl, rfl, rfl, rfl, rfl, rfl, rfl, trivial, trivial, rfl, rfl, rfl, trivial, trivial, trivial, trivial, trivial, trivial, trivial, trivial, trivial⟩))))))) (po_R (pr_retP (i := 0) pd_c))
  (po_seqN (pn_set (i := 12) (pd_cl sim_years_for (pd_cs (pd_var (i := 6)) (pd_cs (pd_var (i := 10)) pd_nl)))) fun v_span_24 =>
  (po_if (pt_or (pt_bl (PD.v (pd_2 (PD.p (pd_isN (PD.v (pd_var (i := 12))))) (PD.v (pd_2 (PD.p (pd_var (i := 11))) (PD.v (pd_ofL (pl_lst pd_nl)))))))) (pt_and (pt_bl (PD.v (pd_notN (PD.v (pd_var (i := 12)))))) (pt_or (pt_bl (PD.v (pd_2 (PD.p (pd_2 (PD.p (pd_var (i := 12))) (PD.v pd_c))) (PD.v (pd_2 (PD.p (pd_var (i := 11))) (PD.v pd_c)))))) (pt_bl (PD.v (pd_2 (PD.p (pd_B1 (PD.v (pd_ofL (pl_lst (pd_cs (pd_2 (PD.p (pd_var (i := 12))) (PD.v pd_c)) (pd_cs pd_c pd_nl))))))) (PD.v (pd_2 (PD.p (pd_var (i := 11))) (PD.v (pd_1 (PD.v pd_c))))))))))) (po_R (pr_retP (i := 0) pd_c)) (po_nil (y := ()) ⟨rfl, rfl, rfl, rfl, rfl, rfl, rfl, trivial, trivial, rfl, trivial, trivial, trivial, trivial, trivial, trivial, trivial, trivial, trivial, trivial, trivial⟩))))))) fun st_16 =>
  (pr_seq (pn_par (is := [13, 14]) (pq_e (pd_cl sim_judge_common (pd_cs (pd_var (i := 6)) (pd_cs (pd_var (i := 9)) pd_nl))) (pq_e (pd_ofL (pl_lc (vs := [7]) (pi_rg1 pd_c) (pg_set (i := 7)) (fun t_27 => (pt_tr (PD.v (pd_tk sim_x_accept_years (pd_ofL (pl_lst (pd_cs (pd_var (i := 3)) (pd_cs (pd_var (i := 9)) (pd_cs (pd_2 (PD.p (pd_var (i := 4))) (PD.v (pd_var (i := 7)))) pd_nl))))))))) (fun t_27 => (pd_var (i := 7))) (hw := fun t_27 => ⟨rfl, rfl, rfl, rfl, rfl, rfl, rfl, trivial, trivial, rfl, trivial, trivial, trivial, trivial, trivial, trivial, trivial, trivial, trivial, trivial, trivial⟩))) pq_nil))) fun t_25 =>
  (pr_guard (pt_or (pt_bl (PD.v (pd_2 (PD.p (pd_2 (PD.p (pd_2 (PD.p (pd_var (i := 13))) (PD.v pd_c))) (PD.v pd_c))) (PD.v (pd_2 (PD.p (pd_var (i := 14))) (PD.v (pd_ofL (pl_lst pd_nl)))))))) (pt_and (pt_bl (PD.v (pd_2 (PD.p (pd_var (i := 14))) (PD.v (pd_ofL (pl_lst pd_nl)))))) (pt_bl (PD.v (pd_2 (PD.p (pd_2 (PD.p (pd_var (i := 13))) (PD.v pd_c))) (PD.v (pd_2 (PD.p (pd_var (i := 14))) (PD.v pd_c)))))))) (pr_retP (i := 0) pd_c)
  (pr_seq (sn_set (C := (fun (S : List PyData) => [.k (.p S), .k (.d t_1.1.1), .k (.d t_1.1.2.1), .k (.d t_6.1), .k (.d t_7.1), .k (.d v_left_8), .k (.d v_later_9), .o, .o, .k (.d t_13.1), .o, .o, .o, .k (.d t_25.1), .k (.d t_25.2.1), .o, .o, .o, .o, .o])) (s := t_13.2) (i := 15) (sd_2 (SD.p (sd_st (i := 0) (.inl rfl) sim__law_draw (sd_cs (sd_l fun _ => pd_c) sd_nl) (fun _ => rfl) (fun _ _ => rfl))) (SD.p (sd_l fun _ => pd_c))) (fun _ => rfl)) fun t_32 =>
  (pr_seq (pn_par (is := [16, 17]) (pq_e (pd_cl sim_struck_between (pd_cs (pd_var (i := 3)) (pd_cs (pd_var (i := 9)) (pd_cs (pd_var (i := 15)) pd_nl)))) (pq_e (pd_cl sim_struck_between (pd_cs (pd_var (i := 3)) (pd_cs (pd_var (i := 9)) (pd_cs (pd_2 (PD.p (pd_var (i := 15))) (PD.v pd_c)) pd_nl)))) pq_nil))) fun t_33 =>
  (pr_guard (pt_bl (PD.v (pd_2 (PD.p (pd_var (i := 17))) (PD.v (pd_B1 (PD.v (pd_ofL (pl_lcA (vs := [18]) (pi_sq (pd_var (i := 16))) (pg_set (i := 18)) (fun t_39 => (pd_ifE (pt_bl (PD.v (pd_isN (PD.v (pd_var (i := 18)))))) pd_c (pd_tup (pd_cs (pd_2 (PD.p (pd_2 (PD.p (pd_var (i := 18))) (PD.v pd_c))) (PD.v pd_c)) (pd_cs (pd_2 (PD.p (pd_2 (PD.p (pd_var (i := 18))) (PD.v pd_c))) (PD.v pd_c)) pd_nl))))) (hw := fun t_39 => ⟨rfl, rfl, rfl, rfl, rfl, rfl, rfl, trivial, trivial, rfl, trivial, trivial, trivial, rfl, rfl, rfl, rfl, rfl, trivial, trivial, trivial⟩))))))))) (pr_retP (i := 0) pd_c)
  (pr_seq (pn_set (i := 19) (pd_cl sim_surely_older (pd_cs (pd_var (i := 3)) (pd_cs (pd_var (i := 9)) pd_nl)))) fun v_older_40 =>
  (pr_retP (i := 0) (pd_2 (PD.p (pd_ofL (pl_lc (vs := [18]) (pi_sq (pd_var (i := 19))) (pg_set (i := 18)) (fun t_42 => (pt_bl (PD.v (pd_2 (PD.p (pd_2 (PD.p (pd_2 (PD.p (pd_var (i := 16))) (PD.v (pd_2 (PD.p (pd_var (i := 18))) (PD.v pd_c))))) (PD.v pd_c))) (PD.v (pd_2 (PD.p (pd_2 (PD.p (pd_var (i := 16))) (PD.v (pd_2 (PD.p (pd_var (i := 18))) (PD.v pd_c))))) (PD.v pd_c))))))) (fun t_42 => (pd_var (i := 18))) (hw := fun t_42 => ⟨rfl, rfl, rfl, rfl, rfl, rfl, rfl, trivial, trivial, rfl, trivial, trivial, trivial, rfl, rfl, rfl, rfl, rfl, trivial, rfl, trivial⟩)))) (PD.v (pd_ofL (pl_lst pd_nl)))))))))))))))))))
theorem sim_check_width : PuN g_check_width 0 2 (ap2 HR.p_casts_check_width) := fun xs r h => by
  obtain ⟨v_value, v_reason, rfl⟩ := ap2_inv h
  refine ⟨rfl, fn_pu ?_ h⟩
  show PR true [.k (.d v_value), .k (.d v_reason)] g_check_width (HR.p_casts_check_width v_value v_reason) id NoJ
  exact (pr_if (pt_or (pt_not (pt_tr (PD.v (pd_cl sim_is_integer (pd_cs (pd_var (i := 0)) pd_nl))))) (pt_not (pt_bl (PD.v (pd_chain (PD.p pd_c) (PD.p (pd_var (i := 0))) (PD.v pd_c)))))) pr_never pr_nil)
theorem sim_cast_times : PuN g_cast_times 7 4 (ap4 HR.p_casts_cast_times) := fun xs r h => by
  obtain ⟨v_mother, v_copy, v_low, v_high, rfl⟩ := ap4_inv h
  refine ⟨rfl, fn_pu ?_ h⟩
  show PR true [.k (.d v_mother), .k (.d v_copy), .k (.d v_low), .k (.d v_high), .o, .o, .o, .o, .o, .o, .o] g_cast_times (HR.p_casts_cast_times v_mother v_copy v_low v_high) id NoJ
  exact (pr_seq (pn_drop (PD.v (pd_cl sim_check_width (pd_cs (pd_var (i := 0)) (pd_cs pd_c pd_nl))))) fun _u_1 =>
  (pr_seq (pn_drop (PD.v (pd_cl sim_check_width (pd_cs (pd_var (i := 1)) (pd_cs pd_c pd_nl))))) fun _u_2 =>
  (pr_seq (pn_for (Λ := (fun (st_3 : Unit) => [.k (.d v_mother), .k (.d v_copy), .k (.d v_low), .k (.d v_high), .o, .o, .o, .o, .o, .o, .o])) (s0 := ()) (pi_sq (pd_tup (pd_cs (pd_tup (pd_cs pd_c (pd_cs (pd_var (i := 2)) pd_nl))) (pd_cs (pd_tup (pd_cs pd_c (pd_cs (pd_var (i := 3)) pd_nl))) pd_nl)))) ⟨rfl, rfl, rfl, rfl, trivial, trivial, trivial, trivial, trivial, trivial, trivial, trivial⟩ (fun st_3 => (pg_tup (pg_cons (pg_set (i := 4)) fun _ => (pg_cons (pg_set (i := 5)) fun _ => pg_nil)))) (fun st_3 t_5 => (pn_end (y := fun (t_6 : Unit) => ()) (pn_if (Δ := (fun (t_6 : Unit) => [.k (.d v_mother), .k (.d v_copy), .k (.d v_low), .k (.d v_high), .k (.d t_5.1), .k (.d t_5.2.1), .o, .o, .o, .o, .o])) (pt_or (pt_not (pt_tr (PD.v (pd_cl sim_is_integer (pd_cs (pd_var (i := 5)) pd_nl))))) (pt_not (pt_bl (PD.v (pd_chain (PD.p pd_c) (PD.p (pd_var (i := 5))) (PD.v pd_c)))))) pn_never (pn_nil (y := ()) ⟨rfl, rfl, rfl, rfl, rfl, rfl, trivial, trivial, trivial, trivial, trivial, trivial⟩)) (fun t_6 => ⟨rfl, rfl, rfl, rfl, trivial, trivial, trivial, trivial, trivial, trivial, trivial, trivial⟩)))) fun st_3 =>
  (pr_guard (pt_bl (PD.v (pd_2 (PD.p (pd_var (i := 2))) (PD.v (pd_var (i := 3)))))) pr_never
  (pr_seq (pn_setL (i := 6) (pl_lst pd_nl)) fun v_found_7 =>
  (pr_seq (pn_par (is := [7, 8, 9]) (pq_e (pd_var (i := 0)) (pq_e (pd_var (i := 0)) (pq_e pd_c pq_nil)))) fun t_8 =>
  (pr_seq (pn_for (Λ := (fun (st_15 : List PyData × PyData × PyData × PyData) => [.k (.d v_mother), .k (.d v_copy), .k (.d v_low), .k (.d v_high), .o, .o, .k (.l st_15.1), .k (.d st_15.2.1), .k (.d st_15.2.2.1), .k (.d st_15.2.2.2), .o])) (s0 := (v_found_7, t_8.1, t_8.2.1, t_8.2.2.1)) (pi_rg1 (pd_2 (PD.p pd_c) (PD.v pd_c))) ⟨rfl, rfl, rfl, rfl, trivial, trivial, rfl, rfl, rfl, rfl, trivial, trivial⟩ (fun st_15 => (pg_set (i := 10))) (fun st_15 t_17 => (pn_seq (pn_if (Δ := (fun (t_18 : List PyData) => [.k (.d v_mother), .k (.d v_copy), .k (.d v_low), .k (.d v_high), .o, .o, .k (.l t_18), .k (.d st_15.2.1), .k (.d st_15.2.2.1), .k (.d st_15.2.2.2), .k (.d t_17)])) (pt_bl (PD.v (pd_chain (PD.p (pd_var (i := 7))) (PD.p (pd_2 (PD.p (pd_var (i := 1))) (PD.v (pd_var (i := 9))))) (PD.v (pd_var (i := 8)))))) (pn_end (y := fun (v_found_19 : List PyData) => v_found_19) (pn_app (i := 6) (pd_var (i := 10))) (fun v_found_19 => ⟨rfl, rfl, rfl, rfl, trivial, trivial, rfl, rfl, rfl, rfl, rfl, trivial⟩)) (pn_nil (y := st_15.1) ⟨rfl, rfl, rfl, rfl, trivial, trivial, rfl, rfl, rfl, rfl, rfl, trivial⟩)) fun t_18 =>
  (pn_end (y := fun (t_20 : (PyData × (PyData × (PyData × Unit)))) => (t_18, t_20.1, t_20.2.1, t_20.2.2.1)) (pn_par (is := [7, 8, 9]) (pq_e (pd_2 (PD.p (pd_var (i := 7))) (PD.v (pd_2 (PD.p pd_c) (PD.v (pd_var (i := 3)))))) (pq_e (pd_2 (PD.p (pd_var (i := 8))) (PD.v (pd_2 (PD.p pd_c) (PD.v (pd_var (i := 2)))))) (pq_e (pd_2 (PD.p (pd_var (i := 9))) (PD.v pd_c)) pq_nil)))) (fun t_20 => ⟨rfl, rfl, rfl, rfl, trivial, trivial, rfl, rfl, rfl, rfl, trivial, trivial⟩))))) fun st_15 =>
  (pr_ret (pd_B1 (PP.v (pp_varL (i := 6))))))))))))
theorem sim__law_casts_hold : StN g__law_casts_hold 15 1 (st0 K18.p__law_casts_hold) := fun xs S r h => by
  obtain rfl := st0_inv h
  refine ⟨rfl, fn_st ?_ h⟩
  show PR true [.k (.p S), .o, .o, .o, .o, .o, .o, .o, .o, .o, .o, .o, .o, .o, .o, .o] g__law_casts_hold (K18.p__law_casts_hold S) Prod.fst (StJ 0)
  exact (pr_seq (sn_set (C := (fun (S : List PyData) => [.k (.p S), .o, .o, .o, .o, .o, .o, .o, .o, .o, .o, .o, .o, .o, .o, .o])) (s := S) (i := 1) (sd_st (i := 0) (.inl rfl) sim__law_draw (sd_cs (sd_l fun _ => pd_c) sd_nl) (fun _ => rfl) (fun _ _ => rfl)) (fun _ => rfl)) fun t_1 =>
  (pr_seq (sn_par (C := (fun (S : List PyData) => [.k (.p S), .k (.d t_1.1), .o, .o, .o, .o, .o, .o, .o, .o, .o, .o, .o, .o, .o, .o])) (s := t_1.2) (is := [2, 3]) (sq_e (sd_2 (SD.p (sd_l fun _ => (pd_var (i := 1)))) (SD.p (sd_st (i := 0) (.inl rfl) sim__law_draw (sd_cs (sd_l fun _ => pd_c) sd_nl) (fun _ => rfl) (fun _ _ => rfl)))) (sq_e (sd_2 (SD.p (sd_l fun _ => pd_c)) (SD.p (sd_st (i := 0) (.inl rfl) sim__law_draw (sd_cs (sd_l fun _ => pd_c) sd_nl) (fun _ => rfl) (fun _ _ => rfl)))) sq_nil)) (ho := fun _ => rfl)) fun t_2 =>
  (pr_seq (pn_setL (i := 4) (pl_lst (pd_cs (pd_var (i := 3)) pd_nl))) fun v_sizes_7 =>
  (pr_seq (pn_for (Λ := (fun (st_8 : List PyData × List PyData) => [.k (.p st_8.1), .k (.d t_1.1), .k (.d t_2.1.1), .k (.d t_2.1.2.1), .k (.l st_8.2), .o, .o, .o, .o, .o, .o, .o, .o, .o, .o, .o])) (s0 := (t_2.2, v_sizes_7)) (pi_rg1 pd_c) ⟨rfl, rfl, rfl, rfl, rfl, trivial, trivial, trivial, trivial, trivial, trivial, trivial, trivial, trivial, trivial, trivial, trivial⟩ (fun st_8 => (pg_set (i := 5))) (fun st_8 t_10 => (pn_seq (sn_set (C := (fun (S : List PyData) => [.k (.p S), .k (.d t_1.1), .k (.d t_2.1.1), .k (.d t_2.1.2.1), .k (.l st_8.2), .k (.d t_10), .o, .o, .o, .o, .o, .o, .o, .o, .o, .o])) (s := st_8.1) (i := 6) (sd_st (i := 0) (.inl rfl) sim__law_draw (sd_cs (sd_l fun _ => pd_c) sd_nl) (fun _ => rfl) (fun _ _ => rfl)) (fun _ => rfl)) fun t_11 =>
  (pn_seq (pn_set (i := 7) (pd_2 (pp_varL (i := 4)) (PD.v (pd_1 (PD.v pd_c))))) fun v_own_12 =>
  (pn_seq (pn_for (Λ := (fun (st_13 : List PyData × PyData) => [.k (.p st_13.1), .k (.d t_1.1), .k (.d t_2.1.1), .k (.d t_2.1.2.1), .k (.l st_8.2), .k (.d t_10), .k (.d t_11.1), .k (.d st_13.2), .o, .o, .o, .o, .o, .o, .o, .o])) (s0 := (t_11.2, v_own_12)) (pi_rg1 (pd_var (i := 6))) ⟨rfl, rfl, rfl, rfl, rfl, rfl, rfl, rfl, trivial, trivial, trivial, trivial, trivial, trivial, trivial, trivial, trivial⟩ (fun st_13 => (pg_set (i := 8))) (fun st_13 t_15 => (pn_seq (sn_set (C := (fun (S : List PyData) => [.k (.p S), .k (.d t_1.1), .k (.d t_2.1.1), .k (.d t_2.1.2.1), .k (.l st_8.2), .k (.d t_10), .k (.d t_11.1), .k (.d st_13.2), .k (.d t_15), .o, .o, .o, .o, .o, .o, .o])) (s := st_13.1) (i := 9) (sd_2 (SD.p (sd_l fun _ => (pd_var (i := 1)))) (SD.p (sd_st (i := 0) (.inl rfl) sim__law_draw (sd_cs (sd_l fun _ => (pd_2 (PD.p (pd_2 (PD.p (pd_var (i := 2))) (PD.v (pd_var (i := 1))))) (PD.v pd_c))) sd_nl) (fun _ => rfl) (fun _ _ => rfl)))) (fun _ => rfl)) fun t_16 =>
  (pn_end (y := fun (v_own_17 : PyData) => (t_16.2, v_own_17)) (pn_set (i := 7) (pd_2 (PD.p (pd_var (i := 7))) (PD.v (pd_2 (PD.p (pd_2 (PD.p (pd_var (i := 7))) (PD.v (pd_var (i := 9))))) (PD.v pd_c))))) (fun v_own_17 => ⟨rfl, rfl, rfl, rfl, rfl, rfl, rfl, rfl, trivial, trivial, trivial, trivial, trivial, trivial, trivial, trivial, trivial⟩))))) fun st_13 =>
  (pn_end (y := fun (v_sizes_18 : List PyData) => (st_13.1, v_sizes_18)) (pn_app (i := 4) (pd_B1 (PD.v (pd_ofL (pl_lst (pd_cs pd_c (pd_cs (pd_var (i := 7)) pd_nl))))))) (fun v_sizes_18 => ⟨rfl, rfl, rfl, rfl, rfl, trivial, trivial, trivial, trivial, trivial, trivial, trivial, trivial, trivial, trivial, trivial, trivial⟩))))))) fun st_8 =>
  (pr_seq (pn_par (is := [10, 11, 12]) (pq_e (pd_cl sim_cast_times (pd_cs (pd_2 (pp_varL (i := 4)) (PD.v pd_c)) (pd_cs (pd_2 (pp_varL (i := 4)) (PD.v pd_c)) (pd_cs (pd_var (i := 1)) (pd_cs (pd_var (i := 2)) pd_nl))))) (pq_e (pd_cl sim_cast_times (pd_cs (pd_2 (pp_varL (i := 4)) (PD.v pd_c)) (pd_cs (pd_2 (pp_varL (i := 4)) (PD.v pd_c)) (pd_cs (pd_var (i := 1)) (pd_cs (pd_var (i := 2)) pd_nl))))) (pq_e (pd_cl sim_cast_times (pd_cs (pd_2 (pp_varL (i := 4)) (PD.v pd_c)) (pd_cs (pd_2 (pp_varL (i := 4)) (PD.v pd_c)) (pd_cs (pd_var (i := 1)) (pd_cs (pd_var (i := 2)) pd_nl))))) pq_nil)))) fun t_19 =>
  (pr_seqO (po_for (Λ := (fun (st_26 : Unit) => [.k (.p st_8.1), .k (.d t_1.1), .k (.d t_2.1.1), .k (.d t_2.1.2.1), .k (.l st_8.2), .o, .o, .o, .o, .o, .k (.d t_19.1), .k (.d t_19.2.1), .k (.d t_19.2.2.1), .o, .o, .o])) (s0 := ()) (pi_sq (pd_var (i := 10))) ⟨rfl, rfl, rfl, rfl, rfl, trivial, trivial, trivial, trivial, trivial, rfl, rfl, rfl, trivial, trivial, trivial, trivial⟩ (fun st_26 => (pg_set (i := 13))) (fun st_26 t_28 => (po_if (pt_tr (PD.v (pd_ofL (pl_lc (vs := [7]) (pi_sq (pd_var (i := 11))) (pg_set (i := 7)) (fun t_30 => (pt_and (pt_bl (PD.v (pd_2 (PD.p (pd_2 (PD.p (pd_var (i := 13))) (PD.v (pd_var (i := 7))))) (PD.v pd_c)))) (pt_bl (PD.v (pd_2 (PD.p (pd_2 (PD.p (pd_var (i := 13))) (PD.v (pd_var (i := 7))))) (PD.v (pd_var (i := 12)))))))) (fun t_30 => (pd_var (i := 7))) (hw := fun t_30 => ⟨rfl, rfl, rfl, rfl, rfl, trivial, trivial, trivial, trivial, trivial, rfl, rfl, rfl, rfl, trivial, trivial, trivial⟩))))) (po_R (pr_retP (i := 0) pd_c)) (po_nil (y := ()) ⟨rfl, rfl, rfl, rfl, rfl, trivial, trivial, trivial, trivial, trivial, rfl, rfl, rfl, trivial, trivial, trivial, trivial⟩)))) fun st_26 =>
  (pr_seq (pn_set (i := 14) (pd_cl sim_cast_times (pd_cs (pd_2 (pp_varL (i := 4)) (PD.v pd_c)) (pd_cs (pd_2 (pp_varL (i := 4)) (PD.v pd_c)) (pd_cs (pd_B1 (PD.v (pd_ofL (pl_lst (pd_cs pd_c (pd_cs (pd_2 (PD.p (pd_var (i := 1))) (PD.v pd_c)) pd_nl)))))) (pd_cs (pd_2 (PD.p (pd_var (i := 2))) (PD.v pd_c)) pd_nl)))))) fun v_wide_31 =>
  (pr_guard (pt_or (pt_tr (PD.v (pd_ofL (pl_lc (vs := [7]) (pi_sq (pd_var (i := 12))) (pg_set (i := 7)) (fun t_33 => (pt_bl (PD.v (pd_2 (PD.p (pd_var (i := 7))) (PD.v (pd_var (i := 14))))))) (fun t_33 => (pd_var (i := 7))) (hw := fun t_33 => ⟨rfl, rfl, rfl, rfl, rfl, trivial, trivial, trivial, trivial, trivial, rfl, rfl, rfl, trivial, rfl, trivial, trivial⟩))))) (pt_bl (PD.v (pd_2 (PD.p (pd_2 (PD.p pd_c) (PD.v (pd_var (i := 12))))) (PD.v (pd_2 (PD.p (pd_2 (pp_varL (i := 4)) (PD.v pd_c))) (PD.v (pd_2 (pp_varL (i := 4)) (PD.v pd_c))))))))) (pr_retP (i := 0) pd_c)
  (pr_guard (pt_or (pt_not (pt_tr (PD.v (pd_cl sim__law_same (pd_cs (pd_cl sim_cast_times (pd_cs (pd_2 (PD.p pd_c) (PD.v (pd_2 (pp_varL (i := 4)) (PD.v pd_c)))) (pd_cs (pd_2 (PD.p pd_c) (PD.v (pd_2 (pp_varL (i := 4)) (PD.v pd_c)))) (pd_cs (pd_var (i := 1)) (pd_cs (pd_var (i := 2)) pd_nl))))) (pd_cs (pd_var (i := 12)) pd_nl)))))) (pt_and (pt_bl (PD.v (pd_2 (PD.p (pd_var (i := 1))) (PD.v pd_c)))) (pt_bl (PD.v (pd_2 (PD.p (pd_cl sim_cast_times (pd_cs (pd_2 (pp_varL (i := 4)) (PD.v pd_c)) (pd_cs (pd_2 (PD.p (pd_2 (pp_varL (i := 4)) (PD.v pd_c))) (PD.v pd_c)) (pd_cs (pd_var (i := 1)) (pd_cs (pd_var (i := 2)) pd_nl)))))) (PD.v (pd_tup pd_nl))))))) (pr_retP (i := 0) pd_c)
  (pr_seq (pn_set (i := 15) (pd_cl sim_cast_times (pd_cs (pd_var (i := 3)) (pd_cs (pd_var (i := 3)) (pd_cs pd_c (pd_cs (pd_var (i := 2)) pd_nl)))))) fun v_alike_34 =>
  (pr_retP (i := 0) (pd_andT (pd_cl sim__law_same (pd_cs (pd_var (i := 15)) (pd_cs (pd_B1 (PD.v (pd_ofL (pl_lr1 pd_c)))) pd_nl))) (pd_orT (pd_2 (PD.p (pd_var (i := 1))) (PD.v pd_c)) (pd_2 (PD.p (pd_cl sim_cast_times (pd_cs (pd_var (i := 3)) (pd_cs (pd_var (i := 3)) (pd_cs (pd_var (i := 1)) (pd_cs (pd_var (i := 2)) pd_nl)))))) (PD.v (pd_tup (pd_cs pd_c pd_nl)))))))))))))))))
theorem sim__law_less : PuN g__law_less 0 2 (ap2 K18.p__law_less) := fun xs r h => by
  obtain ⟨v_one, v_other, rfl⟩ := ap2_inv h
  refine ⟨rfl, fn_pu ?_ h⟩
  show PR true [.k (.d v_one), .k (.d v_other)] g__law_less (K18.p__law_less v_one v_other) id NoJ
  exact (pr_ret (pd_2 (PD.p (pd_2 (PD.p (pd_2 (PD.p (pd_var (i := 0))) (PD.v pd_c))) (PD.v (pd_2 (PD.p (pd_var (i := 1))) (PD.v pd_c))))) (PD.v (pd_2 (PD.p (pd_2 (PD.p (pd_var (i := 1))) (PD.v pd_c))) (PD.v (pd_2 (PD.p (pd_var (i := 0))) (PD.v pd_c)))))))
theorem sim_check_dated : PuN g_check_dated 2 1 (ap1 HR.p_wear_check_dated) := fun xs r h => by
  obtain ⟨v_dated, rfl⟩ := ap1_inv h
  refine ⟨rfl, fn_pu ?_ h⟩
  show PR true [.k (.d v_dated), .o, .o] g_check_dated (HR.p_wear_check_dated v_dated) id NoJ
  exact (pr_guard (pt_or (pt_not (pt_tr (PD.v (pd_1 (PD.v (pd_var (i := 0))))))) (pt_not (pt_bl (PD.v (pd_chain (PD.p pd_c) (PD.p (pd_B1 (PD.v (pd_var (i := 0))))) (PD.v pd_c)))))) pr_never
  (pr_end (pn_for (Λ := (fun (st_1 : Unit) => [.k (.d v_dated), .o, .o])) (s0 := ()) (pi_sq (pd_var (i := 0))) ⟨rfl, trivial, trivial, trivial⟩ (fun st_1 => (pg_set (i := 1))) (fun st_1 t_3 => (pn_raise (pt_or (pt_not (pt_tr (PD.v (pd_1 (PD.v (pd_var (i := 1))))))) (pt_or (pt_bl (PD.v (pd_2 (PD.p (pd_B1 (PD.v (pd_var (i := 1))))) (PD.v pd_c)))) (pt_not (pt_tr (PD.v (pd_B1 (PD.v (pd_ofL (pl_lcA (vs := [2]) (pi_sq (pd_var (i := 1))) (pg_set (i := 2)) (fun t_5 => (pd_cl sim_is_amount (pd_cs (pd_var (i := 2)) pd_nl))) (hw := fun t_5 => ⟨rfl, rfl, trivial, trivial⟩))))))))))
  (pn_end (y := fun (t_6 : Unit) => ()) (pn_if (Δ := (fun (t_6 : Unit) => [.k (.d v_dated), .k (.d t_3), .o])) (pt_or (pt_bl (PD.v (pd_2 (PD.p (pd_2 (PD.p (pd_var (i := 1))) (PD.v pd_c))) (PD.v (pd_2 (PD.p (pd_var (i := 1))) (PD.v pd_c)))))) (pt_not (pt_bl (PD.v (pd_chain (PD.p pd_c) (PD.p (pd_2 (PD.p (pd_var (i := 1))) (PD.v pd_c))) (PD.v pd_c)))))) pn_never (pn_nil (y := ()) ⟨rfl, rfl, trivial, trivial⟩)) (fun t_6 => ⟨rfl, trivial, trivial, trivial⟩)))))))
theorem sim_less : PuN g_less 0 2 (ap2 HR.p_wear_less) := fun xs r h => by
  obtain ⟨v_one, v_other, rfl⟩ := ap2_inv h
  refine ⟨rfl, fn_pu ?_ h⟩
  show PR true [.k (.d v_one), .k (.d v_other)] g_less (HR.p_wear_less v_one v_other) id NoJ
  exact (pr_ret (pd_2 (PD.p (pd_2 (PD.p (pd_2 (PD.p (pd_var (i := 0))) (PD.v pd_c))) (PD.v (pd_2 (PD.p (pd_var (i := 1))) (PD.v pd_c))))) (PD.v (pd_2 (PD.p (pd_2 (PD.p (pd_var (i := 1))) (PD.v pd_c))) (PD.v (pd_2 (PD.p (pd_var (i := 0))) (PD.v pd_c)))))))
theorem sim_quotient : PuN g_quotient 2 2 (ap2 HR.p_wear_quotient) := fun xs r h => by
  obtain ⟨v_up, v_down, rfl⟩ := ap2_inv h
  refine ⟨rfl, fn_pu ?_ h⟩
  show PR true [.k (.d v_up), .k (.d v_down), .o, .o] g_quotient (HR.p_wear_quotient v_up v_down) id NoJ
  exact (pr_seq (pn_par (is := [2, 3]) (pq_e (pd_var (i := 0)) (pq_e (pd_var (i := 1)) pq_nil))) fun t_1 =>
  (pr_seq (pn_while (Λ := (fun (st_6 : PyData × PyData) => [.k (.d v_up), .k (.d v_down), .k (.d st_6.1), .k (.d st_6.2)])) (s0 := (t_1.1, t_1.2.1)) ⟨rfl, rfl, rfl, rfl, trivial⟩ (fun st_6 => (pt_tr (PD.v (pd_var (i := 3))))) (fun st_6 => (pn_end (y := fun (t_7 : (PyData × (PyData × Unit))) => (t_7.1, t_7.2.1)) (pn_par (is := [2, 3]) (pq_e (pd_var (i := 3)) (pq_e (pd_2 (PD.p (pd_var (i := 2))) (PD.v (pd_var (i := 3)))) pq_nil))) (fun t_7 => ⟨rfl, rfl, rfl, rfl, trivial⟩)))) fun st_6 =>
  (pr_ret (pd_tup (pd_cs (pd_2 (PD.p (pd_var (i := 0))) (PD.v (pd_var (i := 2)))) (pd_cs (pd_2 (PD.p (pd_var (i := 1))) (PD.v (pd_var (i := 2)))) pd_nl))))))
theorem sim_judge_rate : PuN g_judge_rate 6 1 (ap1 HR.p_wear_judge_rate) := fun xs r h => by
  obtain ⟨v_dated, rfl⟩ := ap1_inv h
  refine ⟨rfl, fn_pu ?_ h⟩
  show PR true [.k (.d v_dated), .o, .o, .o, .o, .o, .o] g_judge_rate (HR.p_wear_judge_rate v_dated) id NoJ
  exact (pr_seq (pn_drop (PD.v (pd_cl sim_check_dated (pd_cs (pd_var (i := 0)) pd_nl)))) fun _u_1 =>
  (pr_seq (pn_par (is := [1, 2]) (pq_e pd_c (pq_e pd_c pq_nil))) fun t_2 =>
  (pr_seq (pn_for (Λ := (fun (st_7 : PyData × PyData) => [.k (.d v_dated), .k (.d st_7.1), .k (.d st_7.2), .o, .o, .o, .o])) (s0 := (t_2.1, t_2.2.1)) (pi_en (pd_var (i := 0))) ⟨rfl, rfl, rfl, trivial, trivial, trivial, trivial, trivial⟩ (fun st_7 => (pg_tup (pg_cons (pg_set (i := 3)) fun _ => (pg_cons (pg_tup (pg_cons (pg_set (i := 4)) fun _ => (pg_cons (pg_set (i := 5)) fun _ => (pg_cons (pg_set (i := 6)) fun _ => pg_nil)))) fun _ => pg_nil)))) (fun st_7 t_9 => (pn_seq (pn_if (Δ := (fun (t_10 : PyData) => [.k (.d v_dated), .k (.d t_10), .k (.d st_7.2), .k (.d t_9.1), .k (.d t_9.2.1.1), .k (.d t_9.2.1.2.1), .k (.d t_9.2.1.2.2.1)])) (pt_tr (PD.v (pd_cl sim_less (pd_cs (pd_tup (pd_cs (pd_var (i := 5)) (pd_cs (pd_var (i := 6)) pd_nl))) (pd_cs (pd_sl (PD.p (pd_2 (PD.p (pd_var (i := 0))) (PD.v (pd_var (i := 1))))) (po_pt pd_c) po_no) pd_nl))))) (pn_end (y := fun (v_one_11 : PyData) => v_one_11) (pn_set (i := 1) (pd_var (i := 3))) (fun v_one_11 => ⟨rfl, rfl, rfl, rfl, rfl, rfl, rfl, trivial⟩)) (pn_nil (y := st_7.1) ⟨rfl, rfl, rfl, rfl, rfl, rfl, rfl, trivial⟩)) fun t_10 =>
  (pn_end (y := fun (t_12 : PyData) => (t_10, t_12)) (pn_if (Δ := (fun (t_12 : PyData) => [.k (.d v_dated), .k (.d t_10), .k (.d t_12), .k (.d t_9.1), .k (.d t_9.2.1.1), .k (.d t_9.2.1.2.1), .k (.d t_9.2.1.2.2.1)])) (pt_tr (PD.v (pd_cl sim_less (pd_cs (pd_tup (pd_cs (pd_2 (PD.p (pd_2 (PD.p (pd_var (i := 0))) (PD.v (pd_var (i := 2))))) (PD.v pd_c)) (pd_cs (pd_2 (PD.p (pd_2 (PD.p (pd_var (i := 0))) (PD.v (pd_var (i := 2))))) (PD.v pd_c)) pd_nl))) (pd_cs (pd_tup (pd_cs (pd_var (i := 4)) (pd_cs (pd_var (i := 6)) pd_nl))) pd_nl))))) (pn_end (y := fun (v_other_13 : PyData) => v_other_13) (pn_set (i := 2) (pd_var (i := 3))) (fun v_other_13 => ⟨rfl, rfl, rfl, rfl, rfl, rfl, rfl, trivial⟩)) (pn_nil (y := st_7.2) ⟨rfl, rfl, rfl, rfl, rfl, rfl, rfl, trivial⟩)) (fun t_12 => ⟨rfl, rfl, rfl, trivial, trivial, trivial, trivial, trivial⟩))))) fun st_7 =>
  (pr_guard (pt_tr (PD.v (pd_cl sim_less (pd_cs (pd_sl (PD.p (pd_2 (PD.p (pd_var (i := 0))) (PD.v (pd_var (i := 1))))) (po_pt pd_c) po_no) (pd_cs (pd_tup (pd_cs (pd_2 (PD.p (pd_2 (PD.p (pd_var (i := 0))) (PD.v (pd_var (i := 2))))) (PD.v pd_c)) (pd_cs (pd_2 (PD.p (pd_2 (PD.p (pd_var (i := 0))) (PD.v (pd_var (i := 2))))) (PD.v pd_c)) pd_nl))) pd_nl))))) (pr_ret (pd_tup (pd_cs pd_c (pd_cs (pd_var (i := 1)) (pd_cs (pd_var (i := 2)) pd_nl)))))
  (pr_ret (pd_tup (pd_cs pd_c (pd_cs (pd_cl sim_quotient (pd_cs (pd_2 (PD.p (pd_2 (PD.p (pd_var (i := 0))) (PD.v (pd_var (i := 2))))) (PD.v pd_c)) (pd_cs (pd_2 (PD.p (pd_2 (PD.p (pd_var (i := 0))) (PD.v (pd_var (i := 2))))) (PD.v pd_c)) pd_nl))) (pd_cs (pd_cl sim_quotient (pd_cs (pd_2 (PD.p (pd_2 (PD.p (pd_var (i := 0))) (PD.v (pd_var (i := 1))))) (PD.v pd_c)) (pd_cs (pd_2 (PD.p (pd_2 (PD.p (pd_var (i := 0))) (PD.v (pd_var (i := 1))))) (PD.v pd_c)) pd_nl))) pd_nl)))))))))
theorem sim_x_accept_rate : PuN g_x_accept_rate 4 2 (ap2 HR.p_wear_x_accept_rate) := fun xs r h => by
  obtain ⟨v_dated, v_rate, rfl⟩ := ap2_inv h
  refine ⟨rfl, fn_pu ?_ h⟩
  show PR true [.k (.d v_dated), .k (.d v_rate), .o, .o, .o, .o] g_x_accept_rate (HR.p_wear_x_accept_rate v_dated v_rate) id NoJ
  exact (pr_seq (pn_drop (PD.v (pd_cl sim_check_dated (pd_cs (pd_var (i := 0)) pd_nl)))) fun _u_1 =>
  (pr_guard (pt_or (pt_not (pt_tr (PD.v (pd_1 (PD.v (pd_var (i := 1))))))) (pt_or (pt_bl (PD.v (pd_2 (PD.p (pd_B1 (PD.v (pd_var (i := 1))))) (PD.v pd_c)))) (pt_not (pt_tr (PD.v (pd_B1 (PD.v (pd_ofL (pl_lcA (vs := [2]) (pi_sq (pd_var (i := 1))) (pg_set (i := 2)) (fun t_3 => (pd_cl sim_is_integer (pd_cs (pd_var (i := 2)) pd_nl))) (hw := fun t_3 => ⟨rfl, rfl, trivial, trivial, trivial, trivial, trivial⟩)))))))))) (pr_ret pd_c)
  (pr_guard (pt_or (pt_bl (PD.v (pd_2 (PD.p (pd_2 (PD.p (pd_var (i := 1))) (PD.v pd_c))) (PD.v pd_c)))) (pt_or (pt_bl (PD.v (pd_2 (PD.p (pd_2 (PD.p (pd_var (i := 1))) (PD.v pd_c))) (PD.v pd_c)))) (pt_bl (PD.v (pd_2 (PD.p (pd_cl sim_quotient (pd_cs (pd_2 (PD.p (pd_var (i := 1))) (PD.v pd_c)) (pd_cs (pd_2 (PD.p (pd_var (i := 1))) (PD.v pd_c)) pd_nl)))) (PD.v (pd_var (i := 1)))))))) (pr_ret pd_c)
  (pr_endO (po_for (Λ := (fun (st_4 : Unit) => [.k (.d v_dated), .k (.d v_rate), .o, .o, .o, .o])) (s0 := ()) (pi_sq (pd_var (i := 0))) ⟨rfl, rfl, trivial, trivial, trivial, trivial, trivial⟩ (fun st_4 => (pg_tup (pg_cons (pg_set (i := 3)) fun _ => (pg_cons (pg_set (i := 4)) fun _ => (pg_cons (pg_set (i := 5)) fun _ => pg_nil))))) (fun st_4 t_6 => (po_if (pt_or (pt_tr (PD.v (pd_cl sim_less (pd_cs (pd_var (i := 1)) (pd_cs (pd_tup (pd_cs (pd_var (i := 3)) (pd_cs (pd_var (i := 5)) pd_nl))) pd_nl))))) (pt_tr (PD.v (pd_cl sim_less (pd_cs (pd_tup (pd_cs (pd_var (i := 4)) (pd_cs (pd_var (i := 5)) pd_nl))) (pd_cs (pd_var (i := 1)) pd_nl)))))) (po_R (pr_ret pd_c)) (po_nil (y := ()) ⟨rfl, rfl, trivial, trivial, trivial, trivial, trivial⟩))))))))
theorem sim__law_rates_hold : StN g__law_rates_hold 10 1 (st0 K18.p__law_rates_hold) := fun xs S r h => by
  obtain rfl := st0_inv h
  refine ⟨rfl, fn_st ?_ h⟩
  show PR true [.k (.p S), .o, .o, .o, .o, .o, .o, .o, .o, .o, .o] g__law_rates_hold (K18.p__law_rates_hold S) Prod.fst (StJ 0)
  exact (pr_seq (pn_setL (i := 1) (pl_lst pd_nl)) fun v_heaps_1 =>
  (pr_seq (pn_for (Λ := (fun (st_2 : List PyData × List PyData) => [.k (.p st_2.1), .k (.l st_2.2), .o, .a, .o, .o, .o, .o, .o, .o, .o])) (s0 := (S, v_heaps_1)) (pi_rg1 pd_c) ⟨rfl, rfl, trivial, trivial, trivial, trivial, trivial, trivial, trivial, trivial, trivial, trivial⟩ (fun st_2 => (pg_set (i := 2))) (fun st_2 t_4 => (pn_seq (pn_setL (i := 3) (pl_lst pd_nl)) fun v_rows_5 =>
  (pn_seq (sn_for (C := (fun (S : List PyData) => [.k (.p S), .k (.l st_2.2), .k (.d t_4), .k (.l v_rows_5), .o, .o, .o, .o, .o, .o, .o])) (s := st_2.1) (Λ := (fun (st_6 : List PyData × List PyData) => [.k (.p st_6.1), .k (.l st_2.2), .k (.d t_4), .k (.l st_6.2), .o, .o, .o, .o, .o, .o, .o])) (y := (fun S_7 => (S_7, v_rows_5))) (si_rg1 (sd_2 (SD.p (sd_l fun _ => pd_c)) (SD.p (sd_st (i := 0) (.inl rfl) sim__law_draw (sd_cs (sd_l fun _ => pd_c) sd_nl) (fun _ => rfl) (fun _ _ => rfl))))) (fun S_7 => ⟨rfl, rfl, rfl, rfl, trivial, trivial, trivial, trivial, trivial, trivial, trivial, trivial⟩) (fun st_6 => (pg_set (i := 4))) (fun st_6 t_9 => (pn_seq (sn_set (C := (fun (S : List PyData) => [.k (.p S), .k (.l st_2.2), .k (.d t_4), .k (.l st_6.2), .k (.d t_9), .o, .o, .o, .o, .o, .o])) (s := st_6.1) (i := 5) (sd_2 (SD.p (sd_l fun _ => pd_c)) (SD.p (sd_st (i := 0) (.inl rfl) sim__law_draw (sd_cs (sd_l fun _ => pd_c) sd_nl) (fun _ => rfl) (fun _ _ => rfl)))) (fun _ => rfl)) fun t_10 =>
  (pn_seq (sn_set (C := (fun (S : List PyData) => [.k (.p S), .k (.l st_2.2), .k (.d t_4), .k (.l st_6.2), .k (.d t_9), .k (.d t_10.1), .o, .o, .o, .o, .o])) (s := t_10.2) (i := 6) (sd_2 (SD.p (sd_2 (SD.p (sd_l fun _ => (pd_var (i := 5)))) (SD.p (sd_2 (SD.p (sd_l fun _ => pd_c)) (SD.p (sd_st (i := 0) (.inl rfl) sim__law_draw (sd_cs (sd_l fun _ => pd_c) sd_nl) (fun _ => rfl) (fun _ _ => rfl))))))) (SD.p (sd_st (i := 0) (.inl rfl) sim__law_draw (sd_cs (sd_l fun _ => pd_c) sd_nl) (fun _ => rfl) (fun _ _ => rfl)))) (fun _ => rfl)) fun t_11 =>
  (pn_end (y := fun (t_12 : List PyData × List PyData) => (t_12.2, t_12.1)) (sn_app (C := (fun (S : List PyData) => [.k (.p S), .k (.l st_2.2), .k (.d t_4), .k (.l st_6.2), .k (.d t_9), .k (.d t_10.1), .k (.d t_11.1), .o, .o, .o, .o])) (s := t_11.2) (i := 3) (sd_tup (sd_cs (sd_l fun _ => (pd_B1 (PD.v (pd_ofL (pl_lst (pd_cs pd_c (pd_cs (pd_var (i := 6)) pd_nl))))))) (sd_cs (sd_2 (SD.p (sd_l fun _ => (pd_B1 (PD.v (pd_ofL (pl_lst (pd_cs pd_c (pd_cs (pd_var (i := 6)) pd_nl)))))))) (SD.p (sd_st (i := 0) (.inl rfl) sim__law_draw (sd_cs (sd_l fun _ => (pd_2 (PD.p (pd_2 (PD.p pd_c) (PD.v (pd_var (i := 5))))) (PD.v pd_c))) sd_nl) (fun _ => rfl) (fun _ _ => rfl)))) (sd_cs (sd_l fun _ => (pd_var (i := 5))) sd_nl)))) (fun _ => rfl)) (fun t_12 => ⟨rfl, rfl, rfl, rfl, trivial, trivial, trivial, trivial, trivial, trivial, trivial, trivial⟩)))))) fun st_6 =>
  (pn_end (y := fun (v_heaps_13 : List PyData) => (st_6.1, v_heaps_13)) (pn_app (i := 1) (pd_B1 (PP.v (pp_varL (i := 3))))) (fun v_heaps_13 => ⟨rfl, rfl, trivial, trivial, trivial, trivial, trivial, trivial, trivial, trivial, trivial, trivial⟩)))))) fun st_2 =>
  (pr_wk (Γ' := [.k (.p st_2.1), .z st_2.2, .o, .a, .o, .o, .o, .o, .o, .o, .o]) ⟨rfl, rfl, trivial, trivial, trivial, trivial, trivial, trivial, trivial, trivial, trivial, trivial⟩ (pr_seq (pn_par (is := [8, 9]) (pq_e (pd_ofL (pl_lcA (vs := [7]) (pi_sq (pd_frzZ (i := 1))) (pg_set (i := 7)) (fun t_16 => (pd_cl sim_judge_rate (pd_cs (pd_var (i := 7)) pd_nl))) (hw := fun t_16 => ⟨rfl, rfl, trivial, trivial, trivial, trivial, trivial, trivial, trivial, trivial, trivial, trivial⟩))) (pq_e (pd_cl sim_judge_rate (pd_cs (pd_2 (PD.p (pd_2V (pv_varZ (i := 1)))) (PD.v (pd_2V (pv_varZ (i := 1))))) pd_nl)) pq_nil))) fun t_14 =>
  (pr_guard (pt_bl (PD.v (pd_2 (PD.p pd_c) (PD.v (pd_ofL (pl_lcA (vs := [7]) (pi_sq (pd_var (i := 8))) (pg_set (i := 7)) (fun t_22 => (pd_2 (PD.p (pd_var (i := 7))) (PD.v pd_c))) (hw := fun t_22 => ⟨rfl, rfl, trivial, trivial, trivial, trivial, trivial, trivial, rfl, rfl, trivial, trivial⟩))))))) (pr_retP (i := 0) (pd_2 (PD.p (pd_2 (PD.p (pd_var (i := 9))) (PD.v pd_c))) (PD.v pd_c)))
  (pr_seq (pn_par (is := [10, 6]) (pq_e (pd_2 (PD.p (pd_2 (PD.p (pd_var (i := 8))) (PD.v pd_c))) (PD.v pd_c)) (pq_e (pd_2 (PD.p (pd_2 (PD.p (pd_var (i := 8))) (PD.v pd_c))) (PD.v pd_c)) pq_nil))) fun t_23 =>
  (pr_seq (pn_par (is := [10, 6]) (pq_e (pd_ifE (pt_tr (PD.v (pd_cl sim__law_less (pd_cs (pd_var (i := 10)) (pd_cs (pd_2 (PD.p (pd_2 (PD.p (pd_var (i := 8))) (PD.v pd_c))) (PD.v pd_c)) pd_nl))))) (pd_2 (PD.p (pd_2 (PD.p (pd_var (i := 8))) (PD.v pd_c))) (PD.v pd_c)) (pd_var (i := 10))) (pq_e (pd_ifE (pt_tr (PD.v (pd_cl sim__law_less (pd_cs (pd_2 (PD.p (pd_2 (PD.p (pd_var (i := 8))) (PD.v pd_c))) (PD.v pd_c)) (pd_cs (pd_var (i := 6)) pd_nl))))) (pd_2 (PD.p (pd_2 (PD.p (pd_var (i := 8))) (PD.v pd_c))) (PD.v pd_c)) (pd_var (i := 6))) pq_nil))) fun t_28 =>
  (pr_guard (pt_tr (PD.v (pd_cl sim__law_less (pd_cs (pd_var (i := 6)) (pd_cs (pd_var (i := 10)) pd_nl))))) (pr_retP (i := 0) (pd_andT (pd_2 (PD.p (pd_2 (PD.p (pd_var (i := 9))) (PD.v pd_c))) (PD.v pd_c)) (pd_2 (PD.p (pd_2 (PD.p (pd_var (i := 9))) (PD.v pd_c))) (PD.v (pd_2 (PD.p (pd_var (i := 9))) (PD.v pd_c))))))
  (pr_guard (pt_bl (PD.v (pd_2 (PD.p (pd_var (i := 9))) (PD.v (pd_tup (pd_cs pd_c (pd_cs (pd_var (i := 10)) (pd_cs (pd_var (i := 6)) pd_nl)))))))) (pr_retP (i := 0) pd_c)
  (pr_retP (i := 0) (pd_2 (PD.p (pd_ofL (pl_lc (vs := [7]) (pi_sq (pd_ofL (pl_lst (pd_cs (pd_var (i := 10)) (pd_cs (pd_var (i := 6)) pd_nl))))) (pg_set (i := 7)) (fun t_34 => (pt_not (pt_tr (PD.v (pd_tk sim_x_accept_rate (pd_ofL (pl_lst (pd_cs (pd_2 (PD.p (pd_2V (pv_varZ (i := 1)))) (PD.v (pd_2V (pv_varZ (i := 1))))) (pd_cs (pd_var (i := 7)) pd_nl))))))))) (fun t_34 => (pd_var (i := 7))) (hw := fun t_34 => ⟨rfl, rfl, trivial, trivial, trivial, trivial, rfl, trivial, rfl, rfl, rfl, trivial⟩)))) (PD.v (pd_ofL (pl_lst pd_nl))))))))))))))
theorem sim_law : PuN g_law 2 1 (ap1 K18.p_law) := fun xs r h => by
  obtain ⟨v_script, rfl⟩ := ap1_inv h
  refine ⟨rfl, fn_pu ?_ h⟩
  show PR true [.k (.d v_script), .o, .o] g_law (K18.p_law v_script) id NoJ
  exact (pr_seq (pn_setL (i := 1) (pl_start (pd_cs (pd_var (i := 0)) pd_nl) (fun _ h => by simp at h; subst h; rfl))) fun v_state_1 =>
  (pr_seqO (po_for (Λ := (fun (st_2 : List PyData) => [.k (.d v_script), .k (.l st_2), .o])) (s0 := v_state_1) (pi_rg1 pd_c) ⟨rfl, rfl, trivial, trivial⟩ (fun st_2 => (pg_set (i := 2))) (fun st_2 t_4 => (so_if (C := (fun (S : List PyData) => [.k (.d v_script), .k (.l S), .k (.d t_4)])) (s := st_2) (st_or_ (st_not_ (st_tr (SD.p (sd_st (i := 1) (.inr rfl) sim__law_worn_holds sd_nl (fun _ => rfl) (fun _ _ => rfl))))) (st_or_ (st_not_ (st_tr (SD.p (sd_st (i := 1) (.inr rfl) sim__law_casts_hold sd_nl (fun _ => rfl) (fun _ _ => rfl))))) (st_not_ (st_tr (SD.p (sd_st (i := 1) (.inr rfl) sim__law_rates_hold sd_nl (fun _ => rfl) (fun _ _ => rfl))))))) (fun S_5 => (po_R (pr_ret pd_c))) (fun S_5 =>
  (po_nil (y := S_5) ⟨rfl, rfl, trivial, trivial⟩))))) fun st_2 =>
  (pr_ret pd_c)))
end K18
set_option Elab.async false
set_option linter.all false
set_option maxRecDepth 100000
set_option maxHeartbeats 4000000
/-! L18h: k18, the law. -/
namespace K18
open PySem PySem.Spec L2 L2.FL HR

theorem law_plain (ns : List Int) (h : ns.length ≤ 63) : p_law (.list (ns.map .int)) = some (.bool true) := by
  obtain ⟨S, d0, e0⟩ := start h
  unfold p_law
  refine bs S (by simp [e0]) ?_
  obtain ⟨o, eo, ho⟩ := forP_inv (ρ := PyData) (κ' := Empty) (F := fun (x3 : PyData) (s2 : List PyData) => (uSet x3).bind fun t4 => (sIfE (sOr (sNot (sM tru (sB sNl (st0 K18.p__law_worn_holds)))) (sOr (sNot (sM tru (sB sNl (st0 K18.p__law_casts_hold)))) (sNot (sM tru (sB sNl (st0 K18.p__law_rates_hold)))))) (fun S5 => (Option.map Oc.rt (some (PyData.bool false)))) (fun S5 => (some (Oc.nx S5))) s2)) (e := nI) (as := List.range 3) (k := 0) (s := S)
    (I := fun k s => Drawn (100 * k) s) (Post := fun o => ∃ s, o = .nx s) (fun i a s ha hI => by
      have hi : i < 3 := by simpa using (List.getElem?_eq_some_iff.mp ha).1
      obtain ⟨S1, d1, e1⟩ := ev_worn hI (by omega)
      obtain ⟨S2, d2, e2⟩ := ev_casts d1 (by omega)
      obtain ⟨S3, d3, e3⟩ := ev_rates d2 (by omega)
      exact ⟨.nx S3, by simp [e1, e2, e3], d3.mono (by omega)⟩) (fun s _ => ⟨s, rfl⟩) d0
  obtain ⟨s, rfl⟩ := ho
  simp only [pFor, pRg1, Option.bind_some]
  rw [show (PyData.int 3) = .int ((3 : Nat) : Int) from rfl, rg1_nat (n := 3) (by decide), Option.bind_some, eo]
  rfl
theorem law_all (ns : List Int) (h : ns.length ≤ 63) : ∃ r, fcall g_law 2 [.d (.list (ns.map .int))] = some (.bool true, r) := by
  have := (sim_law [.list (ns.map .int)] (.bool true) (law_plain ns h)).2
  exact this
end K18
open PySem PySem.W PyProof.Rows
set_option maxHeartbeats 0 in
theorem PySem.Challenge.cw_hoardsread_k18_worn_on_and_cast_on_holds : PySem.Challenge.rw_hoardsread_k18_worn_on_and_cast_on.Holds := by
  w_on; o_law; k_head; (case hw => w_witness2)
  k_fill
  refine L2.FL.walk_ofG (l := PySem.Challenge.rw_hoardsread_k18_worn_on_and_cast_on) (n := 63) (k := 7) (m := 2) (g := K18.g_law) (x := PySem.Str.ofString "script") rfl (by decide) rfl ⟨rfl, by decide, by decide⟩ (fun w h Y => PySem.W.kIn_of Y) ?F K18.law_all
  case F =>
    intro w mg fa h KX G hmg
    refine' K18.all_mk KX G hmg ?a0 ?l0 ?c0 ?k0 ?a1 ?l1 ?c1 ?k1 ?a2 ?l2 ?c2 ?k2 ?a3 ?l3 ?c3 ?k3 ?a4 ?l4 ?c4 ?k4 ?a5 ?l5 ?c5 ?k5 ?a6 ?l6 ?c6 ?k6 ?a7 ?l7 ?c7 ?k7 ?a8 ?l8 ?c8 ?k8 ?a9 ?l9 ?c9 ?k9 ?a10 ?l10 ?c10 ?k10 ?a11 ?l11 ?c11 ?k11 ?a12 ?l12 ?c12 ?k12 ?a13 ?l13 ?c13 ?k13 ?a14 ?l14 ?c14 ?k14 ?a15 ?l15 ?c15 ?k15 ?a16 ?l16 ?c16 ?k16 ?a17 ?l17 ?c17 ?k17 ?a18 ?l18 ?c18 ?k18 ?a19 ?l19 ?c19 ?k19 ?a20 ?l20 ?c20 ?k20 ?a21 ?l21 ?c21 ?k21 ?a22 ?l22 ?c22 ?k22 ?a23 ?l23 ?c23 ?k23 ?a24 ?l24 ?c24 ?k24 ?a25 ?l25 ?c25 ?k25 ?a26 ?l26 ?c26 ?k26 ?a27 ?l27 ?c27 ?k27 ?a28 ?l28 ?c28 ?k28 ?zb_abs ?zb_all ?zb_bool ?zb_enumerate ?zb_int ?zb_isinstance ?zb_len ?zb_list ?zb_max ?zb_min ?zb_range ?zb_repr ?zb_tuple ?zk_MAX_COINS ?zk_MAX_FLAWS ?zk_MAX_SIZE ?zk_MAX_YEARS ?zk_WHOLE ?xaC ?xL ?xsa ?xnb ?xa1 ?xt1 ?xl1 ?xc1 ?xcode ?xvs ?xfile ?xcell ?xkC ?xeC ?xvC ?xtC ?xiC ?xsC ?xmC ?xopq ?xsup ?xhm ?xtop
    (case a0 => k_is)
    (case l0 => k_is)
    (case c0 => k_is)
    (case k0 => k_is)
    (case a1 => k_is)
    (case l1 => k_is)
    (case c1 => k_is)
    (case k1 => k_is)
    (case a2 => k_is)
    (case l2 => k_is)
    (case c2 => k_is)
    (case k2 => k_is)
    (case a3 => k_is)
    (case l3 => k_is)
    (case c3 => k_is)
    (case k3 => k_is)
    (case a4 => k_is)
    (case l4 => k_is)
    (case c4 => k_is)
    (case k4 => k_is)
    (case a5 => k_is)
    (case l5 => k_is)
    (case c5 => k_is)
    (case k5 => k_is)
    (case a6 => k_is)
    (case l6 => k_is)
    (case c6 => k_is)
    (case k6 => k_is)
    (case a7 => k_is)
    (case l7 => k_is)
    (case c7 => k_is)
    (case k7 => k_is)
    (case a8 => k_is)
    (case l8 => k_is)
    (case c8 => k_is)
    (case k8 => k_is)
    (case a9 => k_is)
    (case l9 => k_is)
    (case c9 => k_is)
    (case k9 => k_is)
    (case a10 => k_is)
    (case l10 => k_is)
    (case c10 => k_is)
    (case k10 => k_is)
    (case a11 => k_is)
    (case l11 => k_is)
    (case c11 => k_is)
    (case k11 => k_is)
    (case a12 => k_is)
    (case l12 => k_is)
    (case c12 => k_is)
    (case k12 => k_is)
    (case a13 => k_is)
    (case l13 => k_is)
    (case c13 => k_is)
    (case k13 => k_is)
    (case a14 => k_is)
    (case l14 => k_is)
    (case c14 => k_is)
    (case k14 => k_is)
    (case a15 => k_is)
    (case l15 => k_is)
    (case c15 => k_is)
    (case k15 => k_is)
    (case a16 => k_is)
    (case l16 => k_is)
    (case c16 => k_is)
    (case k16 => k_is)
    (case a17 => k_is)
    (case l17 => k_is)
    (case c17 => k_is)
    (case k17 => k_is)
    (case a18 => k_is)
    (case l18 => k_is)
    (case c18 => k_is)
    (case k18 => k_is)
    (case a19 => k_is)
    (case l19 => k_is)
    (case c19 => k_is)
    (case k19 => k_is)
    (case a20 => k_is)
    (case l20 => k_is)
    (case c20 => k_is)
    (case k20 => k_is)
    (case a21 => k_is)
    (case l21 => k_is)
    (case c21 => k_is)
    (case k21 => k_is)
    (case a22 => k_is)
    (case l22 => k_is)
    (case c22 => k_is)
    (case k22 => k_is)
    (case a23 => k_is)
    (case l23 => k_is)
    (case c23 => k_is)
    (case k23 => k_is)
    (case a24 => k_is)
    (case l24 => k_is)
    (case c24 => k_is)
    (case k24 => k_is)
    (case a25 => k_is)
    (case l25 => k_is)
    (case c25 => k_is)
    (case k25 => k_is)
    (case a26 => k_is)
    (case l26 => k_is)
    (case c26 => k_is)
    (case k26 => k_is)
    (case a27 => k_is)
    (case l27 => k_is)
    (case c27 => k_is)
    (case k27 => k_is)
    (case a28 => k_is)
    (case l28 => k_is)
    (case c28 => k_is)
    (case k28 => k_is)
    (case zb_abs => k_is)
    (case zb_all => k_is)
    (case zb_bool => k_is)
    (case zb_enumerate => k_is)
    (case zb_int => k_is)
    (case zb_isinstance => k_is)
    (case zb_len => k_is)
    (case zb_list => k_is)
    (case zb_max => k_is)
    (case zb_min => k_is)
    (case zb_range => k_is)
    (case zb_repr => k_is)
    (case zb_tuple => k_is)
    (case zk_MAX_COINS => k_is)
    (case zk_MAX_FLAWS => k_is)
    (case zk_MAX_SIZE => k_is)
    (case zk_MAX_YEARS => k_is)
    (case zk_WHOLE => k_is)
    (case xaC => first | k_is | rfl | decide +kernel)
    (case xL => first | k_is | rfl | decide +kernel)
    (case xsa => first | k_is | rfl | decide +kernel)
    (case xnb => first | k_is | rfl | decide +kernel)
    (case xa1 => first | k_is | rfl | decide +kernel)
    (case xt1 => first | k_is | rfl | decide +kernel)
    (case xl1 => first | k_is | rfl | decide +kernel)
    (case xc1 => first | k_is | rfl | decide +kernel)
    (case xcode => first | k_is | rfl | decide +kernel)
    (case xvs => first | k_is | rfl | decide +kernel)
    (case xfile => first | k_is | rfl | decide +kernel)
    (case xcell => first | k_is | rfl | decide +kernel)
    (case xkC => first | k_is | rfl | decide +kernel)
    (case xeC => first | k_is | rfl | decide +kernel)
    (case xvC => first | k_is | rfl | decide +kernel)
    (case xtC => first | k_is | rfl | decide +kernel)
    (case xiC => first | k_is | rfl | decide +kernel)
    (case xsC => first | k_is | rfl | decide +kernel)
    (case xmC => first | k_is | rfl | decide +kernel)
    (case xopq => first | k_is | rfl | decide +kernel)
    (case xsup => first | k_is | rfl | decide +kernel)
    (case xhm => first | k_is | rfl | decide +kernel)
    (case xtop => first | k_is | rfl | decide +kernel)
