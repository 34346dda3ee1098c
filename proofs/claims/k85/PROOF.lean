import PyProof.Rows.All
import HandS.ForMost
import HandS.IsInst
import HandS.Conv
import HandS.Style
import HandS.Flow
import HandS.SortInts
import HandS.Rev
import HandS.TupAny
import HandS.TupMul
import HandS.Deep
import HandS.Zip
import KE.SortData
import KE.KDictKeyed
import KE.KeyNested
import KE.DataMinMax
import KE.KTupSum
import KE.KRevSl
import HandS.Head0
import HandS.Head1
import HandS.Head2
import HandS.HeadEnd
import HandS.HeadHook1
import HandS.HeadHook2
import HandS.TupLen
import HandS.SetKeys
import Wide.All
import OpenK.AllK
import Wide.FinOn
import KE.KStateDown
import Lean
import PySem.Challenge.RW_turnwarrant_k85_whole_curves_modulo_prim
set_option Elab.async false
set_option linter.all false
set_option autoImplicit false
set_option maxRecDepth 100000
/-! DL: a layer of plain data over HandS. A def's body is read as a function of slots: each slot holds nothing, shared data (PyData, never changed again) or an owned object. -/
namespace DL
open PySem PySem.Spec PyProof.Rows L2

abbrev Dv := PyData
inductive Ob where
  | lst (xs : List Dv)
  | dct (kvs : List (Dv × Dv))
  | dtn (kvs : List (Dv × Dv))
inductive Sl where
  | no | sh (d : Dv) | ow (o : Ob)
inductive Rv where
  | sh (d : Dv) | ow (o : Ob) | al (i : Nat)
abbrev Rho := List Sl
abbrev M := Rho → Option (Rv × Rho)
abbrev MB := Rho → Option (Bool × Rho)
inductive Fl where
  | nx (ρ : Rho) | rt (r : Rv) (ρ : Rho) | bk (ρ : Rho) | ct (ρ : Rho)
abbrev MS := Rho → Option Fl

/-! ### heaps -/
def Sub (G G' : Hp) : Prop := ∀ a u, Rd G a u → Rd G' a u
theorem Sub.refl (G : Hp) : Sub G G := fun _ _ h => h
theorem Sub.trans {G G1 G2 : Hp} (a : Sub G G1) (b : Sub G1 G2) : Sub G G2 := fun c u h => b c u (a c u h)
theorem sub_upd {G : Hp} {p : Addr} {o : HO} (h : G p = none) : Sub G (upd G p o) := fun a u r => by
  have n : a ≠ p := fun e => by
    subst e
    rcases r with r | ⟨_, r⟩ <;> (rw [h] at r; cases r)
  unfold Rd
  rw [upd_ne n]
  exact r
theorem sub_le {G H : Hp} (h : ∀ a o, G a = some o → H a = some o) : Sub G H := fun a u r => by
  rcases r with r | ⟨o, r⟩
  · exact .inl (h a u r)
  · exact .inr ⟨o, h a _ r⟩
section
variable {K : PySem.W.Frag} {G G' : Hp}
theorem Sub.sqL {a : Addr} {xs : List V} (s : Sub G G') (h : SqL K G a xs) : SqL K G' a xs := h.elim (fun r => .inl (s _ _ r)) .inr
theorem Sub.sqT {a : Addr} {xs : List V} (s : Sub G G') (h : SqT K G a xs) : SqT K G' a xs := h.elim (fun r => .inl (s _ _ r)) .inr
mutual
theorem dp_mono (s : Sub G G') : ∀ (d : PyData) (v : V), Dp K G v d → Dp K G' v d
  | .none, _, h => by cases h; exact .non
  | .bool b, _, h => by cases h; exact .bl b
  | .int i, _, h => by cases h; exact .int i
  | .str x, _, h => by cases h; exact .str x
  | .list ds, _, h => by
    cases h with
    | lst hs ha => exact .lst (s.sqL hs) (dpAll_mono s ds _ ha)
  | .tuple ds, _, h => by
    cases h with
    | tup hs ha => exact .tup (s.sqT hs) (dpAll_mono s ds _ ha)
  | .dict _, _, h => by cases h
theorem dpAll_mono (s : Sub G G') : ∀ (ds : List PyData) (vs : List V), DpAll K G vs ds → DpAll K G' vs ds
  | [], _, h => by cases h; exact .nil
  | d :: ds, _, h => by
    cases h with
    | cons h1 h2 => exact .cons (dp_mono s d _ h1) (dpAll_mono s ds _ h2)
end
theorem dpAll_length : ∀ {ds : List PyData} {vs : List V}, DpAll K G vs ds → vs.length = ds.length
  | [], _, h => by cases h; rfl
  | d :: ds, _, h => by
    cases h with
    | cons h1 h2 => simp [dpAll_length h2]
theorem dpAll_get : ∀ {ds : List PyData} {vs : List V} {i : Nat} {d : PyData}, DpAll K G vs ds → ds[i]? = some d → ∃ v, vs[i]? = some v ∧ Dp K G v d
  | [], _, i, d, h, e => by simp at e
  | d0 :: ds, _, 0, d, h, e => by
    cases h with
    | cons h1 h2 =>
      simp at e
      subst e
      exact ⟨_, rfl, h1⟩
  | d0 :: ds, _, i + 1, d, h, e => by
    cases h with
    | cons h1 h2 =>
      simp at e
      obtain ⟨v, h3, h4⟩ := dpAll_get h2 e
      exact ⟨v, by simpa using h3, h4⟩
theorem dpAll_append : ∀ {ds es : List PyData} {vs ws : List V}, DpAll K G vs ds → DpAll K G ws es → DpAll K G (vs ++ ws) (ds ++ es)
  | [], _, _, _, h, k => by cases h; exact k
  | d :: ds, _, _, _, h, k => by
    cases h with
    | cons h1 h2 => exact .cons h1 (dpAll_append h2 k)
theorem dpAll_take : ∀ {ds : List PyData} {vs : List V} (n : Nat), DpAll K G vs ds → DpAll K G (vs.take n) (ds.take n)
  | _, _, 0, h => by simp; exact .nil
  | [], _, n + 1, h => by cases h; exact .nil
  | d :: ds, _, n + 1, h => by
    cases h with
    | cons h1 h2 => exact .cons h1 (dpAll_take n h2)
theorem dpAll_drop : ∀ {ds : List PyData} {vs : List V} (n : Nat), DpAll K G vs ds → DpAll K G (vs.drop n) (ds.drop n)
  | _, _, 0, h => by simpa using h
  | [], _, n + 1, h => by cases h; exact .nil
  | d :: ds, _, n + 1, h => by
    cases h with
    | cons h1 h2 => exact dpAll_drop n h2
theorem dpAll_set {d : PyData} {v : V} (q : Dp K G v d) : ∀ {ds : List PyData} {vs : List V} (n : Nat), DpAll K G vs ds → DpAll K G (vs.set n v) (ds.set n d)
  | [], _, n, h => by cases h; simp; exact .nil
  | d0 :: ds, _, 0, h => by
    cases h with
    | cons h1 h2 => exact .cons q h2
  | d0 :: ds, _, n + 1, h => by
    cases h with
    | cons h1 h2 => exact .cons h1 (dpAll_set q n h2)
theorem dpAll_reverse : ∀ {ds : List PyData} {vs : List V}, DpAll K G vs ds → DpAll K G vs.reverse ds.reverse
  | [], _, h => by cases h; exact .nil
  | d :: ds, _, h => by
    cases h with
    | cons h1 h2 =>
      simp only [List.reverse_cons]
      exact dpAll_append (dpAll_reverse h2) (.cons h1 .nil)
theorem dpAll_ints : ∀ ns : List Int, DpAll K G (ns.map V.int) (ns.map PyData.int)
  | [] => .nil
  | n :: ns => .cons (.int n) (dpAll_ints ns)
theorem ints_of_dpAll : ∀ {ns : List Int} {vs : List V}, DpAll K G vs (ns.map PyData.int) → vs = ns.map V.int
  | [], _, h => by cases h; rfl
  | n :: ns, _, h => by
    cases h with
    | cons h1 h2 =>
      cases h1
      rw [ints_of_dpAll h2]
      rfl
end

/-! ### what owned objects hold -/
def keyD : Key → Dv
  | .inl i => .int i
  | .inr x => .str x
inductive DKV (K : PySem.W.Frag) (G : Hp) : List (Key × V) → List (Dv × Dv) → Prop
  | nil : DKV K G [] []
  | cons {k : Key} {v : V} {d : Dv} {r : List (Key × V)} {s : List (Dv × Dv)} : Dp K G v d → DKV K G r s → DKV K G ((k, v) :: r) ((keyD k, d) :: s)
theorem DKV.mono {K : PySem.W.Frag} {G G' : Hp} (s : Sub G G') : ∀ {kvs : List (Key × V)} {ds : List (Dv × Dv)}, DKV K G kvs ds → DKV K G' kvs ds
  | _, _, .nil => .nil
  | _, _, .cons h t => .cons (dp_mono s _ _ h) (DKV.mono s t)
/-! dicts whose keys are tuples of ints (nested) -/
mutual
def keyN : Dv → Option NestedKey
  | .none => some .none
  | .int i => some (.num i)
  | .tuple ds => (keyNs ds).map .tup
  | _ => none
def keyNs : List Dv → Option (List NestedKey)
  | [] => some []
  | d :: ds => (keyN d).bind fun k => (keyNs ds).map (k :: ·)
end
inductive PR : List (NestedKey × Addr × V) → List (NestedKey × Addr × Value) → Prop
  | nil : PR [] []
  | cons {k : NestedKey} {b : Addr} {v : V} {u : Value} {r : List (NestedKey × Addr × V)} {s : List (NestedKey × Addr × Value)} : RelV v u → PR r s → PR ((k, b, v) :: r) ((k, b, u) :: s)
def tkO (a : Addr) (ps : List (NestedKey × Addr × V)) : HO := .ext fun h => (a == sysModules) = false ∧ ∃ (xs : List (NestedKey × Addr × Value)) (o : Obj) (es : Array DictEntry) (ep : Nat), PR ps xs ∧ h.get? a = some o ∧ o.ExactDict ∧ o.data = .dict es ep ∧
  (∀ w : World, es.toList = xs.map fun x => ⟨x.1.hash w, .ref x.2.1, x.2.2⟩) ∧ (xs.map (·.1)).Nodup
inductive TKV (K : PySem.W.Frag) (G : Hp) : List (NestedKey × Addr × V) → List (Dv × Dv) → Prop
  | nil : TKV K G [] []
  | cons {k : NestedKey} {b : Addr} {v : V} {kd d : Dv} {r : List (NestedKey × Addr × V)} {s : List (Dv × Dv)} : keyN kd = some k → k.depth ≤ 8 → Dp K G (.ref b) kd → Dp K G v d → TKV K G r s → TKV K G ((k, b, v) :: r) ((kd, d) :: s)
theorem TKV.mono {K : PySem.W.Frag} {G G' : Hp} (s : Sub G G') : ∀ {ps : List (NestedKey × Addr × V)} {ds : List (Dv × Dv)}, TKV K G ps ds → TKV K G' ps ds
  | _, _, .nil => .nil
  | _, _, .cons h1 h2 h3 h4 t => .cons h1 h2 (dp_mono s _ _ h3) (dp_mono s _ _ h4) (TKV.mono s t)
def Ct (K : PySem.W.Frag) (G H : Hp) (a : Addr) : Ob → Prop
  | .lst ds => ∃ vs, H a = some (.lst vs) ∧ DpAll K G vs ds
  | .dct kvs => ∃ ks, H a = some (.dK ks) ∧ DKV K G ks kvs
  | .dtn kvs => ∃ ps, H a = some (tkO a ps) ∧ TKV K G ps kvs
theorem Ct.mono {K : PySem.W.Frag} {G G' H H' : Hp} {a : Addr} {o : Ob} (c : Ct K G H a o) (s : Sub G G') (h : H' a = H a) : Ct K G' H' a o := by
  cases o with
  | lst ds => obtain ⟨vs, e, q⟩ := c; exact ⟨vs, h.trans e, dpAll_mono s _ _ q⟩
  | dct kvs => obtain ⟨vs, e, q⟩ := c; exact ⟨vs, h.trans e, q.mono s⟩
  | dtn kvs => obtain ⟨vs, e, q⟩ := c; exact ⟨vs, h.trans e, q.mono s⟩
theorem Ct.some {K : PySem.W.Frag} {G H : Hp} {a : Addr} {o : Ob} (c : Ct K G H a o) : ∃ u, H a = some u := by
  cases o with
  | lst ds => obtain ⟨vs, e, q⟩ := c; exact ⟨_, e⟩
  | dct kvs => obtain ⟨vs, e, q⟩ := c; exact ⟨_, e⟩
  | dtn kvs => obtain ⟨vs, e, q⟩ := c; exact ⟨_, e⟩

/-- a slot -/
def SlOk (K : PySem.W.Frag) (Fr G H : Hp) : Sl → Option (Option V) → Prop
  | .no, _ => True
  | .sh d, ov => ∃ v, ov = some (some v) ∧ Dp K G v d
  | .ow o, ov => ∃ a, ov = some (some (.ref a)) ∧ G a = none ∧ Fr a = none ∧ Ct K G H a o
structure RS (K : PySem.W.Frag) (ix : List Nat) (Fr : Hp) (FX : Nat → Option V) (G : Hp) (ρ : Rho) (σ : L2.St) (H : Hp) : Prop where
  gh : ∀ a o, G a = some o → H a = some o
  fh : ∀ a o, Fr a = some o → H a = some o
  gf : ∀ a, Fr a ≠ none → G a = none
  len : ρ.length = σ.length
  sl : ∀ (i : Nat) (s : Sl), ρ[i]? = some s → SlOk K Fr G H s σ[i]?
  sep : ∀ (i j : Nat) (a : Addr) (o o' : Ob), i ≠ j → ρ[i]? = some (.ow o) → ρ[j]? = some (.ow o') → σ[i]? = some (some (.ref a)) → σ[j]? ≠ some (some (.ref a))
  fx : ∀ (i : Nat) (v : V), FX i = some v → i ∈ ix ∧ σ[i]? = some (some v)
def VOk (K : PySem.W.Frag) (Fr G H : Hp) (ρ : Rho) (σ : L2.St) : Rv → V → Prop
  | .sh d, v => Dp K G v d
  | .ow o, v => ∃ a, v = .ref a ∧ G a = none ∧ Fr a = none ∧ Ct K G H a o ∧ ∀ (i : Nat) (o' : Ob), ρ[i]? = some (.ow o') → σ[i]? ≠ some (some (.ref a))
  | .al i, v => σ[i]? = some (some v)

section
variable {K : PySem.W.Frag} {ix : List Nat} {Fr G G' H H' : Hp} {FX : Nat → Option V} {ρ ρ' : Rho} {σ : L2.St}
theorem RS.none_of (R : RS K ix Fr FX G ρ σ H) {p : Addr} (h : H p = none) : G p = none ∧ Fr p = none := by
  constructor
  · cases e : G p with
    | none => rfl
    | some o => have := R.gh p o e; rw [h] at this; cases this
  · cases e : Fr p with
    | none => rfl
    | some o => have := R.fh p o e; rw [h] at this; cases this
theorem RS.sub (R : RS K ix Fr FX G ρ σ H) : Sub G H := sub_le R.gh
theorem SlOk.mono {s : Sl} {ov : Option (Option V)} (h : SlOk K Fr G H s ov) (su : Sub G G') (hn : ∀ (a : Addr) (o : Ob), ov = some (some (.ref a)) → s = .ow o → G a = none → Fr a = none → G' a = none ∧ H' a = H a) : SlOk K Fr G' H' s ov := by
  cases s with
  | no => trivial
  | sh d => obtain ⟨v, e, q⟩ := h; exact ⟨v, e, dp_mono su _ _ q⟩
  | ow o =>
    obtain ⟨a, e, g, f, c⟩ := h
    obtain ⟨n1, n2⟩ := hn a o e rfl g f
    exact ⟨a, e, n1, f, c.mono su n2⟩
/-- a new shared object -/
theorem RS.newG (R : RS K ix Fr FX G ρ σ H) {p : Addr} {o : HO} (h : H p = none) : RS K ix Fr FX (upd G p o) ρ σ (upd H p o) := by
  obtain ⟨hg, hf⟩ := R.none_of h
  refine ⟨fun a u e => ?_, fun a u e => ?_, fun a n => ?_, R.len, fun i s e => ?_, R.sep, R.fx⟩
  · by_cases ha : a = p
    · subst ha; rw [upd_same] at e ⊢; exact e
    · rw [upd_ne ha] at e ⊢; exact R.gh a u e
  · by_cases ha : a = p
    · subst ha; rw [hf] at e; cases e
    · rw [upd_ne ha]; exact R.fh a u e
  · by_cases ha : a = p
    · subst ha; exact absurd hf n
    · rw [upd_ne ha]; exact R.gf a n
  · refine (R.sl i s e).mono (sub_upd hg) fun a o' e1 e2 g f => ?_
    have ha : a ≠ p := fun z => by
      subst z; subst e2
      obtain ⟨b, eb, _, _, c⟩ := R.sl i _ e
      rw [e1] at eb
      cases eb
      obtain ⟨u, hu⟩ := c.some
      rw [h] at hu; cases hu
    rw [upd_ne ha, upd_ne ha]
    exact ⟨g, rfl⟩
/-- a new object that is not shared -/
theorem RS.newH (R : RS K ix Fr FX G ρ σ H) {p : Addr} {o : HO} (h : H p = none) : RS K ix Fr FX G ρ σ (upd H p o) := by
  obtain ⟨hg, hf⟩ := R.none_of h
  refine ⟨fun a u e => ?_, fun a u e => ?_, R.gf, R.len, fun i s e => ?_, R.sep, R.fx⟩
  · have ha : a ≠ p := fun z => by subst z; rw [hg] at e; cases e
    rw [upd_ne ha]; exact R.gh a u e
  · have ha : a ≠ p := fun z => by subst z; rw [hf] at e; cases e
    rw [upd_ne ha]; exact R.fh a u e
  · refine (R.sl i s e).mono (Sub.refl _) fun a o' e1 e2 g f => ?_
    have ha : a ≠ p := fun z => by
      subst z; subst e2
      obtain ⟨b, eb, _, _, c⟩ := R.sl i _ e
      rw [e1] at eb
      cases eb
      obtain ⟨u, hu⟩ := c.some
      rw [h] at hu; cases hu
    rw [upd_ne ha]
    exact ⟨g, rfl⟩
theorem RS.notIn (R : RS K ix Fr FX G ρ σ H) {p : Addr} (h : H p = none) : ∀ (i : Nat) (o : Ob), ρ[i]? = some (.ow o) → σ[i]? ≠ some (some (.ref p)) := fun i o e e1 => by
  obtain ⟨b, eb, _, _, c⟩ := R.sl i _ e
  rw [e1] at eb
  cases eb
  obtain ⟨u, hu⟩ := c.some
  rw [h] at hu; cases hu
/-- an object outside is shared from now on -/
theorem RS.share (R : RS K ix Fr FX G ρ σ H) {p : Addr} {o : HO} (h : H p = some o) (hg : G p = none) (hf : Fr p = none) (hn : ∀ (i : Nat) (o' : Ob), ρ[i]? = some (.ow o') → σ[i]? ≠ some (some (.ref p))) : RS K ix Fr FX (upd G p o) ρ σ H := by
  refine ⟨fun a u e => ?_, R.fh, fun a n => ?_, R.len, fun i s e => ?_, R.sep, R.fx⟩
  · by_cases ha : a = p
    · subst ha; rw [upd_same] at e; rw [h]; exact e
    · rw [upd_ne ha] at e; exact R.gh a u e
  · by_cases ha : a = p
    · subst ha; exact absurd hf n
    · rw [upd_ne ha]; exact R.gf a n
  · refine (R.sl i s e).mono (sub_upd hg) fun a o' e1 e2 g f => ?_
    have ha : a ≠ p := fun z => by
      subst z; subst e2
      exact hn i _ e e1
    rw [upd_ne ha]
    exact ⟨g, rfl⟩
/-- a slot is stored -/
theorem RS.set (R : RS K ix Fr FX G ρ σ H) {i : Nat} {s : Sl} {v : V} (hi : i ∉ ix) (hs : SlOk K Fr G H s (some (some v))) (hn : ∀ (o : Ob) (a : Addr), s = .ow o → v = .ref a → ∀ (j : Nat) (o' : Ob), ρ[j]? = some (.ow o') → σ[j]? ≠ some (some (.ref a))) :
    RS K ix Fr FX G (ρ.set i s) (σ.set i (some v)) H := by
  refine ⟨R.gh, R.fh, R.gf, by simp [R.len], fun j t e => ?_, fun j k a o o' ne e1 e2 e3 e4 => ?_, fun j w e => ?_⟩
  · by_cases hj : i = j
    · subst hj
      have hl : i < ρ.length := by
        have := (List.getElem?_eq_some_iff.mp e).1
        simpa using this
      rw [List.getElem?_set_self hl] at e
      cases e
      rw [List.getElem?_set_self (by rw [← R.len]; exact hl)]
      exact hs
    · rw [List.getElem?_set_ne hj] at e ⊢
      exact R.sl j t e
  · by_cases hj : i = j
    · subst hj
      have hl : i < ρ.length := by
        have := (List.getElem?_eq_some_iff.mp e1).1
        simpa using this
      have hk : i ≠ k := ne
      rw [List.getElem?_set_self hl] at e1
      rw [List.getElem?_set_ne hk] at e2
      rw [List.getElem?_set_self (by rw [← R.len]; exact hl)] at e3
      rw [List.getElem?_set_ne hk] at e4
      cases e1
      cases e3
      exact hn o a rfl rfl k o' e2 e4
    · rw [List.getElem?_set_ne hj] at e1 e3
      by_cases hk : i = k
      · subst hk
        have hl : i < ρ.length := by
          have := (List.getElem?_eq_some_iff.mp e2).1
          simpa using this
        rw [List.getElem?_set_self hl] at e2
        rw [List.getElem?_set_self (by rw [← R.len]; exact hl)] at e4
        cases e2
        cases e4
        exact hn o' a rfl rfl j o e1 e3
      · rw [List.getElem?_set_ne hk] at e2 e4
        exact R.sep j k a o o' ne e1 e2 e3 e4
  · obtain ⟨h1, h2⟩ := R.fx j w e
    have hj : i ≠ j := fun z => by subst z; exact hi h1
    exact ⟨h1, by rw [List.getElem?_set_ne hj]; exact h2⟩
/-- a slot's view is weakened: the same value, no longer owned -/
theorem RS.weak (R : RS K ix Fr FX G ρ σ H) {i : Nat} {s : Sl} (hs : SlOk K Fr G H s σ[i]?) (hn : ∀ o : Ob, s ≠ .ow o) : RS K ix Fr FX G (ρ.set i s) σ H := by
  refine ⟨R.gh, R.fh, R.gf, by simp [R.len], fun j t e => ?_, fun j k a o o' ne e1 e2 e3 e4 => ?_, R.fx⟩
  · by_cases hj : i = j
    · subst hj
      have hl : i < ρ.length := by
        have := (List.getElem?_eq_some_iff.mp e).1
        simpa using this
      rw [List.getElem?_set_self hl] at e
      cases e
      exact hs
    · rw [List.getElem?_set_ne hj] at e
      exact R.sl j t e
  · have un : ∀ {j : Nat} {o : Ob}, (ρ.set i s)[j]? = some (.ow o) → ρ[j]? = some (.ow o) := fun {j o} e => by
      by_cases hj : i = j
      · subst hj
        have hl : i < ρ.length := by
          have := (List.getElem?_eq_some_iff.mp e).1
          simpa using this
        rw [List.getElem?_set_self hl] at e
        exact absurd (Option.some.inj e) (hn o)
      · rw [List.getElem?_set_ne hj] at e
        exact e
    exact R.sep j k a o o' ne (un e1) (un e2) e3 e4
/-- the owned object of a slot changes -/
theorem RS.mut (R : RS K ix Fr FX G ρ σ H) {i : Nat} {o o' : Ob} {a : Addr} {u : HO} (h : ρ[i]? = some (.ow o)) (ha : σ[i]? = some (some (.ref a))) (hc : Ct K G (upd H a u) a o') :
    RS K ix Fr FX G (ρ.set i (.ow o')) σ (upd H a u) := by
  obtain ⟨b, eb, g, f, c⟩ := R.sl i _ h
  rw [ha] at eb
  cases eb
  have hl : i < ρ.length := (List.getElem?_eq_some_iff.mp h).1
  refine ⟨fun b x e => ?_, fun b x e => ?_, R.gf, by simp [R.len], fun j t e => ?_, fun j k b x x' ne e1 e2 e3 e4 => ?_, R.fx⟩
  · have hb : b ≠ a := fun z => by subst z; rw [g] at e; cases e
    rw [upd_ne hb]; exact R.gh b x e
  · have hb : b ≠ a := fun z => by subst z; rw [f] at e; cases e
    rw [upd_ne hb]; exact R.fh b x e
  · by_cases hj : i = j
    · subst hj
      rw [List.getElem?_set_self hl] at e
      cases e
      exact ⟨a, ha, g, f, hc⟩
    · rw [List.getElem?_set_ne hj] at e
      refine (R.sl j t e).mono (Sub.refl _) fun b x e1 e2 g' f' => ⟨g', ?_⟩
      subst e2
      exact upd_ne fun z => by
        subst z
        exact R.sep i j b o x hj h e ha e1
  · have un : ∀ {j : Nat} {x : Ob}, (ρ.set i (.ow o'))[j]? = some (.ow x) → ∃ y, ρ[j]? = some (.ow y) := fun {j x} e => by
      by_cases hj : i = j
      · subst hj; exact ⟨o, h⟩
      · rw [List.getElem?_set_ne hj] at e; exact ⟨x, e⟩
    obtain ⟨y, e1'⟩ := un e1
    obtain ⟨y', e2'⟩ := un e2
    exact R.sep j k b y y' ne e1' e2' e3 e4
end
end DL

set_option Elab.async false
set_option linter.all false
set_option autoImplicit false
set_option maxRecDepth 100000
namespace DL
open PySem PySem.Spec PyProof.Rows L2

inductive Rz where
  | sh (d : Dv) | ow (o : Ob)
def Rz.rv : Rz → Rv
  | .sh d => .sh d
  | .ow o => .ow o
abbrev MA := Rho → Option (List Rv × Rho)
abbrev ML := Rho → Option (List Dv × Rho)
def obD : Ob → Dv
  | .lst ds => .list ds
  | .dct kvs => .dict kvs
  | .dtn kvs => .dict ((.none, .none) :: kvs)
/-- the data that a value stands for -/
def dat (ρ : Rho) : Rv → Option Dv
  | .sh d => some d
  | .ow o => some (obD o)
  | .al i => match ρ[i]? with
    | some (.ow o) => some (obD o)
    | _ => none

def VOks (K : PySem.W.Frag) (Fr G H : Hp) (ρ : Rho) (σ : L2.St) : List Rv → List V → Prop
  | [], [] => True
  | r :: rs, v :: vs => VOk K Fr G H ρ σ r v ∧ (∀ (o : Ob) (a : Addr), r = .ow o → v = .ref a → ∀ (j : Nat) (o' : Ob), rs[j]? = some (.ow o') → vs[j]? ≠ some (.ref a)) ∧ VOks K Fr G H ρ σ rs vs
  | _, _ => False

/-! ### canonical readings -/
def TE' (K : PySem.W.Frag) (ix : List Nat) (f : M) : TE := fun σ H Q => ∃ Fr FX G ρ r ρ', RS K ix Fr FX G ρ σ H ∧ f ρ = some (r, ρ') ∧
  ∀ v G' H', Sub G G' → RS K ix Fr FX G' ρ' σ H' → VOk K Fr G' H' ρ' σ r v → Q v H'
def TT' (K : PySem.W.Frag) (ix : List Nat) (f : MB) : TT := fun σ H Q => ∃ Fr FX G ρ b ρ', RS K ix Fr FX G ρ σ H ∧ f ρ = some (b, ρ') ∧
  ∀ G' H', Sub G G' → RS K ix Fr FX G' ρ' σ H' → Q b H'
def TA' (K : PySem.W.Frag) (ix : List Nat) (f : MA) : TA := fun σ H Q => ∃ Fr FX G ρ rs ρ', RS K ix Fr FX G ρ σ H ∧ f ρ = some (rs, ρ') ∧
  ∀ vs G' H', Sub G G' → RS K ix Fr FX G' ρ' σ H' → VOks K Fr G' H' ρ' σ rs vs → Q vs H'
def FlP (K : PySem.W.Frag) (ix : List Nat) (Fr : Hp) (FX : Nat → Option V) (G : Hp) (fl : Fl) (D : Ends) : Prop := match fl with
  | .nx ρ' => ∀ G' σ' H', Sub G G' → RS K ix Fr FX G' ρ' σ' H' → D.nx σ' H'
  | .bk ρ' => ∀ G' σ' H', Sub G G' → RS K ix Fr FX G' ρ' σ' H' → D.bk σ' H'
  | .ct ρ' => ∀ G' σ' H', Sub G G' → RS K ix Fr FX G' ρ' σ' H' → D.ct σ' H'
  | .rt r ρ' => ∀ G' σ' H' v, Sub G G' → RS K ix Fr FX G' ρ' σ' H' → VOk K Fr G' H' ρ' σ' r v → D.rt v H'
theorem FlP.mono {K : PySem.W.Frag} {ix : List Nat} {Fr : Hp} {FX : Nat → Option V} {G G1 : Hp} {fl : Fl} {D : Ends} (h : FlP K ix Fr FX G fl D) (s : Sub G G1) : FlP K ix Fr FX G1 fl D := by
  cases fl with
  | nx ρ => exact fun G' σ' H' s' => h G' σ' H' (s.trans s')
  | bk ρ => exact fun G' σ' H' s' => h G' σ' H' (s.trans s')
  | ct ρ => exact fun G' σ' H' s' => h G' σ' H' (s.trans s')
  | rt r ρ => exact fun G' σ' H' v s' => h G' σ' H' v (s.trans s')
def TS' (K : PySem.W.Frag) (ix : List Nat) (g : MS) : TS := fun D σ H => ∃ Fr FX G ρ fl, RS K ix Fr FX G ρ σ H ∧ g ρ = some fl ∧ FlP K ix Fr FX G fl D
/-- a target takes a shared value; its slots are among tis -/
def TG' (K : PySem.W.Frag) (ix tis : List Nat) (t : Dv → Rho → Option Rho) : TG := fun v σ H Q => ∃ Fr FX G ρ d ρ', RS K ix Fr FX G ρ σ H ∧ Dp K G v d ∧ t d ρ = some ρ' ∧
  ∀ G' σ' H', Sub G G' → (σ'.length = σ.length ∧ ∀ j, j ∉ tis → σ'[j]? = σ[j]?) → RS K ix Fr FX G' ρ' σ' H' → Q σ' H'
/-- an iterator gives just these items -/
def Jok (K : PySem.W.Frag) (G : Hp) (J : It) (ds : List Dv) : Prop := ∀ (i : Nat) (G1 H1 : Hp), Sub G G1 → (∀ a o, G1 a = some o → H1 a = some o) →
  (∀ d, ds[i]? = some d → J.go i H1 ∧ ∀ x H2, J.yld i H1 x H2 → (H2 = H1 ∧ Dp K G1 x d) ∨ ∃ p o, H1 p = none ∧ H2 = upd H1 p o ∧ Dp K (upd G1 p o) x d) ∧ (ds.length ≤ i → J.stop i H1)
def TI' (K : PySem.W.Frag) (ix : List Nat) (f : ML) : TI := fun σ H R => ∃ Fr FX G ρ ds ρ', RS K ix Fr FX G ρ σ H ∧ f ρ = some (ds, ρ') ∧
  ∀ J G' H', Sub G G' → RS K ix Fr FX G' ρ' σ H' → Jok K G' J ds → R J H'

/-! ### weakening -/
section
variable {X : Cx}
theorem pe_imp {e : Expr} {t t' : TE} (h : PE X e t) (k : ∀ σ H Q, t' σ H Q → t σ H Q) : PE X e t' := ⟨fun pins s σ H Q I q => h.run pins s σ H Q I (k _ _ _ q)⟩
theorem pt_imp {e : Expr} {t t' : TT} (h : PT X e t) (k : ∀ σ H Q, t' σ H Q → t σ H Q) : PT X e t' := ⟨fun pins s σ H Q I q => h.run pins s σ H Q I (k _ _ _ q)⟩
theorem pw_imp {e : Expr} {t t' : TT} (h : PW X e t) (k : ∀ σ H Q, t' σ H Q → t σ H Q) : PW X e t' := ⟨fun wh pins s σ H Q I q => h.run wh pins s σ H Q I (k _ _ _ q)⟩
theorem pts_imp {e : List Expr} {t t' : TT} (h : PTs X e t) (k : ∀ σ H Q, t' σ H Q → t σ H Q) : PTs X e t' := ⟨fun pins s σ H Q I q => h.run pins s σ H Q I (k _ _ _ q)⟩
theorem pa_imp {e : List Expr} {t t' : TA} (h : PA X e t) (k : ∀ σ H Q, t' σ H Q → t σ H Q) : PA X e t' := ⟨fun pos pins s σ H Q I q => h.run pos pins s σ H Q I (k _ _ _ q)⟩
theorem ps_imp {e : Stmt} {t t' : TS} (h : PS X e t) (k : ∀ D σ H, t' D σ H → t D σ H) : PS X e t' := ⟨fun pins s σ H D I q => h.run pins s σ H D I (k _ _ _ q)⟩
theorem pss_imp {e : List Stmt} {t t' : TS} (h : PSs X e t) (k : ∀ D σ H, t' D σ H → t D σ H) : PSs X e t' := ⟨fun pins s σ H D I q => h.run pins s σ H D I (k _ _ _ q)⟩
theorem pg_imp {e : Expr} {t t' : TG} (h : PG X e t) (k : ∀ v σ H Q, t' v σ H Q → t v σ H Q) : PG X e t' := ⟨fun pins s σ H v u Q I r q => h.run pins s σ H v u Q I r (k _ _ _ _ q)⟩
theorem pi_imp {tg e : Expr} {t t' : TI} (h : PI X tg e t) (k : ∀ σ H Q, t' σ H Q → t σ H Q) : PI X tg e t' := ⟨fun pins s σ H Q I q => h.run pins s σ H Q I (k _ _ _ q)⟩
theorem op_imp {f : Value → Value → Sem Value} {r r' : R2} (h : OpR X f r) (k : ∀ x y H Q, r' x y H Q → r x y H Q) : OpR X f r' := fun pins s σ H x y v u Q I rx ry q => h pins s σ H x y v u Q I rx ry (k _ _ _ _ q)
end

/-! ### views -/
def VD (K : PySem.W.Frag) (G H : Hp) : Dv → V → Prop
  | .list ds, v => ∃ a vs, v = .ref a ∧ SqL K H a vs ∧ DpAll K G vs ds
  | .dict kvs, v => (∃ a ks, v = .ref a ∧ H a = some (.dK ks) ∧ DKV K G ks kvs) ∨ ∃ a ps kvs', v = .ref a ∧ H a = some (tkO a ps) ∧ TKV K G ps kvs' ∧ kvs = (.none, .none) :: kvs'
  | d, v => Dp K G v d
section
variable {K : PySem.W.Frag} {ix : List Nat} {Fr G G' H H' : Hp} {FX : Nat → Option V} {ρ ρ' : Rho} {σ : L2.St}
theorem ct_vd {a : Addr} {o : Ob} (c : Ct K G H a o) : VD K G H (obD o) (.ref a) := by
  cases o with
  | lst ds => obtain ⟨vs, e, q⟩ := c; exact ⟨a, vs, rfl, .inl (.inl e), q⟩
  | dct kvs => obtain ⟨ks, e, q⟩ := c; exact .inl ⟨a, ks, rfl, e, q⟩
  | dtn kvs => obtain ⟨ks, e, q⟩ := c; exact .inr ⟨a, ks, kvs, rfl, e, q, rfl⟩
theorem dp_vd {d : Dv} {v : V} (gh : ∀ a o, G a = some o → H a = some o) (h : Dp K G v d) : VD K G H d v := by
  cases d with
  | list ds => cases h with | lst hs ha => exact ⟨_, _, rfl, (sub_le gh).sqL hs, ha⟩
  | dict kvs => cases h
  | none => exact h
  | bool b => exact h
  | int i => exact h
  | str x => exact h
  | tuple ds => exact h
theorem dat_vd (R : RS K ix Fr FX G ρ σ H) {r : Rv} {v : V} {d : Dv} (h : VOk K Fr G H ρ σ r v) (e : dat ρ r = some d) : VD K G H d v := by
  cases r with
  | sh d' => cases e; exact dp_vd R.gh h
  | ow o =>
    cases e
    obtain ⟨a, rfl, _, _, c, _⟩ := h
    exact ct_vd c
  | al i =>
    unfold dat at e
    simp only at e
    split at e
    · rename_i o ho
      cases e
      obtain ⟨a, ea, _, _, c⟩ := R.sl i _ ho
      have h' : σ[i]? = some (some v) := h
      rw [ea] at h'
      cases h'
      exact ct_vd c
    · cases e
/-- not one with tuple keys -/
def plD : List (Dv × Dv) → Bool
  | (.none, _) :: _ => false
  | _ => true
theorem vd_dk {kvs : List (Dv × Dv)} {v : V} (h : VD K G H (.dict kvs) v) (hp : plD kvs = true) : ∃ a ks, v = .ref a ∧ H a = some (.dK ks) ∧ DKV K G ks kvs := by
  rcases h with h | ⟨a, ps, kvs', _, _, _, e⟩
  · exact h
  · subst e
    cases hp
theorem vd_dp {d : Dv} {v : V} (gh : ∀ a o, G a = some o → H a = some o) (h : VD K G H d v) (nd : ∀ kvs, d ≠ .dict kvs) : Dp K H v d := by
  cases d with
  | list ds => obtain ⟨a, vs, rfl, hs, ha⟩ := h; exact .lst hs (dpAll_mono (sub_le gh) _ _ ha)
  | dict kvs => exact absurd rfl (nd kvs)
  | none => exact dp_mono (sub_le gh) _ _ h
  | bool b => exact dp_mono (sub_le gh) _ _ h
  | int i => exact dp_mono (sub_le gh) _ _ h
  | str x => exact dp_mono (sub_le gh) _ _ h
  | tuple ds => exact dp_mono (sub_le gh) _ _ h

/-! ### results of one step -/
inductive Ext (G H : Hp) : Hp → Hp → Prop
  | same : Ext G H G H
  | shr (p : Addr) (o : HO) : H p = none → Ext G H (upd G p o) (upd H p o)
def Res (K : PySem.W.Frag) (G H : Hp) (Q : VK) : Rz → Prop
  | .sh d => ∀ v G' H', Ext G H G' H' → Dp K G' v d → Q v H'
  | .ow o => ∀ p u, H p = none → Ct K G (upd H p u) p o → Q (.ref p) (upd H p u)
theorem res_ok (R : RS K ix Fr FX G ρ σ H) {r : Rz} {Q : VK} (k : ∀ v G' H', Sub G G' → RS K ix Fr FX G' ρ σ H' → VOk K Fr G' H' ρ σ r.rv v → Q v H') : Res K G H Q r := by
  cases r with
  | sh d =>
    intro v G' H' x h
    cases x with
    | same => exact k v G H (Sub.refl _) R h
    | shr p o hp => exact k v _ _ (sub_upd (R.none_of hp).1) (R.newG hp) h
  | ow o =>
    intro p u hp c
    exact k _ G _ (Sub.refl _) (R.newH hp) ⟨p, rfl, (R.none_of hp).1, (R.none_of hp).2, c, R.notIn hp⟩
theorem res_int {Q : VK} {i : Int} (h : Res K G H Q (.sh (.int i))) : Q (.int i) H := h _ _ _ .same (.int i)
theorem res_bl {Q : VK} {i : Bool} (h : Res K G H Q (.sh (.bool i))) : Q (.bl i) H := h _ _ _ .same (.bl i)
theorem res_str {Q : VK} {i : Str} (h : Res K G H Q (.sh (.str i))) : Q (.str i) H := h _ _ _ .same (.str i)
theorem res_non {Q : VK} (h : Res K G H Q (.sh .none)) : Q .non H := h _ _ _ .same .non
theorem res_val {Q : VK} {d : Dv} {v : V} (h : Res K G H Q (.sh d)) (q : Dp K G v d) : Q v H := h _ _ _ .same q
theorem res_tup {Q : VK} {ds : List Dv} {vs : List V} {p : Addr} (h : Res K G H Q (.sh (.tuple ds))) (g : G p = none) (hp : H p = none) (q : DpAll K G vs ds) : Q (.ref p) (upd H p (.tup vs)) :=
  h _ _ _ (.shr p _ hp) (.tup (.inl (.inl upd_same)) (dpAll_mono (sub_upd g) _ _ q))
theorem res_lst {Q : VK} {ds : List Dv} {vs : List V} {p : Addr} (h : Res K G H Q (.ow (.lst ds))) (hp : H p = none) (q : DpAll K G vs ds) : Q (.ref p) (upd H p (.lst vs)) :=
  h p _ hp ⟨vs, upd_same, q⟩
theorem g_none (gh : ∀ a o, G a = some o → H a = some o) {p : Addr} (h : H p = none) : G p = none := by
  cases e : G p with
  | none => rfl
  | some o => have := gh p o e; rw [h] at this; cases this
end

/-! ### values of one, two, several operands, by data -/
/-- a two-place rule by data -/
def R2d (K : PySem.W.Frag) (g : Dv → Dv → Option Rz) : R2 := fun x y H Q => ∃ G d e r, (∀ a o, G a = some o → H a = some o) ∧ VD K G H d x ∧ VD K G H e y ∧ g d e = some r ∧ Res K G H Q r
def OpD (X : Cx) (f : Value → Value → Sem Value) (g : Dv → Dv → Option Rz) : Prop := OpR X f (R2d X.K g)
inductive VDs (K : PySem.W.Frag) (G H : Hp) : List Dv → List V → Prop
  | nil : VDs K G H [] []
  | cons {d : Dv} {v : V} {ds : List Dv} {vs : List V} : VD K G H d v → VDs K G H ds vs → VDs K G H (d :: ds) (v :: vs)
def RCd (K : PySem.W.Frag) (g : List Dv → Option Rz) : List V → Hp → VK → Prop := fun xs H Q => ∃ G ds r, (∀ a o, G a = some o → H a = some o) ∧ VDs K G H ds xs ∧ g ds = some r ∧ Res K G H Q r
def CallD (X : Cx) (f : Value) (g : List Dv → Option Rz) : Prop := CallR X f (RCd X.K g)
def IxD (X : Cx) (g : Dv → Dv → Option Rz) : Prop := IxR X (R2d X.K g)

/-! ### expressions -/
def eVar (i : Nat) : M := fun ρ => match ρ[i]? with
  | some (.sh d) => some (.sh d, ρ)
  | some (.ow _) => some (.al i, ρ)
  | _ => none
def eC (d : Dv) : M := fun ρ => some (.sh d, ρ)
/-- a new list that nobody holds is shared -/
def pkM (f : M) : M := fun ρ => (f ρ).bind fun x => match x.1 with
  | .ow (.lst ds) => some (.sh (.list ds), x.2)
  | _ => some x
/-- whatever it is, it is shared -/
def frM (f : M) : M := fun ρ => (f ρ).bind fun x => match x.1 with
  | .sh d => some (.sh d, x.2)
  | .ow (.lst ds) => some (.sh (.list ds), x.2)
  | .ow _ => none
  | .al i => match x.2[i]? with
    | some (.ow (.lst ds)) => some (.sh (.list ds), x.2.set i (.sh (.list ds)))
    | _ => none
def binS (g : Dv → Dv → Option Rz) (fa fb : M) : M := fun ρ => (pkM fa ρ).bind fun x => (pkM fb x.2).bind fun y =>
  (dat y.2 x.1).bind fun d => (dat y.2 y.1).bind fun e => (g d e).bind fun r => some (r.rv, y.2)
def unS (g : Dv → Option Rz) (fa : M) : M := fun ρ => (fa ρ).bind fun x => (dat x.2 x.1).bind fun d => (g d).bind fun r => some (r.rv, x.2)
section
variable {X : Cx} {ix : List Nat} {e a b c : Expr} {f fa fb fc : M} {pos : Pos}
theorem de_var (i : Nat) {x : Str} (hN : X.N[i]? = some x := by rfl) (hv : Vis X.env.scope x := by first | exact Or.inl rfl | exact Or.inr (Or.inl rfl) | exact Or.inr (Or.inr rfl)) (hd : (x == ("__debug__" : Str)) = false := by decide)
    (hcd : (x == ("__classdict__" : Str)) = false := by decide) : PE X (.Name x pos) (TE' X.K ix (eVar i)) := by
  refine pe_imp (pe_var hN hv hd hcd) fun σ H Q ⟨Fr, FX, G, ρ, r, ρ', R, hf, k⟩ => ?_
  unfold eVar at hf
  split at hf
  · rename_i d hd'
    cases hf
    obtain ⟨v, ev, q⟩ := R.sl i _ hd'
    exact ⟨v, ev, k v G H (Sub.refl _) R q⟩
  · rename_i o ho
    cases hf
    obtain ⟨a, ev, _⟩ := R.sl i _ ho
    exact ⟨_, ev, k _ G H (Sub.refl _) R ev⟩
  · cases hf
theorem de_c {v : V} {d : Dv} (h : PE X e (tC v)) (q : ∀ G, Dp X.K G v d) : PE X e (TE' X.K ix (eC d)) :=
  pe_imp h fun σ H Q ⟨Fr, FX, G, ρ, r, ρ', R, hf, k⟩ => by
    unfold eC at hf
    cases hf
    exact k v G H (Sub.refl _) R (q G)
theorem de_int {i : Int} {j} : PE X (.Constant (.int i) j pos) (TE' X.K ix (eC (.int i))) := de_c pe_int fun _ => .int i
theorem de_bl {i : Bool} {j} : PE X (.Constant (.bool i) j pos) (TE' X.K ix (eC (.bool i))) := de_c pe_bl fun _ => .bl i
theorem de_non {j} : PE X (.Constant .none j pos) (TE' X.K ix (eC .none)) := de_c pe_non fun _ => .non
theorem de_str {x : Str} {j} : PE X (.Constant (.str x) j pos) (TE' X.K ix (eC (.str x))) := de_c pe_str fun _ => .str x
theorem vok_share {Fr G H : Hp} {FX : Nat → Option V} {ρ : Rho} {σ : L2.St} {K : PySem.W.Frag} {ds : List Dv} {v : V} (R : RS K ix Fr FX G ρ σ H) (h : VOk K Fr G H ρ σ (.ow (.lst ds)) v) :
    ∃ G', Sub G G' ∧ RS K ix Fr FX G' ρ σ H ∧ Dp K G' v (.list ds) := by
  obtain ⟨a, rfl, g, fr, ⟨vs, hv, q⟩, hn⟩ := h
  exact ⟨upd G a (.lst vs), sub_upd g, R.share hv g fr hn, .lst (.inl (.inl upd_same)) (dpAll_mono (sub_upd g) _ _ q)⟩
theorem pk_ok {σ : L2.St} {H : Hp} {Q : VK} (h : TE' X.K ix (pkM f) σ H Q) : TE' X.K ix f σ H Q := by
  obtain ⟨Fr, FX, G, ρ, r, ρ', R, hf, k⟩ := h
  unfold pkM at hf
  obtain ⟨⟨r0, ρ0⟩, h0, hf⟩ := Option.bind_eq_some_iff.mp hf
  refine ⟨Fr, FX, G, ρ, r0, ρ0, R, h0, fun v G' H' s R' q => ?_⟩
  simp only at hf
  split at hf
  · cases hf
    obtain ⟨G2, s2, R2, q2⟩ := vok_share R' q
    exact k v G2 H' (s.trans s2) R2 q2
  · cases hf
    exact k v G' H' s R' q
theorem de_pk (h : PE X e (TE' X.K ix f)) : PE X e (TE' X.K ix (pkM f)) := pe_imp h fun _ _ _ => pk_ok
theorem fr_ok {σ : L2.St} {H : Hp} {Q : VK} (h : TE' X.K ix (frM f) σ H Q) : TE' X.K ix f σ H Q := by
  obtain ⟨Fr, FX, G, ρ, r, ρ', R, hf, k⟩ := h
  unfold frM at hf
  obtain ⟨⟨r0, ρ0⟩, h0, hf⟩ := Option.bind_eq_some_iff.mp hf
  refine ⟨Fr, FX, G, ρ, r0, ρ0, R, h0, fun v G' H' s R' q => ?_⟩
  simp only at hf
  split at hf
  · cases hf
    exact k v G' H' s R' q
  · cases hf
    obtain ⟨G2, s2, R2, q2⟩ := vok_share R' q
    exact k v G2 H' (s.trans s2) R2 q2
  · cases hf
  · rename_i i
    split at hf
    · rename_i ds hi
      cases hf
      obtain ⟨a, ev, g, fr, ⟨vs, hv, qv⟩⟩ := R'.sl i _ hi
      have e' : σ[i]? = some (some v) := q
      rw [ev] at e'
      cases e'
      have hx : Dp X.K (upd G' a (.lst vs)) (.ref a) (.list ds) := .lst (.inl (.inl upd_same)) (dpAll_mono (sub_upd g) _ _ qv)
      have hl : i < ρ0.length := (List.getElem?_eq_some_iff.mp hi).1
      have W : RS X.K ix Fr FX G' (ρ0.set i .no) σ H' := R'.weak (i := i) (s := .no) trivial (fun o z => nomatch z)
      have S := W.share hv g fr fun j o' e1 e2 => by
        by_cases hj : i = j
        · subst hj
          rw [List.getElem?_set_self hl] at e1
          cases e1
        · rw [List.getElem?_set_ne hj] at e1
          exact R'.sep i j a _ o' hj hi e1 ev e2
      have S2 := S.weak (i := i) (s := .sh (.list ds)) ⟨_, ev, hx⟩ (fun o z => nomatch z)
      rw [List.set_set] at S2
      exact k _ _ H' (s.trans (sub_upd g)) S2 hx
    · cases hf
theorem de_fr (h : PE X e (TE' X.K ix f)) : PE X e (TE' X.K ix (frM f)) := pe_imp h fun _ _ _ => fr_ok
theorem pk_noow {ρ ρ' : Rho} {r : Rv} (h : pkM f ρ = some (r, ρ')) : ∀ ds, r ≠ .ow (.lst ds) := fun ds e => by
  subst e
  unfold pkM at h
  obtain ⟨⟨r0, ρ0⟩, h0, hf⟩ := Option.bind_eq_some_iff.mp h
  simp only at hf
  split at hf
  · cases hf
  · rename_i hn
    cases hf
    exact hn ds rfl
/-- an operand's view stands while a later one is evaluated -/
theorem vok_keep {K : PySem.W.Frag} {Fr G H G' H' : Hp} {FX : Nat → Option V} {ρ ρ' : Rho} {σ : L2.St} {r : Rv} {v : V} (h : VOk K Fr G H ρ σ r v) (s : Sub G G') (n : ∀ o, r ≠ .ow o) : VOk K Fr G' H' ρ' σ r v := by
  cases r with
  | sh d => exact dp_mono s _ _ h
  | al i => exact h
  | ow o => exact absurd rfl (n o)
/-- .. if need be, framed -/
theorem RS.frame {K : PySem.W.Frag} {Fr G H : Hp} {FX : Nat → Option V} {ρ : Rho} {σ : L2.St} {p : Addr} {u : HO} (R : RS K ix Fr FX G ρ σ H) (g : G p = none) (hu : H p = some u) (hn : ∀ (i : Nat) (o' : Ob), ρ[i]? = some (.ow o') → σ[i]? ≠ some (some (.ref p))) :
    RS K ix (upd Fr p u) FX G ρ σ H := by
  refine ⟨R.gh, fun a o e => ?_, fun a n => ?_, R.len, fun i s e => ?_, R.sep, R.fx⟩
  · by_cases ha : a = p
    · subst ha; rw [upd_same] at e; rw [hu]; exact e
    · rw [upd_ne ha] at e; exact R.fh a o e
  · by_cases ha : a = p
    · subst ha; exact g
    · rw [upd_ne ha] at n; exact R.gf a n
  · have h := R.sl i s e
    cases s with
    | no => trivial
    | sh d => exact h
    | ow o =>
      obtain ⟨a, e1, g1, f1, c1⟩ := h
      have ha : a ≠ p := fun z => by subst z; exact hn i o e e1
      exact ⟨a, e1, g1, by rw [upd_ne ha]; exact f1, c1⟩
theorem RS.unframe {K : PySem.W.Frag} {Fr G H : Hp} {FX : Nat → Option V} {ρ : Rho} {σ : L2.St} {p : Addr} {u : HO} (R : RS K ix (upd Fr p u) FX G ρ σ H) (f0 : Fr p = none) : RS K ix Fr FX G ρ σ H := by
  have le : ∀ a o, Fr a = some o → (upd Fr p u) a = some o := fun a o e => by
    have ha : a ≠ p := fun z => by subst z; rw [f0] at e; cases e
    rw [upd_ne ha]; exact e
  refine ⟨R.gh, fun a o e => R.fh a o (le a o e), fun a n => ?_, R.len, fun i s e => ?_, R.sep, R.fx⟩
  · refine R.gf a fun z => ?_
    cases e : Fr a with
    | none => exact n e
    | some o => rw [le a o e] at z; cases z
  · have h := R.sl i s e
    cases s with
    | no => trivial
    | sh d => exact h
    | ow o =>
      obtain ⟨a, e1, g1, f1, c1⟩ := h
      refine ⟨a, e1, g1, ?_, c1⟩
      cases e : Fr a with
      | none => rfl
      | some o => rw [le a o e] at f1; cases f1
/-- one operand, then another: an owned new object waits in the frame -/
theorem hold2 {tb : TE} {σ : L2.St} {H : Hp} {K : PySem.W.Frag} {Fr G : Hp} {FX : Nat → Option V} {ρ ρ1 : Rho} {r s : Rv} {x : V} {R : V → Hp → Prop}
    (R1 : RS K ix Fr FX G ρ σ H) (v1 : VOk K Fr G H ρ σ r x) (hb : fb ρ = some (s, ρ1))
    (k : ∀ y G2 H2, Sub G G2 → RS K ix Fr FX G2 ρ1 σ H2 → VOk K Fr G2 H2 ρ1 σ r x → VOk K Fr G2 H2 ρ1 σ s y → (∀ o o' a, r = .ow o → x = .ref a → s = .ow o' → y ≠ .ref a) → R y H2) :
    TE' K ix fb σ H R := by
  cases r with
  | sh d => exact ⟨Fr, FX, G, ρ, s, ρ1, R1, hb, fun y G2 H2 su R2 v2 => k y G2 H2 su R2 (dp_mono su _ _ v1) v2 (fun o o' a z => nomatch z)⟩
  | al i => exact ⟨Fr, FX, G, ρ, s, ρ1, R1, hb, fun y G2 H2 su R2 v2 => k y G2 H2 su R2 v1 v2 (fun o o' a z => nomatch z)⟩
  | ow o =>
    obtain ⟨p, rfl, g, f0, c, hn⟩ := v1
    obtain ⟨u, hu⟩ := c.some
    refine ⟨upd Fr p u, FX, G, ρ, s, ρ1, R1.frame g hu hn, hb, fun y G2 H2 su R2 v2 => ?_⟩
    have g2 : G2 p = none := R2.gf p (by rw [upd_same]; simp)
    have h2 : H2 p = H p := (R2.fh p u upd_same).trans hu.symm
    refine k y G2 H2 su (R2.unframe f0) ⟨p, rfl, g2, f0, c.mono su h2, fun i o' e e1 => ?_⟩ ?_ ?_
    · obtain ⟨a, e2, _, f2, _⟩ := R2.sl i _ e
      rw [e1] at e2
      cases e2
      rw [upd_same] at f2
      cases f2
    · cases s with
      | sh d => exact v2
      | al i => exact v2
      | ow o' =>
        obtain ⟨q, rfl, g', f', c', hn'⟩ := v2
        have hq : q ≠ p := fun z => by subst z; rw [upd_same] at f'; cases f'
        rw [upd_ne hq] at f'
        exact ⟨q, rfl, g', f', c', hn'⟩
    · intro o1 o2 a e1 e2 e3 e4
      cases e2
      subst e3
      obtain ⟨q, e5, g', f', _⟩ := v2
      rw [e4] at e5
      cases e5
      rw [upd_same] at f'
      cases f'
theorem bin_ok {tr : R2} {g : Dv → Dv → Option Rz} {σ : L2.St} {H : Hp} {Q : VK} (h : TE' X.K ix (binS g fa fb) σ H Q) (k : ∀ x y H2, R2d X.K g x y H2 Q → tr x y H2 Q) :
    tOp tr (TE' X.K ix (pkM fa)) (TE' X.K ix (pkM fb)) σ H Q := by
  obtain ⟨Fr, FX, G, ρ, r, ρ', R, hf, kk⟩ := h
  unfold binS at hf
  obtain ⟨⟨r1, ρ1⟩, h1, hf⟩ := Option.bind_eq_some_iff.mp hf
  obtain ⟨⟨r2, ρ2⟩, h2, hf⟩ := Option.bind_eq_some_iff.mp hf
  obtain ⟨d, h3, hf⟩ := Option.bind_eq_some_iff.mp hf
  obtain ⟨e, h4, hf⟩ := Option.bind_eq_some_iff.mp hf
  obtain ⟨rr, h5, hf⟩ := Option.bind_eq_some_iff.mp hf
  cases hf
  refine ⟨Fr, FX, G, ρ, r1, ρ1, R, h1, fun x G1 H1 s1 R1 v1 => ?_⟩
  refine hold2 (tb := TE' X.K ix (pkM fb)) R1 v1 h2 fun y G2 H2 s2 R2 w1 w2 _ => ?_
  exact k x y H2 ⟨G2, d, e, rr, R2.gh, dat_vd R2 w1 h3, dat_vd R2 w2 h4, h5, res_ok R2 fun v G' H' s3 R3 v3 => kk v G' H' ((s1.trans s2).trans s3) R3 v3⟩
theorem de_bin {op : Operator} {g : Dv → Dv → Option Rz} (ho : OpD X (binaryOp op) g) (ha : PE X a (TE' X.K ix fa)) (hb : PE X b (TE' X.K ix fb)) : PE X (.BinOp a op b pos) (TE' X.K ix (binS g fa fb)) :=
  pe_imp (pe_op ho (de_pk ha) (de_pk hb)) fun σ H Q h => bin_ok h fun _ _ _ q => q
theorem de_cmp {op : CmpOp} {g : Dv → Dv → Option Rz} (ho : OpD X (compareOp op) g) (ha : PE X a (TE' X.K ix fa)) (hb : PE X b (TE' X.K ix fb)) (hm : behindInMarks op b = false := by first | exact nomark _ | rfl) : PE X (.Compare a [op] [b] pos) (TE' X.K ix (binS g fa fb)) :=
  pe_imp (pe_cmpR ho (de_pk ha) (de_pk hb) hm) fun σ H Q h => bin_ok h fun _ _ _ q => q
theorem de_ix {g : Dv → Dv → Option Rz} (hr : IxD X g) (ha : PE X a (TE' X.K ix fa)) (hb : PE X b (TE' X.K ix fb)) (hs : PlainIx b := by exact fun _ _ => rfl) : PE X (.Subscript a b pos) (TE' X.K ix (binS g fa fb)) :=
  pe_imp (pe_ix hr (de_pk ha) (de_pk hb) hs) fun σ H Q h => bin_ok h fun _ _ _ q => q
end
end DL

set_option Elab.async false
set_option linter.all false
set_option autoImplicit false
set_option maxRecDepth 100000
namespace DL
open PySem PySem.Spec PyProof.Rows L2

/-! ### operators by data -/
def addD : Dv → Dv → Option Rz
  | .int i, .int j => some (.sh (.int (i + j)))
  | .str x, .str y => if x.length + y.length ≤ sizeLine then some (.sh (.str (x ++ y))) else none
  | .tuple xs, .tuple ys => if xs.length + ys.length ≤ sizeLine then some (.sh (.tuple (xs ++ ys))) else none
  | .list xs, .list ys => if xs.length + ys.length ≤ sizeLine then some (.ow (.lst (xs ++ ys))) else none
  | _, _ => none
def subD : Dv → Dv → Option Rz
  | .int i, .int j => some (.sh (.int (i - j)))
  | _, _ => none
def mulD : Dv → Dv → Option Rz
  | .int i, .int j => if (-(18446744073709551616) < i ∧ i < 18446744073709551616) ∨ (-(18446744073709551616) < j ∧ j < 18446744073709551616) then some (.sh (.int (i * j))) else none
  | .list xs, .int k => if -(9223372036854775808) ≤ k ∧ k < 9223372036854775808 ∧ xs.length * k.toNat ≤ sizeLine then some (.ow (.lst (List.replicate k.toNat xs).flatten)) else none
  | .tuple xs, .int k => if xs ≠ [] ∧ 2 ≤ k ∧ k ≤ 1000 ∧ xs.length ≤ 1000 then some (.sh (.tuple (List.replicate k.toNat xs).flatten)) else none
  | _, _ => none
def divD : Dv → Dv → Option Rz
  | .int i, .int j => if 0 < j ∧ j < 1073741824 then some (.sh (.int (i / j))) else none
  | _, _ => none
def modD : Dv → Dv → Option Rz
  | .int i, .int j => if 0 < j then some (.sh (.int (i % j))) else none
  | _, _ => none
def powD : Dv → Dv → Option Rz
  | .int i, .int j => if 0 ≤ j ∧ j ≤ 1000000 ∧ i.natAbs < 2 ^ 64 then some (.sh (.int (i ^ j.toNat))) else none
  | _, _ => none
def shlD : Dv → Dv → Option Rz
  | .int i, .int j => if 0 ≤ j ∧ j ≤ 1000000 ∧ i.natAbs < 2 ^ 64 then some (.sh (.int (i * 2 ^ j.toNat))) else none
  | _, _ => none
def shrD : Dv → Dv → Option Rz
  | .int i, .int j => if 0 ≤ j then some (.sh (.int (i / 2 ^ j.toNat))) else none
  | _, _ => none
def bitD (g : Int → Int → Int) : Dv → Dv → Option Rz
  | .int i, .int j => some (.sh (.int (g i j)))
  | _, _ => none
def cmpD (g : Int → Int → Bool) : Dv → Dv → Option Rz
  | .int i, .int j => some (.sh (.bool (g i j)))
  | _, _ => none
def eqD : Dv → Dv → Option Bool
  | .int i, .int j => some (decide (i = j))
  | .str i, .str j => some (decide (i = j))
  | d, e => if SeqAt.shaped d = true ∧ SeqAt.shaped e = true then some (PyData.eqv d e) else none
def eqqD (d e : Dv) : Option Rz := (eqD d e).map fun b => .sh (.bool b)
def neqD (d e : Dv) : Option Rz := (eqD d e).map fun b => .sh (.bool (!b))
def isNone : Dv → Bool
  | .none => true
  | _ => false
def isND (d e : Dv) : Option Rz := if isNone e = true then some (.sh (.bool (isNone d))) else none
def notND (d e : Dv) : Option Rz := if isNone e = true then some (.sh (.bool (!isNone d))) else none
/-- x in c, c a list or a tuple -/
def inSeq (d : Dv) : Dv → Option Bool
  | .list ds => if SeqAt.shaped d = true ∧ SeqAt.shaped (.list ds) = true then some (ds.any fun z => PyData.eqv z d) else none
  | .tuple ds => if SeqAt.shaped d = true ∧ SeqAt.shaped (.tuple ds) = true then some (ds.any fun z => PyData.eqv z d) else none
  | _ => none
def inSD (d e : Dv) : Option Rz := (inSeq d e).map fun b => .sh (.bool b)
def ninSD (d e : Dv) : Option Rz := (inSeq d e).map fun b => .sh (.bool (!b))
def ixD : Dv → Dv → Option Rz
  | .list ds, .int i => (atI ds i).map .sh
  | .tuple ds, .int i => (atI ds i).map .sh
  | .str z, .int i => if z.length ≤ sizeLine then (atI z.cps.toList i).map fun c => .sh (.str ⟨#[c]⟩) else none
  | _, _ => none

section
variable {X : Cx}
theorem vd_int {K : PySem.W.Frag} {G H : Hp} {i : Int} {v : V} (h : VD K G H (.int i) v) : v = .int i := by
  have h' : Dp K G v (.int i) := h
  cases h'
  rfl
theorem vd_bool {K : PySem.W.Frag} {G H : Hp} {i : Bool} {v : V} (h : VD K G H (.bool i) v) : v = .bl i := by
  have h' : Dp K G v (.bool i) := h
  cases h'
  rfl
theorem vd_str {K : PySem.W.Frag} {G H : Hp} {i : Str} {v : V} (h : VD K G H (.str i) v) : v = .str i := by
  have h' : Dp K G v (.str i) := h
  cases h'
  rfl
theorem vd_none {K : PySem.W.Frag} {G H : Hp} {v : V} (h : VD K G H .none v) : v = .non := by
  have h' : Dp K G v .none := h
  cases h'
  rfl
theorem vd_list {K : PySem.W.Frag} {G H : Hp} {ds : List Dv} {v : V} (h : VD K G H (.list ds) v) : ∃ a vs, v = .ref a ∧ SqL K H a vs ∧ DpAll K G vs ds := h
theorem vd_tup {K : PySem.W.Frag} {G H : Hp} {ds : List Dv} {v : V} (gh : ∀ a o, G a = some o → H a = some o) (h : VD K G H (.tuple ds) v) : ∃ a vs, v = .ref a ∧ SqT K G a vs ∧ SqT K H a vs ∧ DpAll K G vs ds := by
  have h' : Dp K G v (.tuple ds) := h
  cases h' with
  | tup hs ha => exact ⟨_, _, rfl, hs, (sub_le gh).sqT hs, ha⟩
/-- ints -/
theorem opd_int {f : Value → Value → Sem Value} {r : R2} {g : Dv → Dv → Option Rz} (ho : OpR X f r) (hg : ∀ d e z, g d e = some z → ∃ i j, d = .int i ∧ e = .int j)
    (k : ∀ i j z G H Q, g (.int i) (.int j) = some z → Res X.K G H Q z → r (.int i) (.int j) H Q) : OpD X f g := by
  refine op_imp ho fun x y H Q ⟨G, d, e, z, gh, vx, vy, hz, q⟩ => ?_
  obtain ⟨i, j, rfl, rfl⟩ := hg d e z hz
  rw [vd_int vx, vd_int vy]
  exact k i j z G H Q hz q
theorem sub_d : OpD X (binaryOp .Sub) subD := opd_int op_sub (fun d e z h => by unfold subD at h; split at h <;> first | exact ⟨_, _, rfl, rfl⟩ | cases h) fun i j z G H Q hz q => by
  simp only [subD, Option.some.injEq] at hz; subst hz; exact ⟨i, j, rfl, rfl, res_int q⟩
theorem isub_d : OpD X (inplaceOp .Sub) subD := opd_int iop_sub (fun d e z h => by unfold subD at h; split at h <;> first | exact ⟨_, _, rfl, rfl⟩ | cases h) fun i j z G H Q hz q => by
  simp only [subD, Option.some.injEq] at hz; subst hz; exact ⟨i, j, rfl, rfl, res_int q⟩
theorem div_d : OpD X (binaryOp .FloorDiv) divD := opd_int op_fdiv (fun d e z h => by unfold divD at h; split at h <;> first | exact ⟨_, _, rfl, rfl⟩ | cases h) fun i j z G H Q hz q => by
  unfold divD at hz
  simp only at hz
  split at hz
  · rename_i hc; cases hz; exact ⟨i, j, rfl, rfl, hc, res_int q⟩
  · cases hz
theorem mod_d : OpD X (binaryOp .Mod) modD := opd_int op_mod (fun d e z h => by unfold modD at h; split at h <;> first | exact ⟨_, _, rfl, rfl⟩ | cases h) fun i j z G H Q hz q => by
  unfold modD at hz
  simp only at hz
  split at hz
  · rename_i hc; cases hz; exact ⟨i, j, rfl, rfl, hc, res_int q⟩
  · cases hz
theorem pow_d : OpD X (binaryOp .Pow) powD := opd_int op_pow (fun d e z h => by unfold powD at h; split at h <;> first | exact ⟨_, _, rfl, rfl⟩ | cases h) fun i j z G H Q hz q => by
  unfold powD at hz
  simp only at hz
  split at hz
  · rename_i hc; cases hz; exact ⟨i, j, rfl, rfl, hc, res_int q⟩
  · cases hz
theorem shl_d : OpD X (binaryOp .LShift) shlD := opd_int op_shl (fun d e z h => by unfold shlD at h; split at h <;> first | exact ⟨_, _, rfl, rfl⟩ | cases h) fun i j z G H Q hz q => by
  unfold shlD at hz
  simp only at hz
  split at hz
  · rename_i hc; cases hz; exact ⟨i, j, rfl, rfl, hc, res_int q⟩
  · cases hz
theorem shr_d : OpD X (binaryOp .RShift) shrD := opd_int op_shr (fun d e z h => by unfold shrD at h; split at h <;> first | exact ⟨_, _, rfl, rfl⟩ | cases h) fun i j z G H Q hz q => by
  unfold shrD at hz
  simp only at hz
  split at hz
  · rename_i hc; cases hz; exact ⟨i, j, rfl, rfl, hc, res_int q⟩
  · cases hz
theorem bitD_inv {g : Int → Int → Int} : ∀ d e z, bitD g d e = some z → ∃ i j, d = .int i ∧ e = .int j := fun d e z h => by unfold bitD at h; split at h <;> first | exact ⟨_, _, rfl, rfl⟩ | cases h
theorem cmpD_inv {g : Int → Int → Bool} : ∀ d e z, cmpD g d e = some z → ∃ i j, d = .int i ∧ e = .int j := fun d e z h => by unfold cmpD at h; split at h <;> first | exact ⟨_, _, rfl, rfl⟩ | cases h
theorem and_d : OpD X (binaryOp .BitAnd) (bitD Builtin.bitAnd) := opd_int op_and bitD_inv fun i j z G H Q hz q => by cases hz; exact ⟨i, j, rfl, rfl, res_int q⟩
theorem or_d : OpD X (binaryOp .BitOr) (bitD Builtin.bitOr) := opd_int op_or bitD_inv fun i j z G H Q hz q => by cases hz; exact ⟨i, j, rfl, rfl, res_int q⟩
theorem xor_d : OpD X (binaryOp .BitXor) (bitD Builtin.bitXor) := opd_int op_xor bitD_inv fun i j z G H Q hz q => by cases hz; exact ⟨i, j, rfl, rfl, res_int q⟩
theorem ior_d : OpD X (inplaceOp .BitOr) (bitD Builtin.bitOr) := opd_int iop_or bitD_inv fun i j z G H Q hz q => by cases hz; exact ⟨i, j, rfl, rfl, res_int q⟩
theorem lt_d : OpD X (compareOp .Lt) (cmpD fun i j => decide (i < j)) := opd_int op_lt cmpD_inv fun i j z G H Q hz q => by cases hz; exact ⟨i, j, rfl, rfl, res_bl q⟩
theorem le_d : OpD X (compareOp .LtE) (cmpD fun i j => decide (i ≤ j)) := opd_int op_le cmpD_inv fun i j z G H Q hz q => by cases hz; exact ⟨i, j, rfl, rfl, res_bl q⟩
theorem gt_d : OpD X (compareOp .Gt) (cmpD fun i j => decide (j < i)) := opd_int op_gt cmpD_inv fun i j z G H Q hz q => by cases hz; exact ⟨i, j, rfl, rfl, res_bl q⟩
theorem ge_d : OpD X (compareOp .GtE) (cmpD fun i j => decide (j ≤ i)) := opd_int op_ge cmpD_inv fun i j z G H Q hz q => by cases hz; exact ⟨i, j, rfl, rfl, res_bl q⟩
/-- list + list, whatever list -/
def rCatS (K : PySem.W.Frag) : R2 := fun x y H Q => ∃ l b xs zs, x = .ref l ∧ y = .ref b ∧ SqL K H l xs ∧ SqL K H b zs ∧ xs.length + zs.length ≤ sizeLine ∧ ∀ p, H p = none → Q (.ref p) (upd H p (.lst (xs ++ zs)))
theorem inv_lst {pins : List (Addr × Obj)} {σ : L2.St} {H : Hp} {s : Shared} {l : Addr} {xs : List V} (I : Inv X pins σ H s) (h : SqL X.K H l xs) :
    ∃ (its : List Value) (n : Nat) (sl : Array (Option Value)), Vals xs its ∧ xs.length = its.length ∧ xs.length ≤ sizeLine ∧ s.heap.get? l = some { cls := .type "list", data := .seq its.toArray n, slots := sl } := by
  obtain ⟨its, r, ⟨o, n, e, hc, hd, hda⟩, hz⟩ := I.list h
  obtain ⟨cls, dd, data, sl⟩ := o
  simp only at hc hd hda
  subst hc hd hda
  exact ⟨its, n, sl, r, r.length, hz, e⟩
end
end DL

set_option Elab.async false
set_option linter.all false
set_option autoImplicit false
set_option maxRecDepth 100000
set_option maxHeartbeats 1000000
namespace DL
open PySem PySem.Spec PyProof.Rows L2

section
variable {X : Cx}
theorem op_catS : OpR X (binaryOp .Add) (rCatS X.K) := by
  intro pins s σ H x y v u Q I rx ry h
  obtain ⟨l, b, xs, zs, rfl, rfl, hH, hB, hz, q⟩ := h
  cases rx
  cases ry
  obtain ⟨its, n, sl, r, hl, z, e⟩ := inv_lst I hH
  obtain ⟨its2, n2, sl2, r2, hl2, z2, e2⟩ := inv_lst I hB
  have fits : (xs ++ zs).length ≤ sizeLine := by rw [List.length_append]; exact hz
  have got : Q (.ref s.heap.objs.size) (upd H s.heap.objs.size (.lst (xs ++ zs))) := q _ I.fresh
  have small : its.toArray.size + its2.toArray.size ≤ sizeLine := by simpa [hl, hl2] using hz
  have fin : EP X pins σ Q (.ref s.heap.objs.size) { s with heap := s.heap.push { cls := Value.type "list", data := Data.seq (its.toArray ++ its2.toArray) } } := by
    rw [show its.toArray ++ its2.toArray = (its ++ its2).toArray from List.append_toArray ..]
    exact ⟨.ref s.heap.objs.size, _, I.lnew (t' := s.toks) (r.append r2) fits, rfl, got⟩
  exact concat_meets ⟨_, e, rfl⟩ ⟨_, e2, rfl⟩ noFill_list_add seq_list_add PySem.F.slot_list_add PySem.F.entry_list_add (PySem.F.args_list_add_2 _ _) (list_addW l b its.toArray its2.toArray n n2 none none sl sl2 small) ⟨e, e2, fin⟩
theorem add_d : OpD X (binaryOp .Add) addD := by
  intro pins s σ H x y v u Q I rx ry h
  obtain ⟨G, d, e, z, gh, vx, vy, hz, q⟩ := h
  unfold addD at hz
  split at hz
  · cases hz
    rw [vd_int vx] at rx
    rw [vd_int vy] at ry
    exact op_add pins s σ H _ _ v u Q I rx ry ⟨_, _, rfl, rfl, res_int q⟩
  · rename_i x' y'
    split at hz
    · rename_i hc
      cases hz
      rw [vd_str vx] at rx
      rw [vd_str vy] at ry
      exact op_add_str pins s σ H _ _ v u Q I rx ry ⟨_, _, rfl, rfl, hc, res_str q⟩
    · cases hz
  · rename_i xs ys
    split at hz
    · rename_i hc
      cases hz
      obtain ⟨a, vs, rfl, g1, h1, p1⟩ := vd_tup gh vx
      obtain ⟨b, ws, rfl, g2, h2, p2⟩ := vd_tup gh vy
      have l1 := dpAll_length p1
      have l2 := dpAll_length p2
      refine op_catA pins s σ H _ _ v u Q I rx ry ⟨a, b, vs, ws, rfl, rfl, h1, h2, by omega, fun e0 => ?_, fun _ e0 => ?_, fun _ _ p hp => ?_⟩
      · subst e0
        have : xs = [] := List.eq_nil_of_length_eq_zero (by simpa using l1.symm)
        subst this
        exact res_val q (.tup g2 p2)
      · subst e0
        have : ys = [] := List.eq_nil_of_length_eq_zero (by simpa using l2.symm)
        subst this
        rw [List.append_nil] at q
        exact res_val q (.tup g1 p1)
      · exact res_tup q (g_none gh hp) hp (dpAll_append p1 p2)
    · cases hz
  · rename_i xs ys
    split at hz
    · rename_i hc
      cases hz
      obtain ⟨a, vs, rfl, h1, p1⟩ := vd_list vx
      obtain ⟨b, ws, rfl, h2, p2⟩ := vd_list vy
      have l1 := dpAll_length p1
      have l2 := dpAll_length p2
      exact op_catS pins s σ H _ _ v u Q I rx ry ⟨a, b, vs, ws, rfl, rfl, h1, h2, by omega, fun p hp => res_lst q hp (dpAll_append p1 p2)⟩
    · cases hz
  · cases hz
def iaddD : Dv → Dv → Option Rz
  | .int i, .int j => some (.sh (.int (i + j)))
  | _, _ => none
theorem iadd_d : OpD X (inplaceOp .Add) iaddD := opd_int iop_add (fun d e z h => by unfold iaddD at h; split at h <;> first | exact ⟨_, _, rfl, rfl⟩ | cases h) fun i j z G H Q hz q => by
  simp only [iaddD, Option.some.injEq] at hz; subst hz; exact ⟨i, j, rfl, rfl, res_int q⟩
def rRepS (K : PySem.W.Frag) : R2 := fun x y H Q => ∃ l k xs, x = .ref l ∧ y = .int k ∧ SqL K H l xs ∧ -(2 ^ 63) ≤ k ∧ k < 2 ^ 63 ∧ xs.length * k.toNat ≤ sizeLine ∧
  ∀ p, H p = none → Q (.ref p) (upd H p (.lst (List.replicate k.toNat xs).flatten))
theorem op_repS : OpR X (binaryOp .Mult) (rRepS X.K) := by
  intro pins s σ H x y v u Q I rx ry h
  obtain ⟨l, k, xs, rfl, rfl, hH, h1, h2, hz, q⟩ := h
  cases rx
  obtain ⟨t, rfl⟩ := ry
  obtain ⟨its, n, sl, r, hl, z, e⟩ := inv_lst I hH
  have cnt : its.toArray.size * k.toNat ≤ sizeLine := by
    rw [List.size_toArray, ← hl]
    exact hz
  have isL : s.TypeIs (.ref l) "list" := ⟨_, e, rfl⟩
  have isI := fun s' : Shared => typeIs_int s' k t
  have fin : EP X pins σ Q (.ref s.heap.objs.size) { s with heap := s.heap.push { cls := Value.type "list", data := Data.seq (List.foldl (fun x1 x2 => x1 ++ x2) #[] (List.replicate (if its.toArray.isEmpty = true then 0 else k.toNat) its.toArray)) }, toks := s.toks } := by
    rw [listMul_foldl_if]
    exact ⟨.ref s.heap.objs.size, _, I.lnew (t' := s.toks) (r.rep k.toNat) (by rw [lm_len_rep_flat, Nat.mul_comm]; exact hz), rfl, q _ I.fresh⟩
  have times := lm_list_mul_any l its.toArray n none sl k t (ne_true_of_eq_false (by rw [fitsIndex_both h1 h2]; rfl)) (Nat.not_lt.mpr (Nat.le_trans cnt (by decide))) (ne_true_of_eq_false (notLongL cnt))
  exact wpAny_binaryOp_repeat_ref (T := "list") (U := "int") (by decide) isL isI noFill_list_mul F.fills_int_mul F.slot_int_rmul repeat_list F.slot_int_index.lookup
    (call_meets F.slot_int_rmul (isI s) F.entry_int_rmul (F.args_int_rmul_2 _ _) (lm_int_rmul_list_any k t l its.toArray n none sl) ⟨e, rfl, isL, call_meets F.slot_list_mul isL F.entry_list_mul (F.args_list_mul_2 _ _) times ⟨e, fin⟩⟩)
theorem dpAll_rep {K : PySem.W.Frag} {G : Hp} {ds : List Dv} {vs : List V} (h : DpAll K G vs ds) : ∀ n : Nat, DpAll K G (List.replicate n vs).flatten (List.replicate n ds).flatten
  | 0 => by simp; exact .nil
  | n + 1 => by
    simp only [List.replicate_succ, List.flatten_cons]
    exact dpAll_append h (dpAll_rep h n)
theorem mul_d : OpD X (binaryOp .Mult) mulD := by
  intro pins s σ H x y v u Q I rx ry h
  obtain ⟨G, d, e, z, gh, vx, vy, hz, q⟩ := h
  unfold mulD at hz
  split at hz
  · split at hz
    · rename_i hc
      cases hz
      rw [vd_int vx] at rx
      rw [vd_int vy] at ry
      exact op_mul pins s σ H _ _ v u Q I rx ry ⟨_, _, rfl, rfl, hc, res_int q⟩
    · cases hz
  · split at hz
    · rename_i hc
      cases hz
      obtain ⟨a, vs, rfl, h1, p1⟩ := vd_list vx
      have l1 := dpAll_length p1
      rw [vd_int vy] at ry
      exact op_repS pins s σ H _ _ v u Q I rx ry ⟨a, _, vs, rfl, rfl, h1, hc.1, hc.2.1, by rw [l1]; exact hc.2.2, fun p hp => res_lst q hp (dpAll_rep p1 _)⟩
    · cases hz
  · split at hz
    · rename_i xs k hc
      cases hz
      obtain ⟨a, vs, rfl, g1, h1, p1⟩ := vd_tup gh vx
      have l1 := dpAll_length p1
      rw [vd_int vy] at ry
      refine op_repT pins s σ H _ _ v u Q I rx ry ⟨a, _, vs, rfl, rfl, h1, fun e0 => hc.1 ?_, hc.2.1, hc.2.2.1, by rw [l1]; exact hc.2.2.2, fun p hp => res_tup q (g_none gh hp) hp (dpAll_rep p1 _)⟩
      subst e0
      exact List.eq_nil_of_length_eq_zero (by simpa using l1.symm)
    · cases hz
  · cases hz
/-! ### == and != -/
theorem eqD_bool {d e : Dv} {b : Bool} (h : eqD d e = some b) : (∃ i j, d = .int i ∧ e = .int j ∧ b = decide (i = j)) ∨ (∃ i j, d = .str i ∧ e = .str j ∧ b = decide (i = j)) ∨ (SeqAt.shaped d = true ∧ SeqAt.shaped e = true ∧ b = PyData.eqv d e) := by
  unfold eqD at h
  split at h
  · exact .inl ⟨_, _, rfl, rfl, (Option.some.inj h).symm⟩
  · exact .inr (.inl ⟨_, _, rfl, rfl, (Option.some.inj h).symm⟩)
  · split at h
    · rename_i hc; exact .inr (.inr ⟨hc.1, hc.2, (Option.some.inj h).symm⟩)
    · cases h
theorem shaped_nodict {kvs : List (PyData × PyData)} : SeqAt.shaped (.dict kvs) = false := by
  unfold SeqAt.shaped
  simp [PyData.canLay0]
theorem nodict_of {d : Dv} (h : SeqAt.shaped d = true) : ∀ kvs, d ≠ .dict kvs := fun kvs e => by
  subst e
  rw [shaped_nodict] at h
  cases h
theorem eq_d (hu : X.A.units + 64 < cLine) : OpD X (compareOp .Eq) eqqD := by
  intro pins s σ H x y v u Q I rx ry h
  obtain ⟨G, d, e, z, gh, vx, vy, hz, q⟩ := h
  obtain ⟨b, hb, rfl⟩ := Option.map_eq_some_iff.mp hz
  rcases eqD_bool hb with ⟨i, j, rfl, rfl, rfl⟩ | ⟨i, j, rfl, rfl, rfl⟩ | ⟨h1, h2, rfl⟩
  · rw [vd_int vx] at rx
    rw [vd_int vy] at ry
    refine op_eq pins s σ H _ _ v u Q I rx ry ⟨rfl, ?_⟩
    have := res_bl q
    rw [dec_int, Bool.beq_eq_decide_eq]
    exact this
  · rw [vd_str vx] at rx
    rw [vd_str vy] at ry
    refine op_eq pins s σ H _ _ v u Q I rx ry ⟨rfl, ?_⟩
    have := res_bl q
    rw [dec_str]
    rw [show (i == j) = decide (i = j) by rw [Bool.eq_iff_iff]; simp]
    exact this
  · exact op_eqD hu pins s σ H _ _ v u Q I rx ry ⟨d, e, vd_dp gh vx (nodict_of h1), vd_dp gh vy (nodict_of h2), h1, h2, res_bl q⟩
theorem ne_d (hu : X.A.units + 64 < cLine) : OpD X (compareOp .NotEq) neqD := by
  intro pins s σ H x y v u Q I rx ry h
  obtain ⟨G, d, e, z, gh, vx, vy, hz, q⟩ := h
  obtain ⟨b, hb, rfl⟩ := Option.map_eq_some_iff.mp hz
  rcases eqD_bool hb with ⟨i, j, rfl, rfl, rfl⟩ | ⟨i, j, rfl, rfl, rfl⟩ | ⟨h1, h2, rfl⟩
  · rw [vd_int vx] at rx
    rw [vd_int vy] at ry
    refine op_ne pins s σ H _ _ v u Q I rx ry ⟨rfl, ?_⟩
    have := res_bl q
    rw [dec_int, Bool.beq_eq_decide_eq]
    exact this
  · rw [vd_str vx] at rx
    rw [vd_str vy] at ry
    refine op_ne pins s σ H _ _ v u Q I rx ry ⟨rfl, ?_⟩
    have := res_bl q
    rw [dec_str]
    rw [show (i == j) = decide (i = j) by rw [Bool.eq_iff_iff]; simp]
    exact this
  · exact op_neD hu pins s σ H _ _ v u Q I rx ry ⟨d, e, vd_dp gh vx (nodict_of h1), vd_dp gh vy (nodict_of h2), h1, h2, res_bl q⟩
theorem non_vd {K : PySem.W.Frag} {G H : Hp} {d : Dv} {v : V} (h : VD K G H d v) : decide (v = .non) = isNone d := by
  cases d with
  | none => rw [vd_none h]; rfl
  | bool b => rw [vd_bool h]; rfl
  | int b => rw [vd_int h]; rfl
  | str b => rw [vd_str h]; rfl
  | list b => obtain ⟨a, vs, rfl, _⟩ := vd_list h; rfl
  | tuple b =>
    have h' : Dp K G v (.tuple b) := h
    cases h' with | tup _ _ => rfl
  | dict b =>
    rcases h with ⟨a, vs, rfl, _⟩ | ⟨a, ps, kvs', rfl, _⟩ <;> rfl
theorem isNone_eq {d : Dv} (h : isNone d = true) : d = .none := by
  cases d <;> first | rfl | cases h
theorem is_d : OpD X (compareOp .Is) isND := by
  refine op_imp op_isN fun x y H Q ⟨G, d, e, z, gh, vx, vy, hz, q⟩ => ?_
  unfold isND at hz
  split at hz
  · rename_i hn
    cases hz
    rw [isNone_eq hn] at vy
    refine ⟨vd_none vy, ?_⟩
    rw [non_vd vx]
    exact res_bl q
  · cases hz
theorem isnot_d : OpD X (compareOp .IsNot) notND := by
  refine op_imp op_notN fun x y H Q ⟨G, d, e, z, gh, vx, vy, hz, q⟩ => ?_
  unfold notND at hz
  split at hz
  · rename_i hn
    cases hz
    rw [isNone_eq hn] at vy
    refine ⟨vd_none vy, ?_⟩
    rw [non_vd vx]
    exact res_bl q
  · cases hz
/-! ### in -/
def rInT (K : PySem.W.Frag) : R2 := fun x y H Q => ∃ d ds, Dp K H x d ∧ Dp K H y (.tuple ds) ∧ SeqAt.shaped d = true ∧ SeqAt.shaped (.tuple ds) = true ∧ Q (.bl (ds.any fun z => PyData.eqv z d)) H
def rNotInT (K : PySem.W.Frag) : R2 := fun x y H Q => ∃ d ds, Dp K H x d ∧ Dp K H y (.tuple ds) ∧ SeqAt.shaped d = true ∧ SeqAt.shaped (.tuple ds) = true ∧ Q (.bl (!ds.any fun z => PyData.eqv z d)) H
theorem op_inT (hu : X.A.units + 65 < cLine) : OpR X (compareOp .In) (rInT X.K) := by
  intro pins s σ H x y v u Q I rx ry h
  obtain ⟨d, ds, hd, he, sd, se, q⟩ := h
  obtain ⟨as, r1⟩ := Dp.reads I d x v hd rx
  obtain ⟨bs, r2⟩ := Dp.reads I (.tuple ds) y u he ry
  exact SeqAt.in_tuple_reads r2 r1 (SeqAt.canLay_of_shaped se) (SeqAt.canLay_of_shaped sd) (room_in_shaped sd hu) ⟨.bl _, H, I, rfl, q⟩
theorem op_notInT (hu : X.A.units + 65 < cLine) : OpR X (compareOp .NotIn) (rNotInT X.K) := by
  intro pins s σ H x y v u Q I rx ry h
  obtain ⟨d, ds, hd, he, sd, se, q⟩ := h
  obtain ⟨as, r1⟩ := Dp.reads I d x v hd rx
  obtain ⟨bs, r2⟩ := Dp.reads I (.tuple ds) y u he ry
  exact SeqAt.notIn_tuple_reads r2 r1 (SeqAt.canLay_of_shaped se) (SeqAt.canLay_of_shaped sd) (room_in_shaped sd hu) ⟨.bl _, H, I, rfl, q⟩
theorem inSeq_inv {d e : Dv} {b : Bool} (h : inSeq d e = some b) : (∃ ds, e = .list ds ∧ SeqAt.shaped d = true ∧ SeqAt.shaped (.list ds) = true ∧ b = ds.any fun z => PyData.eqv z d) ∨ (∃ ds, e = .tuple ds ∧ SeqAt.shaped d = true ∧ SeqAt.shaped (.tuple ds) = true ∧ b = ds.any fun z => PyData.eqv z d) := by
  unfold inSeq at h
  split at h
  · split at h
    · rename_i hc; exact .inl ⟨_, rfl, hc.1, hc.2, (Option.some.inj h).symm⟩
    · cases h
  · split at h
    · rename_i hc; exact .inr ⟨_, rfl, hc.1, hc.2, (Option.some.inj h).symm⟩
    · cases h
  · cases h
theorem in_d (hu : X.A.units + 65 < cLine) : OpD X (compareOp .In) inSD := by
  intro pins s σ H x y v u Q I rx ry h
  obtain ⟨G, d, e, z, gh, vx, vy, hz, q⟩ := h
  obtain ⟨b, hb, rfl⟩ := Option.map_eq_some_iff.mp hz
  rcases inSeq_inv hb with ⟨ds, rfl, h1, h2, rfl⟩ | ⟨ds, rfl, h1, h2, rfl⟩
  · exact op_inD hu pins s σ H _ _ v u Q I rx ry ⟨d, ds, vd_dp gh vx (nodict_of h1), vd_dp gh vy (nodict_of h2), h1, h2, res_bl q⟩
  · exact op_inT hu pins s σ H _ _ v u Q I rx ry ⟨d, ds, vd_dp gh vx (nodict_of h1), vd_dp gh vy (nodict_of h2), h1, h2, res_bl q⟩
theorem nin_d (hu : X.A.units + 65 < cLine) : OpD X (compareOp .NotIn) ninSD := by
  intro pins s σ H x y v u Q I rx ry h
  obtain ⟨G, d, e, z, gh, vx, vy, hz, q⟩ := h
  obtain ⟨b, hb, rfl⟩ := Option.map_eq_some_iff.mp hz
  rcases inSeq_inv hb with ⟨ds, rfl, h1, h2, rfl⟩ | ⟨ds, rfl, h1, h2, rfl⟩
  · exact op_notInD hu pins s σ H _ _ v u Q I rx ry ⟨d, ds, vd_dp gh vx (nodict_of h1), vd_dp gh vy (nodict_of h2), h1, h2, res_bl q⟩
  · exact op_notInT hu pins s σ H _ _ v u Q I rx ry ⟨d, ds, vd_dp gh vx (nodict_of h1), vd_dp gh vy (nodict_of h2), h1, h2, res_bl q⟩
/-! ### subscripts -/
theorem atI_dp {K : PySem.W.Frag} {G : Hp} {ds : List Dv} {vs : List V} {i : Int} {d : Dv} (p : DpAll K G vs ds) (h : atI ds i = some d) : ∃ v, atI vs i = some v ∧ Dp K G v d := by
  unfold atI at h ⊢
  rw [dpAll_length p]
  obtain ⟨j, hj, hd⟩ := Option.bind_eq_some_iff.mp h
  obtain ⟨v, hv, q⟩ := dpAll_get p hd
  exact ⟨v, by rw [hj]; exact hv, q⟩
theorem ix_d : IxD X ixD := by
  intro value slice pins s σ H x y v u Q I rx ry h hs
  obtain ⟨G, d, e, z, gh, vx, vy, hz, q⟩ := h
  unfold ixD at hz
  split at hz
  · obtain ⟨d', hd', rfl⟩ := Option.map_eq_some_iff.mp hz
    obtain ⟨a, vs, rfl, h1, p1⟩ := vd_list vx
    rw [vd_int vy] at ry
    obtain ⟨w, hw, qw⟩ := atI_dp p1 hd'
    exact ix_list value slice pins s σ H _ _ v u Q I rx ry ⟨a, vs, _, w, rfl, rfl, h1, hw, res_val q qw⟩ hs
  · obtain ⟨d', hd', rfl⟩ := Option.map_eq_some_iff.mp hz
    obtain ⟨a, vs, rfl, g1, h1, p1⟩ := vd_tup gh vx
    rw [vd_int vy] at ry
    obtain ⟨w, hw, qw⟩ := atI_dp p1 hd'
    exact ix_tup value slice pins s σ H _ _ v u Q I rx ry ⟨a, vs, _, w, rfl, rfl, h1, hw, res_val q qw⟩ hs
  · split at hz
    · rename_i hc
      obtain ⟨c, hc', rfl⟩ := Option.map_eq_some_iff.mp hz
      rw [vd_str vx] at rx
      rw [vd_int vy] at ry
      exact ix_str value slice pins s σ H _ _ v u Q I rx ry ⟨_, _, c, rfl, rfl, hc, hc', res_str q⟩ hs
    · cases hz
  · cases hz
end
end DL

set_option Elab.async false
set_option linter.all false
set_option autoImplicit false
set_option maxRecDepth 100000
set_option maxHeartbeats 1000000
namespace DL
open PySem PySem.Spec PyProof.Rows L2

/-! ### argument lists, displays -/
def aNil : MA := fun ρ => some ([], ρ)
def aCons (f : M) (g : MA) : MA := fun ρ => (f ρ).bind fun x => (g x.2).bind fun y => some (x.1 :: y.1, y.2)
def shs : List Rv → Option (List Dv)
  | [] => some []
  | .sh d :: rs => (shs rs).map (d :: ·)
  | _ :: _ => none
def eTup (g : MA) : M := fun ρ => (g ρ).bind fun x => (shs x.1).bind fun ds => if ds.length ≤ sizeLine then some (.sh (.tuple ds), x.2) else none
def eLst (g : MA) : M := fun ρ => (g ρ).bind fun x => (shs x.1).bind fun ds => if ds.length ≤ sizeLine then some (.ow (.lst ds), x.2) else none
def eDct : M := fun ρ => some (.ow (.dct []), ρ)
section
variable {X : Cx} {ix : List Nat} {e a b c : Expr} {es : List Expr} {f fa fb fc : M} {g : MA} {pos : Pos}
theorem da_nil : PA X [] (TA' X.K ix aNil) := pa_imp pa_nil fun σ H Q ⟨Fr, FX, G, ρ, rs, ρ', R, hf, k⟩ => by
  cases hf
  exact k [] G H (Sub.refl _) R trivial
theorem hold_list {ta : TA} {σ : L2.St} {H : Hp} {K : PySem.W.Frag} {Fr G : Hp} {FX : Nat → Option V} {ρ ρ1 : Rho} {r : Rv} {ss : List Rv} {x : V} {R : List V → Hp → Prop}
    (R1 : RS K ix Fr FX G ρ σ H) (v1 : VOk K Fr G H ρ σ r x) (hb : g ρ = some (ss, ρ1))
    (k : ∀ ys G2 H2, Sub G G2 → RS K ix Fr FX G2 ρ1 σ H2 → VOks K Fr G2 H2 ρ1 σ (r :: ss) (x :: ys) → R ys H2) :
    TA' K ix g σ H R := by
  cases r with
  | sh d => exact ⟨Fr, FX, G, ρ, ss, ρ1, R1, hb, fun y G2 H2 su R2 v2 => k y G2 H2 su R2 ⟨dp_mono su _ _ v1, (fun o a z => nomatch z), v2⟩⟩
  | al i => exact ⟨Fr, FX, G, ρ, ss, ρ1, R1, hb, fun y G2 H2 su R2 v2 => k y G2 H2 su R2 ⟨v1, (fun o a z => nomatch z), v2⟩⟩
  | ow o =>
    obtain ⟨p, rfl, g0, f0, c, hn⟩ := v1
    obtain ⟨u, hu⟩ := c.some
    refine ⟨upd Fr p u, FX, G, ρ, ss, ρ1, R1.frame g0 hu hn, hb, fun y G2 H2 su R2 v2 => ?_⟩
    have g2 : G2 p = none := R2.gf p (by rw [upd_same]; simp)
    have h2 : H2 p = H p := (R2.fh p u upd_same).trans hu.symm
    have un : ∀ (rs : List Rv) (vs : List V), VOks K (upd Fr p u) G2 H2 ρ1 σ rs vs → VOks K Fr G2 H2 ρ1 σ rs vs ∧ ∀ (j : Nat) (o' : Ob), rs[j]? = some (.ow o') → vs[j]? ≠ some (.ref p) := by
      intro rs
      induction rs with
      | nil =>
        intro vs h
        cases vs with
        | nil => exact ⟨trivial, fun j o' e => by simp at e⟩
        | cons v vs => exact False.elim h
      | cons r rs ih =>
        intro vs h
        cases vs with
        | nil => exact False.elim h
        | cons v vs =>
          obtain ⟨h1, h2', h3⟩ := h
          obtain ⟨i1, i2⟩ := ih vs h3
          have q1 : VOk K Fr G2 H2 ρ1 σ r v ∧ ∀ o', r = .ow o' → v ≠ .ref p := by
            cases r with
            | sh d => exact ⟨h1, fun o' z => nomatch z⟩
            | al i => exact ⟨h1, fun o' z => nomatch z⟩
            | ow o' =>
              obtain ⟨q, rfl, g', f', c', hn'⟩ := h1
              have hq : q ≠ p := fun z => by subst z; rw [upd_same] at f'; cases f'
              rw [upd_ne hq] at f'
              exact ⟨⟨q, rfl, g', f', c', hn'⟩, fun o2 _ z => hq (V.ref.inj z)⟩
          refine ⟨⟨q1.1, h2', i1⟩, fun j o' e => ?_⟩
          cases j with
          | zero =>
            simp only [List.getElem?_cons_zero, Option.some.injEq] at e ⊢
            exact fun z => q1.2 o' e (Option.some.inj z)
          | succ j =>
            simp only [List.getElem?_cons_succ] at e ⊢
            exact i2 j o' e
    obtain ⟨u1, u2⟩ := un ss y v2
    refine k y G2 H2 su (R2.unframe f0) ⟨⟨p, rfl, g2, f0, c.mono su h2, fun i o' e e1 => ?_⟩, fun o1 a1 _ z j o' e => ?_, u1⟩
    · obtain ⟨a, e2, _, f2, _⟩ := R2.sl i _ e
      rw [e1] at e2
      cases e2
      rw [upd_same] at f2
      cases f2
    · cases z
      exact u2 j o' e
theorem da_cons (ha : PE X e (TE' X.K ix f)) (hr : PA X es (TA' X.K ix g)) (hs : starEach (e :: es) X.env = (false, eval e X.env) :: starEach es X.env := by rfl) : PA X (e :: es) (TA' X.K ix (aCons f g)) :=
  pa_imp (pa_cons ha hr hs) fun σ H Q ⟨Fr, FX, G, ρ, rs, ρ', R, hf, k⟩ => by
    unfold aCons at hf
    obtain ⟨⟨r1, ρ1⟩, h1, hf⟩ := Option.bind_eq_some_iff.mp hf
    obtain ⟨⟨ss, ρ2⟩, h2, hf⟩ := Option.bind_eq_some_iff.mp hf
    cases hf
    refine ⟨Fr, FX, G, ρ, r1, ρ1, R, h1, fun x G1 H1 s1 R1 v1 => ?_⟩
    exact hold_list (ta := TA' X.K ix g) R1 v1 h2 fun ys G2 H2 s2 R2 v2 => k _ G2 H2 (s1.trans s2) R2 v2
theorem shs_dp {K : PySem.W.Frag} {Fr G H : Hp} {ρ : Rho} {σ : L2.St} : ∀ {rs : List Rv} {ds : List Dv} {vs : List V}, VOks K Fr G H ρ σ rs vs → shs rs = some ds → DpAll K G vs ds
  | [], _, [], _, h => by cases h; exact .nil
  | [], _, _ :: _, h, _ => False.elim h
  | .sh d :: rs, _, [], h, _ => False.elim h
  | .sh d :: rs, _, v :: vs, ⟨h1, _, h3⟩, h => by
    obtain ⟨es, he, rfl⟩ := Option.map_eq_some_iff.mp h
    exact .cons h1 (shs_dp h3 he)
  | .ow _ :: rs, _, _, _, h => by cases h
  | .al _ :: rs, _, _, _, h => by cases h
theorem de_tup {x1} (h : PA X es (TA' X.K ix g)) : PE X (.Tuple es x1 pos) (TE' X.K ix (eTup g)) :=
  pe_imp (pe_tup h) fun σ H Q ⟨Fr, FX, G, ρ, r, ρ', R, hf, k⟩ => by
    unfold eTup at hf
    obtain ⟨⟨rs, ρ1⟩, h1, hf⟩ := Option.bind_eq_some_iff.mp hf
    obtain ⟨ds, h2, hf⟩ := Option.bind_eq_some_iff.mp hf
    simp only at hf
    split at hf
    · rename_i hc
      cases hf
      refine ⟨Fr, FX, G, ρ, rs, _, R, h1, fun vs G1 H1 s1 R1 v1 => ?_⟩
      have q := shs_dp v1 h2
      refine ⟨by rw [dpAll_length q]; exact hc, fun p hp => ?_⟩
      have s2 := sub_upd (o := HO.tup vs) (R1.none_of hp).1
      exact k (.ref p) _ _ (s1.trans s2) (R1.newG hp) (Dp.tup (.inl (.inl upd_same)) (dpAll_mono s2 _ _ q))
    · cases hf
theorem de_lst (h : PA X es (TA' X.K ix g)) : PE X (.List es pos) (TE' X.K ix (eLst g)) :=
  pe_imp (pe_lst h) fun σ H Q ⟨Fr, FX, G, ρ, r, ρ', R, hf, k⟩ => by
    unfold eLst at hf
    obtain ⟨⟨rs, ρ1⟩, h1, hf⟩ := Option.bind_eq_some_iff.mp hf
    obtain ⟨ds, h2, hf⟩ := Option.bind_eq_some_iff.mp hf
    simp only at hf
    split at hf
    · rename_i hc
      cases hf
      refine ⟨Fr, FX, G, ρ, rs, _, R, h1, fun vs G1 H1 s1 R1 v1 => ?_⟩
      have q := shs_dp v1 h2
      refine ⟨by rw [dpAll_length q]; exact hc, fun p hp => ?_⟩
      exact k (.ref p) G1 _ s1 (R1.newH hp) ⟨p, rfl, (R1.none_of hp).1, (R1.none_of hp).2, ⟨vs, upd_same, q⟩, R1.notIn hp⟩
    · cases hf
theorem de_dnew : PE X (.Dict [] [] pos) (TE' X.K ix eDct) :=
  pe_imp pe_dnewK fun σ H Q ⟨Fr, FX, G, ρ, r, ρ', R, hf, k⟩ => by
    cases hf
    intro p hp
    exact k (.ref p) G _ (Sub.refl _) (R.newH hp) ⟨p, rfl, (R.none_of hp).1, (R.none_of hp).2, ⟨[], upd_same, .nil⟩, R.notIn hp⟩

/-! ### truth, tests -/
def truD : Dv → Option Bool
  | .none => some false
  | .bool b => some b
  | .int i => some (i != 0)
  | .str y => if y.length ≤ sizeLine then some ((y.length : Int) != 0) else none
  | .list xs => some (!xs.isEmpty)
  | .tuple xs => some (!xs.isEmpty)
  | .dict xs => if plD xs = true then some (!xs.isEmpty) else none
theorem isEmpty_dp {K : PySem.W.Frag} {G : Hp} {ds : List Dv} {vs : List V} (h : DpAll K G vs ds) : vs.isEmpty = ds.isEmpty := by
  cases h <;> rfl
theorem tru_vd {K : PySem.W.Frag} {G H : Hp} {d : Dv} {v : V} {k : Bool} (gh : ∀ a o, G a = some o → H a = some o) (h : VD K G H d v) (e : truD d = some k) : TruV K v H k := by
  cases d with
  | none => rw [vd_none h]; cases e; rfl
  | bool b => rw [vd_bool h]; cases e; rfl
  | int b => rw [vd_int h]; cases e; rfl
  | str b =>
    rw [vd_str h]
    unfold truD at e
    simp only at e
    split at e
    · rename_i hc; cases e; exact ⟨hc, rfl⟩
    · cases e
  | list b =>
    obtain ⟨a, vs, rfl, h1, h2⟩ := vd_list h
    cases e
    exact .inl ⟨vs, h1, by rw [isEmpty_dp h2]⟩
  | tuple b =>
    obtain ⟨a, vs, rfl, _, h1, h2⟩ := vd_tup gh h
    cases e
    exact .inr (.inl ⟨vs, h1, by rw [isEmpty_dp h2]⟩)
  | dict b =>
    unfold truD at e
    simp only at e
    split at e
    · rename_i hp
      obtain ⟨a, vs, rfl, h1, h2⟩ := vd_dk h hp
      cases e
      exact .inr (.inr ⟨vs, h1, by cases h2 <;> rfl⟩)
    · cases e
/-- an expression as a test -/
def tV (f : M) : MB := fun ρ => (pkM f ρ).bind fun x => (dat x.2 x.1).bind fun d => (truD d).bind fun k => some (k, x.2)
def tNo (t : MB) : MB := fun ρ => (t ρ).bind fun x => some (!x.1, x.2)
def tAn (t u : MB) : MB := fun ρ => (t ρ).bind fun x => if x.1 = true then u x.2 else some (false, x.2)
def tOr' (t u : MB) : MB := fun ρ => (t ρ).bind fun x => if x.1 = true then some (true, x.2) else u x.2
def eIf (t : MB) (fa fb : M) : M := fun ρ => (t ρ).bind fun x => if x.1 = true then fa x.2 else fb x.2
def eNot (f : M) : M := fun ρ => (tV f ρ).bind fun x => some (.sh (.bool (!x.1)), x.2)
/-- x and y, x or y as values -/
def eAnd (fa fb : M) : M := fun ρ => (pkM fa ρ).bind fun x => (dat x.2 x.1).bind fun d => (truD d).bind fun k => if k = true then fb x.2 else some x
def eOr (fa fb : M) : M := fun ρ => (pkM fa ρ).bind fun x => (dat x.2 x.1).bind fun d => (truD d).bind fun k => if k = true then some x else fb x.2
variable {t u : MB}
theorem dt_truth (ha : PE X a (TE' X.K ix f)) (he : ∀ whole, isTrue a X.env whole = (do let v ← whole; standAt a.pos; holding [v] (truthy v)) := by intro _; rfl) : PT X a (TT' X.K ix (tV f)) :=
  pt_imp (pt_truth (de_pk ha) he) fun σ H Q ⟨Fr, FX, G, ρ, r, ρ', R, hf, k⟩ => by
    unfold tV at hf
    obtain ⟨⟨r1, ρ1⟩, h1, hf⟩ := Option.bind_eq_some_iff.mp hf
    obtain ⟨d, h2, hf⟩ := Option.bind_eq_some_iff.mp hf
    obtain ⟨kk, h3, hf⟩ := Option.bind_eq_some_iff.mp hf
    cases hf
    refine ⟨Fr, FX, G, ρ, r1, _, R, h1, fun x G1 H1 s1 R1 v1 => ?_⟩
    exact ⟨_, tru_vd R1.gh (dat_vd R1 v1 h2) h3, k G1 H1 s1 R1⟩
/-- an expression that is a truth, as a test -/
def tB (f : M) : MB := fun ρ => (f ρ).bind fun x => match x.1 with
  | .sh (.bool k) => some (k, x.2)
  | _ => none
theorem tB_inv {f : M} {ρ ρ' : Rho} {b : Bool} (h : tB f ρ = some (b, ρ')) : f ρ = some (.sh (.bool b), ρ') := by
  unfold tB at h
  obtain ⟨⟨r, ρ1⟩, h1, h⟩ := Option.bind_eq_some_iff.mp h
  simp only at h
  split at h
  · cases h; exact h1
  · cases h
theorem tb_ok {σ : L2.St} {H : Hp} {Q : Bool → Hp → Prop} (h : TT' X.K ix (tB f) σ H Q) : TE' X.K ix f σ H fun x H' => ∃ k, x = .bl k ∧ Q k H' := by
  obtain ⟨Fr, FX, G, ρ, r, ρ', R, hf, k⟩ := h
  refine ⟨Fr, FX, G, ρ, _, _, R, tB_inv hf, fun v G1 H1 s1 R1 v1 => ?_⟩
  have v1' : Dp X.K G1 v (.bool r) := v1
  cases v1'
  exact ⟨r, rfl, k G1 H1 s1 R1⟩
theorem dt_cmp {op : CmpOp} {g : Dv → Dv → Option Rz} (ho : OpD X (compareOp op) g) (ha : PE X a (TE' X.K ix fa)) (hb : PE X b (TE' X.K ix fb)) (hm : behindInMarks op b = false := by first | exact nomark _ | rfl) :
    PT X (.Compare a [op] [b] pos) (TT' X.K ix (tB (binS g fa fb))) :=
  pt_imp (pt_cmpR ho (de_pk ha) (de_pk hb) hm) fun σ H Q h => bin_ok (tb_ok h) fun _ _ _ q => q
theorem dt_not (h : PT X a (TT' X.K ix t)) : PT X (.UnaryOp .Not a pos) (TT' X.K ix (tNo t)) :=
  pt_imp (pt_not h) fun σ H Q ⟨Fr, FX, G, ρ, r, ρ', R, hf, k⟩ => by
    unfold tNo at hf
    obtain ⟨⟨b1, ρ1⟩, h1, hf⟩ := Option.bind_eq_some_iff.mp hf
    cases hf
    exact ⟨Fr, FX, G, ρ, b1, _, R, h1, fun G1 H1 s1 R1 => k G1 H1 s1 R1⟩
variable {rest : List Expr}
theorem dw_and1 (h : PT X a (TT' X.K ix t)) : PW X (.BoolOp .And [a] pos) (TT' X.K ix t) := pw_and1 h
theorem dw_or1 (h : PT X a (TT' X.K ix t)) : PW X (.BoolOp .Or [a] pos) (TT' X.K ix t) := pw_or1 h
theorem dw_and (ha : PT X a (TT' X.K ix t)) (hb : PW X (.BoolOp .And (b :: rest) pos) (TT' X.K ix u)) : PW X (.BoolOp .And (a :: b :: rest) pos) (TT' X.K ix (tAn t u)) :=
  pw_imp (pw_and ha hb) fun σ H Q ⟨Fr, FX, G, ρ, r, ρ', R, hf, k⟩ => by
    unfold tAn at hf
    obtain ⟨⟨b1, ρ1⟩, h1, hf⟩ := Option.bind_eq_some_iff.mp hf
    refine ⟨Fr, FX, G, ρ, b1, ρ1, R, h1, fun G1 H1 s1 R1 => ?_⟩
    cases b1 with
    | true => exact ⟨Fr, FX, G1, ρ1, r, ρ', R1, hf, fun G2 H2 s2 R2 => k G2 H2 (s1.trans s2) R2⟩
    | false => cases hf; exact k G1 H1 s1 R1
theorem dw_or (ha : PT X a (TT' X.K ix t)) (hb : PW X (.BoolOp .Or (b :: rest) pos) (TT' X.K ix u)) : PW X (.BoolOp .Or (a :: b :: rest) pos) (TT' X.K ix (tOr' t u)) :=
  pw_imp (pw_or ha hb) fun σ H Q ⟨Fr, FX, G, ρ, r, ρ', R, hf, k⟩ => by
    unfold tOr' at hf
    obtain ⟨⟨b1, ρ1⟩, h1, hf⟩ := Option.bind_eq_some_iff.mp hf
    refine ⟨Fr, FX, G, ρ, b1, ρ1, R, h1, fun G1 H1 s1 R1 => ?_⟩
    cases b1 with
    | false => exact ⟨Fr, FX, G1, ρ1, r, ρ', R1, hf, fun G2 H2 s2 R2 => k G2 H2 (s1.trans s2) R2⟩
    | true => cases hf; exact k G1 H1 s1 R1
theorem de_ifExp (hc : PT X c (TT' X.K ix t)) (ha : PE X a (TE' X.K ix fa)) (hb : PE X b (TE' X.K ix fb)) : PE X (.IfExp c a b pos) (TE' X.K ix (eIf t fa fb)) :=
  pe_imp (pe_ifExp hc ha hb) fun σ H Q ⟨Fr, FX, G, ρ, r, ρ', R, hf, k⟩ => by
    unfold eIf at hf
    obtain ⟨⟨b1, ρ1⟩, h1, hf⟩ := Option.bind_eq_some_iff.mp hf
    refine ⟨Fr, FX, G, ρ, b1, ρ1, R, h1, fun G1 H1 s1 R1 => ?_⟩
    cases b1 with
    | true => exact ⟨Fr, FX, G1, ρ1, r, ρ', R1, hf, fun v G2 H2 s2 R2 => k v G2 H2 (s1.trans s2) R2⟩
    | false => exact ⟨Fr, FX, G1, ρ1, r, ρ', R1, hf, fun v G2 H2 s2 R2 => k v G2 H2 (s1.trans s2) R2⟩
theorem de_not (ha : PE X a (TE' X.K ix f)) : PE X (.UnaryOp .Not a pos) (TE' X.K ix (eNot f)) :=
  pe_imp (pe_notT (de_pk ha)) fun σ H Q ⟨Fr, FX, G, ρ, r, ρ', R, hf, k⟩ => by
    unfold eNot tV at hf
    obtain ⟨⟨b1, ρ1⟩, h0, hf⟩ := Option.bind_eq_some_iff.mp hf
    cases hf
    obtain ⟨⟨r1, ρ2⟩, h1, h0⟩ := Option.bind_eq_some_iff.mp h0
    obtain ⟨d, h2, h0⟩ := Option.bind_eq_some_iff.mp h0
    obtain ⟨kk, h3, h0⟩ := Option.bind_eq_some_iff.mp h0
    cases h0
    refine ⟨Fr, FX, G, ρ, r1, _, R, h1, fun x G1 H1 s1 R1 v1 => ?_⟩
    exact ⟨_, tru_vd R1.gh (dat_vd R1 v1 h2) h3, k _ G1 H1 s1 R1 (.bl _)⟩
theorem de_one {op} (h : PE X a (TE' X.K ix f)) : PE X (.BoolOp op [a] pos) (TE' X.K ix f) := pe_one h
theorem de_and (ha : PE X a (TE' X.K ix fa)) (hb : PE X (.BoolOp .And (b :: rest) pos) (TE' X.K ix fb)) : PE X (.BoolOp .And (a :: b :: rest) pos) (TE' X.K ix (eAnd fa fb)) :=
  pe_imp (pe_andT (de_pk ha) hb) fun σ H Q ⟨Fr, FX, G, ρ, r, ρ', R, hf, k⟩ => by
    unfold eAnd at hf
    obtain ⟨⟨r1, ρ1⟩, h1, hf⟩ := Option.bind_eq_some_iff.mp hf
    obtain ⟨d, h2, hf⟩ := Option.bind_eq_some_iff.mp hf
    obtain ⟨kk, h3, hf⟩ := Option.bind_eq_some_iff.mp hf
    refine ⟨Fr, FX, G, ρ, r1, ρ1, R, h1, fun x G1 H1 s1 R1 v1 => ⟨kk, tru_vd R1.gh (dat_vd R1 v1 h2) h3, ?_⟩⟩
    cases kk with
    | true => exact ⟨Fr, FX, G1, ρ1, r, ρ', R1, hf, fun v G2 H2 s2 R2 => k v G2 H2 (s1.trans s2) R2⟩
    | false => cases hf; exact k x G1 H1 s1 R1 v1
theorem de_or (ha : PE X a (TE' X.K ix fa)) (hb : PE X (.BoolOp .Or (b :: rest) pos) (TE' X.K ix fb)) : PE X (.BoolOp .Or (a :: b :: rest) pos) (TE' X.K ix (eOr fa fb)) :=
  pe_imp (pe_orT (de_pk ha) hb) fun σ H Q ⟨Fr, FX, G, ρ, r, ρ', R, hf, k⟩ => by
    unfold eOr at hf
    obtain ⟨⟨r1, ρ1⟩, h1, hf⟩ := Option.bind_eq_some_iff.mp hf
    obtain ⟨d, h2, hf⟩ := Option.bind_eq_some_iff.mp hf
    obtain ⟨kk, h3, hf⟩ := Option.bind_eq_some_iff.mp hf
    refine ⟨Fr, FX, G, ρ, r1, ρ1, R, h1, fun x G1 H1 s1 R1 v1 => ⟨kk, tru_vd R1.gh (dat_vd R1 v1 h2) h3, ?_⟩⟩
    cases kk with
    | false => exact ⟨Fr, FX, G1, ρ1, r, ρ', R1, hf, fun v G2 H2 s2 R2 => k v G2 H2 (s1.trans s2) R2⟩
    | true => cases hf; exact k x G1 H1 s1 R1 v1
/-! ### chains: a < b < c -/
def eChain (g g' : Dv → Dv → Option Rz) (fa fb fc : M) : M := fun ρ => (pkM fa ρ).bind fun x => (pkM fb x.2).bind fun y => match y.1 with
  | .sh e => (dat y.2 x.1).bind fun d => (g d e).bind fun r => (match r with
    | .sh (.bool true) => (pkM fc y.2).bind fun z => (dat z.2 z.1).bind fun e2 => (g' e e2).bind fun r' => some (r'.rv, z.2)
    | .sh (.bool false) => some (.sh (.bool false), y.2)
    | _ => none)
  | _ => none
theorem chain_ok {g g' : Dv → Dv → Option Rz} {σ : L2.St} {H : Hp} {Q : VK} (h : TE' X.K ix (eChain g g' fa fb fc) σ H Q) :
    tChain (R2d X.K g) (R2d X.K g') (TE' X.K ix (pkM fa)) (TE' X.K ix (pkM fb)) (TE' X.K ix (pkM fc)) σ H Q := by
  obtain ⟨Fr, FX, G, ρ, r, ρ', R, hf, kk⟩ := h
  unfold eChain at hf
  obtain ⟨⟨r1, ρ1⟩, h1, hf⟩ := Option.bind_eq_some_iff.mp hf
  obtain ⟨⟨r2, ρ2⟩, h2, hf⟩ := Option.bind_eq_some_iff.mp hf
  cases r2 with
  | ow o => cases hf
  | al i => cases hf
  | sh e =>
  simp only at hf
  obtain ⟨d, h3, hf⟩ := Option.bind_eq_some_iff.mp hf
  obtain ⟨rr, h5, hf⟩ := Option.bind_eq_some_iff.mp hf
  refine ⟨Fr, FX, G, ρ, r1, ρ1, R, h1, fun x G1 H1 s1 R1 v1 => ?_⟩
  refine hold2 (tb := TE' X.K ix (pkM fb)) R1 v1 h2 fun y G2 H2 s2 R2 w1 w2 _ => ?_
  refine ⟨G2, d, e, rr, R2.gh, dat_vd R2 w1 h3, dp_vd R2.gh w2, h5, ?_⟩
  split at hf
  · obtain ⟨⟨r3, ρ3⟩, h6, hf⟩ := Option.bind_eq_some_iff.mp hf
    obtain ⟨e2, h8, hf⟩ := Option.bind_eq_some_iff.mp hf
    obtain ⟨r', h9, hf⟩ := Option.bind_eq_some_iff.mp hf
    cases hf
    refine res_ok R2 fun v G3 H3 s3 R3 v3 => ?_
    have v3' : Dp X.K G3 v (.bool true) := v3
    cases v3'
    refine ⟨true, rfl, ?_⟩
    rw [if_pos rfl]
    refine ⟨Fr, FX, G3, ρ2, r3, _, R3, h6, fun z G4 H4 s4 R4 u2 => ?_⟩
    exact ⟨G4, e, e2, r', R4.gh, dp_vd R4.gh (dp_mono (s3.trans s4) _ _ w2), dat_vd R4 u2 h8, h9, res_ok R4 fun v G' H' s5 R5 v5 => kk v G' H' ((((s1.trans s2).trans s3).trans s4).trans s5) R5 v5⟩
  · cases hf
    refine res_ok R2 fun v G3 H3 s3 R3 v3 => ?_
    have v3' : Dp X.K G3 v (.bool false) := v3
    cases v3'
    refine ⟨false, rfl, ?_⟩
    rw [if_neg Bool.false_ne_true]
    exact kk _ G3 H3 ((s1.trans s2).trans s3) R3 (.bl false)
  · cases hf
theorem de_chain {op op' : CmpOp} {g g' : Dv → Dv → Option Rz} (ho : OpD X (compareOp op) g) (ho' : OpD X (compareOp op') g') (ha : PE X a (TE' X.K ix fa)) (hb : PE X b (TE' X.K ix fb)) (hc : PE X c (TE' X.K ix fc))
    (hm : lastMarks [op, op'] [b, c] = false := by with_unfolding_all rfl) : PE X (.Compare a [op, op'] [b, c] pos) (TE' X.K ix (eChain g g' fa fb fc)) :=
  pe_imp (pe_chain ho ho' (de_pk ha) (de_pk hb) (de_pk hc) hm) fun _ _ _ h => chain_ok h
theorem dt_chain {op op' : CmpOp} {g g' : Dv → Dv → Option Rz} (ho : OpD X (compareOp op) g) (ho' : OpD X (compareOp op') g') (ha : PE X a (TE' X.K ix fa)) (hb : PE X b (TE' X.K ix fb)) (hc : PE X c (TE' X.K ix fc))
    (hm : lastMarks [op, op'] [b, c] = false := by with_unfolding_all rfl) : PT X (.Compare a [op, op'] [b, c] pos) (TT' X.K ix (tB (eChain g g' fa fb fc))) :=
  pt_imp (pt_chain ho ho' (de_pk ha) (de_pk hb) (de_pk hc) hm) fun _ _ _ h => chain_ok (tb_ok h)
end
end DL

set_option Elab.async false
set_option linter.all false
set_option autoImplicit false
set_option maxRecDepth 100000
set_option maxHeartbeats 1000000
namespace DL
open PySem PySem.Spec PyProof.Rows L2

/-! ### calls of built-ins by data -/
def dats (ρ : Rho) : List Rv → Option (List Dv)
  | [] => some []
  | r :: rs => (dat ρ r).bind fun d => (dats ρ rs).bind fun ds => some (d :: ds)
def eCall (g : List Dv → Option Rz) (fa : MA) : M := fun ρ => (fa ρ).bind fun x => (dats x.2 x.1).bind fun ds => (g ds).bind fun r => some (r.rv, x.2)
section
variable {X : Cx} {ix : List Nat} {e a b c : Expr} {es : List Expr} {f fa fb fc : M} {ga : MA} {pos p : Pos}
theorem dats_vd {K : PySem.W.Frag} {Fr G H : Hp} {FX : Nat → Option V} {ρ : Rho} {σ : L2.St} (R : RS K ix Fr FX G ρ σ H) : ∀ {rs : List Rv} {ds : List Dv} {vs : List V}, VOks K Fr G H ρ σ rs vs → dats ρ rs = some ds → VDs K G H ds vs
  | [], _, [], _, h => by cases h; exact .nil
  | [], _, _ :: _, h, _ => False.elim h
  | _ :: _, _, [], h, _ => False.elim h
  | r :: rs, _, v :: vs, ⟨h1, _, h3⟩, h => by
    obtain ⟨d, h4, h⟩ := Option.bind_eq_some_iff.mp h
    obtain ⟨ds, h5, h⟩ := Option.bind_eq_some_iff.mp h
    cases h
    exact .cons (dat_vd R h1 h4) (dats_vd R h3 h5)
theorem call_ok {g : List Dv → Option Rz} {σ : L2.St} {H : Hp} {Q : VK} (h : TE' X.K ix (eCall g ga) σ H Q) : tCB (RCd X.K g) (TA' X.K ix ga) σ H Q := by
  obtain ⟨Fr, FX, G, ρ, r, ρ', R, hf, k⟩ := h
  unfold eCall at hf
  obtain ⟨⟨rs, ρ1⟩, h1, hf⟩ := Option.bind_eq_some_iff.mp hf
  obtain ⟨ds, h2, hf⟩ := Option.bind_eq_some_iff.mp hf
  obtain ⟨rr, h3, hf⟩ := Option.bind_eq_some_iff.mp hf
  cases hf
  refine ⟨Fr, FX, G, ρ, rs, _, R, h1, fun vs G1 H1 s1 R1 v1 => ?_⟩
  exact ⟨G1, ds, rr, R1.gh, dats_vd R1 v1 h2, h3, res_ok R1 fun v G' H' s2 R2 v2 => k v G' H' (s1.trans s2) R2 v2⟩
theorem de_callB {id : String} {x : Str} {g : List Dv → Option Rz} (hc : CallD X (.builtin id) g) (hg : Gl X x) (hm : X.mg x = none) (hv : bootBuiltins x = some (.builtin id)) (ha : PA X (e :: es) (TA' X.K ix ga)) (hn : x ≠ "__name__" := by decide) (hdb : (x == ("__debug__" : Str)) = false := by decide)
    (he : starEach (e :: es) X.env = (false, eval e X.env) :: starEach es X.env := by rfl) (hpl : (backTo pos (starEach es X.env)).any (·.1) = false := by rfl) : PE X (.Call (.Name x p) (e :: es) [] pos) (TE' X.K ix (eCall g ga)) :=
  pe_imp (pe_callB hc hg hm hv ha hn hdb he hpl) fun _ _ _ h => call_ok h
theorem de_callTy {T : String} {x : Str} {g : List Dv → Option Rz} (hc : CallD X (.type T) g) (hg : Gl X x) (hm : X.mg x = none) (hv : bootBuiltins x = some (.type T)) (ha : PA X (e :: es) (TA' X.K ix ga)) (hn : x ≠ "__name__" := by decide) (hdb : (x == ("__debug__" : Str)) = false := by decide)
    (he : starEach (e :: es) X.env = (false, eval e X.env) :: starEach es X.env := by rfl) (hpl : (backTo pos (starEach es X.env)).any (·.1) = false := by rfl) : PE X (.Call (.Name x p) (e :: es) [] pos) (TE' X.K ix (eCall g ga)) :=
  pe_imp (pe_callTy hc hg hm hv ha hn hdb he hpl) fun _ _ _ h => call_ok h
theorem vds1 {K : PySem.W.Frag} {G H : Hp} {d : Dv} {xs : List V} (h : VDs K G H [d] xs) : ∃ v, xs = [v] ∧ VD K G H d v := by
  cases h with | cons h1 h2 => cases h2; exact ⟨_, rfl, h1⟩
theorem vds2 {K : PySem.W.Frag} {G H : Hp} {d d' : Dv} {xs : List V} (h : VDs K G H [d, d'] xs) : ∃ v v', xs = [v, v'] ∧ VD K G H d v ∧ VD K G H d' v' := by
  cases h with | cons h1 h2 => cases h2 with | cons h3 h4 => cases h4; exact ⟨_, _, rfl, h1, h3⟩
/-! abs, int, len, min, max of two -/
def absG : List Dv → Option Rz
  | [.int i] => some (.sh (.int (if i < 0 then -i else i)))
  | _ => none
def intG : List Dv → Option Rz
  | [.int i] => some (.sh (.int i))
  | [.bool k] => some (.sh (.int (if k then 1 else 0)))
  | _ => none
def lenG : List Dv → Option Rz
  | [.list ds] => some (.sh (.int ds.length))
  | [.tuple ds] => some (.sh (.int ds.length))
  | [.str z] => if z.length ≤ sizeLine then some (.sh (.int z.length)) else none
  | [.dict ds] => if plD ds = true then some (.sh (.int ds.length)) else none
  | _ => none
def max2G : List Dv → Option Rz
  | [.int i, .int j] => some (.sh (.int (if j > i then j else i)))
  | _ => none
def min2G : List Dv → Option Rz
  | [.int i, .int j] => some (.sh (.int (if j < i then j else i)))
  | _ => none
def tupleG : List Dv → Option Rz
  | [.list ds] => some (.sh (.tuple ds))
  | [.tuple ds] => some (.sh (.tuple ds))
  | _ => none
def listG : List Dv → Option Rz
  | [.list ds] => some (.ow (.lst ds))
  | [.tuple ds] => some (.ow (.lst ds))
  | _ => none
theorem abs_d : CallD X (.builtin "abs") absG := by
  intro pins s σ H xs us Q I r h
  obtain ⟨G, ds, z, gh, vd, hz, q⟩ := h
  unfold absG at hz
  split at hz
  · cases hz
    obtain ⟨v, rfl, h1⟩ := vds1 vd
    rw [vd_int h1] at r
    exact call_abs pins s σ H _ us Q I r ⟨_, rfl, res_int q⟩
  · cases hz
theorem int_d : CallD X (.type "int") intG := by
  intro pins s σ H xs us Q I r h
  obtain ⟨G, ds, z, gh, vd, hz, q⟩ := h
  unfold intG at hz
  split at hz
  · cases hz
    obtain ⟨v, rfl, h1⟩ := vds1 vd
    rw [vd_int h1] at r
    exact call_int1 pins s σ H _ us Q I r (.inl ⟨_, rfl, res_int q⟩)
  · cases hz
    obtain ⟨v, rfl, h1⟩ := vds1 vd
    rw [vd_bool h1] at r
    exact call_int1 pins s σ H _ us Q I r (.inr ⟨_, rfl, res_int q⟩)
  · cases hz
theorem dkv_length {K : PySem.W.Frag} {G : Hp} : ∀ {ks : List (Key × V)} {kvs : List (Dv × Dv)}, DKV K G ks kvs → ks.length = kvs.length
  | _, _, .nil => rfl
  | _, _, .cons _ t => by simp [dkv_length t]
theorem len_d : CallD X (.builtin "len") lenG := by
  intro pins s σ H xs us Q I r h
  obtain ⟨G, ds, z, gh, vd, hz, q⟩ := h
  unfold lenG at hz
  split at hz
  · cases hz
    obtain ⟨v, rfl, h1⟩ := vds1 vd
    obtain ⟨a, vs, rfl, h2, p1⟩ := vd_list h1
    have l1 := dpAll_length p1
    rw [← l1] at q
    exact call_len_seq pins s σ H _ us Q I r ⟨a, vs, rfl, .inl h2, res_int q⟩
  · cases hz
    obtain ⟨v, rfl, h1⟩ := vds1 vd
    obtain ⟨a, vs, rfl, _, h2, p1⟩ := vd_tup gh h1
    have l1 := dpAll_length p1
    rw [← l1] at q
    exact call_len_seq pins s σ H _ us Q I r ⟨a, vs, rfl, .inr h2, res_int q⟩
  · split at hz
    · rename_i hc
      cases hz
      obtain ⟨v, rfl, h1⟩ := vds1 vd
      rw [vd_str h1] at r
      exact call_len_str pins s σ H _ us Q I r ⟨_, rfl, hc, res_int q⟩
    · cases hz
  · split at hz
    · rename_i hp
      cases hz
      obtain ⟨v, rfl, h1⟩ := vds1 vd
      obtain ⟨a, ks, rfl, h2, p1⟩ := vd_dk h1 hp
      rw [← dkv_length p1] at q
      exact call_lenD pins s σ H _ us Q I r ⟨a, ks, rfl, h2, res_int q⟩
    · cases hz
  · cases hz
theorem max2_d (hc : X.calm = true) : CallD X (.builtin "max") max2G := by
  intro pins s σ H xs us Q I r h
  obtain ⟨G, ds, z, gh, vd, hz, q⟩ := h
  unfold max2G at hz
  split at hz
  · cases hz
    obtain ⟨v, v', rfl, h1, h2⟩ := vds2 vd
    rw [vd_int h1, vd_int h2] at r
    exact call_max2 hc pins s σ H _ us Q I r ⟨_, _, rfl, res_int q⟩
  · cases hz
theorem min2_d (hc : X.calm = true) : CallD X (.builtin "min") min2G := by
  intro pins s σ H xs us Q I r h
  obtain ⟨G, ds, z, gh, vd, hz, q⟩ := h
  unfold min2G at hz
  split at hz
  · cases hz
    obtain ⟨v, v', rfl, h1, h2⟩ := vds2 vd
    rw [vd_int h1, vd_int h2] at r
    exact call_min2 hc pins s σ H _ us Q I r ⟨_, _, rfl, res_int q⟩
  · cases hz
theorem tuple_d : CallD X (.type "tuple") tupleG := by
  intro pins s σ H xs us Q I r h
  obtain ⟨G, ds, z, gh, vd, hz, q⟩ := h
  unfold tupleG at hz
  split at hz
  · cases hz
    obtain ⟨v, rfl, h1⟩ := vds1 vd
    obtain ⟨a, vs, rfl, h2, p1⟩ := vd_list h1
    exact call_tuple_of pins s σ H _ us Q I r ⟨a, vs, rfl, .inl ⟨h2, fun l hl => res_tup q (g_none gh hl) hl p1⟩⟩
  · cases hz
    obtain ⟨v, rfl, h1⟩ := vds1 vd
    obtain ⟨a, vs, rfl, g1, h2, p1⟩ := vd_tup gh h1
    exact call_tuple_of pins s σ H _ us Q I r ⟨a, vs, rfl, .inr ⟨h2, res_val q (.tup g1 p1)⟩⟩
  · cases hz
theorem list_d : CallD X (.type "list") listG := by
  intro pins s σ H xs us Q I r h
  obtain ⟨G, ds, z, gh, vd, hz, q⟩ := h
  unfold listG at hz
  split at hz
  · cases hz
    obtain ⟨v, rfl, h1⟩ := vds1 vd
    obtain ⟨a, vs, rfl, h2, p1⟩ := vd_list h1
    exact call_list_of pins s σ H _ us Q I r ⟨a, vs, rfl, .inl h2, fun l hl => res_lst q hl p1⟩
  · cases hz
    obtain ⟨v, rfl, h1⟩ := vds1 vd
    obtain ⟨a, vs, rfl, g1, h2, p1⟩ := vd_tup gh h1
    exact call_list_of pins s σ H _ us Q I r ⟨a, vs, rfl, .inr h2, fun l hl => res_lst q hl p1⟩
  · cases hz
/-! min, max of data -/
def okAl (ds : List Dv) : Bool := (ds.all fun d => ds.all fun e => PySem.W.alike d e) && (ds.all fun d => !isNone d) && decide (PyData.depthAll ds ≤ 64)
theorem okAl_all {ds : List Dv} (h : okAl ds = true) : PySem.W.AlikeAll ds ∧ PyData.depthAll ds ≤ 64 := by
  unfold okAl at h
  simp only [Bool.and_eq_true, List.all_eq_true, decide_eq_true_eq] at h
  obtain ⟨⟨h1, h2⟩, h3⟩ := h
  refine ⟨⟨fun x hx y hy => h1 x hx y hy, fun x hx e => ?_⟩, h3⟩
  have := h2 x hx
  subst e
  cases this
def minG : List Dv → Option Rz
  | [.list (x :: xs)] => if okAl (x :: xs) = true then some (.sh (PySem.W.minD x xs)) else none
  | [.tuple (x :: xs)] => if okAl (x :: xs) = true then some (.sh (PySem.W.minD x xs)) else none
  | _ => none
def maxG : List Dv → Option Rz
  | [.list (x :: xs)] => if okAl (x :: xs) = true then some (.sh (PySem.W.maxD x xs)) else none
  | [.tuple (x :: xs)] => if okAl (x :: xs) = true then some (.sh (PySem.W.maxD x xs)) else none
  | _ => none
section
open PySem.W
variable {prog : Program} {w : World} {A : Around} {E : Value → Shared → Prop} {s : Shared}
theorem best_at {f : PyData → PyData → Bool} {x : PyData} {xs : List PyData} {n : Nat} (hn : n = xs.length + 1) :
    (x :: xs)[argBest (fun i j => f ((x :: xs).getD i PyData.none) ((x :: xs).getD j PyData.none)) (n - 1)]? = some (xs.foldl (fun a y => if f y a then y else a) x) := by
  subst hn
  obtain ⟨h1, h2⟩ := argBest_fold f PyData.none x xs xs.length (Nat.le_refl _)
  rw [List.take_length] at h2
  rw [← h2, Nat.add_sub_cancel]
  have hl : argBest (fun i j => f ((x :: xs).getD i PyData.none) ((x :: xs).getD j PyData.none)) xs.length < (x :: xs).length := by
    rw [List.length_cons]; omega
  rw [List.getD_eq_getElem?_getD, List.getElem?_eq_getElem hl]
  rfl
/-- l walks the values vs, one after the other -/
def Walker (prog : Program) (w : World) (A : Around) (s : Shared) (l : Addr) (vs : Array Value) : Prop := ∀ {Q E : Value → Shared → Prop},
  (∀ (s₂ : Shared) (o : Obj) (St : Nat → Shared → Prop), s₂ = { s with heap := s.heap.push o } → WalksS prog w A s.heap.objs.size [s.heap.objs.size, l] [s.heap.objs.size] (fun a b => b = a) vs.size (fun i v => vs[i]? = some v) St → St 0 s₂ →
    (∀ b ∈ [s.heap.objs.size, l], b < s₂.heap.objs.size) → (∀ b o, s.heap.get? b = some o → b ∉ [s.heap.objs.size]) → (∀ b o, s.heap.get? b = some o → s₂.heap.get? b = some o) → Q (.ref s.heap.objs.size) s₂) →
  wpAny (model prog w) A (pyIter (.ref l)) Q E s
theorem rows_list {l : Addr} {vs : Array Value} (hh : A.handled = none) (hl : s.heap.IsList l vs) : Walker prog w A s l vs := fun k => iter_listW hh hl fun s₂ e W st a b c => k s₂ _ _ e W st a b c
theorem rows_tuple {l : Addr} {vs : Array Value} (hh : A.handled = none) (hl : s.heap.IsTuple l vs) : Walker prog w A s l vs := fun k => iter_tupleW hh hl fun s₂ e W st a b c => k s₂ _ _ e W st a b c
/-- the call of id picks what m names -/
def Picks (prog : Program) (w : World) (A : Around) (E : Value → Shared → Prop) (id : String) (m : PyData → List PyData → PyData) : Prop :=
  ∀ {s : Shared} {l : Addr} {vs : Array Value} {x : PyData} {xs : List PyData} {as : List Addr} {Q : Value → Shared → Prop}, Walker prog w A.in1 s l vs → ReadsAll s.heap vs.toList (x :: xs) as → AlikeAll (x :: xs) → A.units + 1 + PyData.depthAll (x :: xs) < cLine →
    (∀ (i : Nat) v h' tk, vs[i]? = some v → (x :: xs)[i]? = some (m x xs) → (∀ b o, s.heap.get? b = some o → h'.get? b = some o) → Q v { s with heap := h', toks := tk }) → wpAny (model prog w) A (call (.builtin id) [.ref l]) Q E s
theorem min_picks : Picks prog w A E "min" minD := fun {s l vs x xs as Q} rw_ hr ha hu k => call_min_walkH (rw_ fun s₂ o St e W st lo nw kp => ⟨_, _, _, _, vs.size, _, _, _, _, rfl, W, st, lo, (by rw [readsAll_len hr]; exact Nat.succ_pos _), nw, kp, cmpIn_lt (A := A.in1) hr ha hu, fun v s' hP m => by
  obtain ⟨h', tk, rfl, old⟩ := moved_old e rfl m
  exact k _ v h' tk hP (best_at (readsAll_len hr)) old⟩)
theorem max_picks : Picks prog w A E "max" maxD := fun {s l vs x xs as Q} rw_ hr ha hu k => call_max_walkH (rw_ fun s₂ o St e W st lo nw kp => ⟨_, _, _, _, vs.size, _, _, _, _, rfl, W, st, lo, (by rw [readsAll_len hr]; exact Nat.succ_pos _), nw, kp, cmpIn_gt (A := A.in1) hr ha hu, fun v s' hP m => by
  obtain ⟨h', tk, rfl, old⟩ := moved_old e rfl m
  exact k _ v h' tk hP (best_at (f := fun y a => dataLt a y) (readsAll_len hr)) old⟩)
end
theorem vals_get' {xs : List V} {us : List Value} (h : Vals xs us) : ∀ {i : Nat} {u : Value}, us[i]? = some u → ∃ x, xs[i]? = some x ∧ RelV x u := by
  induction h with
  | nil => intro i u e; simp at e
  | @cons a b l l' r t ih =>
    intro i u e
    cases i with
    | zero => simp at e; subst e; exact ⟨_, rfl, r⟩
    | succ i =>
      simp at e
      obtain ⟨x, h1, h2⟩ := ih e
      exact ⟨x, by simpa using h1, h2⟩
/-- one argument, a list or a tuple: the call gives one of its items -/
theorem pick_d {id : String} {g : List Dv → Option Rz} {m : PyData → List PyData → PyData} (hc : X.calm = true) (hh : X.A.handled = none) (hu : X.A.units + 200 < cLine)
    (gi : ∀ ds z, g ds = some z → ∃ x xs, (ds = [.list (x :: xs)] ∨ ds = [.tuple (x :: xs)]) ∧ okAl (x :: xs) = true ∧ z = .sh (m x xs))
    (hp : Picks X.prog X.w X.A X.xe id m) :
    CallD X (.builtin id) g := by
  intro pins s σ H xs us Q I r h
  obtain ⟨G, ds, z, gh, vd, hz, q⟩ := h
  obtain ⟨y, ys, hd, hok, rfl⟩ := gi ds z hz
  obtain ⟨hal, hdep⟩ := okAl_all hok
  have fin : ∀ {vs : List V} {its : List Value} {i : Nat} {v : Value} {h' : Heap} {tk : Nat}, DpAll X.K G vs (y :: ys) → Vals vs its → its[i]? = some v → (y :: ys)[i]? = some (m y ys) → (∀ b o, s.heap.get? b = some o → h'.get? b = some o) → EP X pins σ Q v { s with heap := h', toks := tk } := by
    intro vs its i v h' tk p1 rv hv hi hk
    obtain ⟨w1, hw1, rw1⟩ := vals_get' rv hv
    obtain ⟨w2, hw2, d2⟩ := dpAll_get p1 hi
    rw [hw1] at hw2
    cases hw2
    exact ⟨w1, H, I.kept (t' := tk) hk, rw1, res_val q d2⟩
  rcases hd with rfl | rfl
  · obtain ⟨v, rfl, h1⟩ := vds1 vd
    obtain ⟨a, vs, rfl, h2, p1⟩ := vd_list h1
    rw [Vals.ref1 r]
    obtain ⟨its, rv, pl, hz'⟩ := I.list h2
    obtain ⟨as, hr⟩ := Dp.readsAll I (y :: ys) vs its (dpAll_mono (sub_le gh) _ _ p1) rv
    exact hp (rows_list (by simp [hh]) pl.isList) hr hal (by omega) fun i v h' tk hv hi hk => fin p1 rv (by simpa using hv) hi hk
  · obtain ⟨v, rfl, h1⟩ := vds1 vd
    obtain ⟨a, vs, rfl, _, h2, p1⟩ := vd_tup gh h1
    rw [Vals.ref1 r]
    obtain ⟨its, rv, pl, hz'⟩ := I.tuple h2
    obtain ⟨as, hr⟩ := Dp.readsAll I (y :: ys) vs its (dpAll_mono (sub_le gh) _ _ p1) rv
    exact hp (rows_tuple (by simp [hh]) pl) hr hal (by omega) fun i v h' tk hv hi hk => fin p1 rv (by simpa using hv) hi hk
theorem min_d (hc : X.calm = true) (hh : X.A.handled = none) (hu : X.A.units + 200 < cLine) : CallD X (.builtin "min") minG :=
  pick_d hc hh hu (fun ds z h => by
    unfold minG at h
    split at h <;> first
      | (split at h <;> first | (rename_i hk; cases h; first | exact ⟨_, _, .inl rfl, hk, rfl⟩ | exact ⟨_, _, .inr rfl, hk, rfl⟩) | cases h)
      | cases h) min_picks
theorem max_d (hc : X.calm = true) (hh : X.A.handled = none) (hu : X.A.units + 200 < cLine) : CallD X (.builtin "max") maxG :=
  pick_d hc hh hu (fun ds z h => by
    unfold maxG at h
    split at h <;> first
      | (split at h <;> first | (rename_i hk; cases h; first | exact ⟨_, _, .inl rfl, hk, rfl⟩ | exact ⟨_, _, .inr rfl, hk, rfl⟩) | cases h)
      | cases h) max_picks
/-! sum of ints -/
def intsOf : List Dv → Option (List Int)
  | [] => some []
  | .int i :: ds => (intsOf ds).map (i :: ·)
  | _ :: _ => none
theorem intsOf_eq : ∀ {ds : List Dv} {ns : List Int}, intsOf ds = some ns → ds = ns.map PyData.int
  | [], _, h => by cases h; rfl
  | .int i :: ds, _, h => by
    obtain ⟨ms, hm, rfl⟩ := Option.map_eq_some_iff.mp h
    rw [intsOf_eq hm]
    rfl
  | .none :: _, _, h => by cases h
  | .bool _ :: _, _, h => by cases h
  | .str _ :: _, _, h => by cases h
  | .list _ :: _, _, h => by cases h
  | .tuple _ :: _, _, h => by cases h
  | .dict _ :: _, _, h => by cases h
theorem intsOf_map : ∀ ns : List Int, intsOf (ns.map PyData.int) = some ns
  | [] => rfl
  | n :: ns => by simp [intsOf, intsOf_map ns]
def sumG : List Dv → Option Rz
  | [.list ds] => (intsOf ds).map fun ns => .sh (.int ns.sum)
  | [.tuple ds] => (intsOf ds).map fun ns => .sh (.int ns.sum)
  | _ => none
theorem sum_d (hc : X.calm = true) (hh : X.A.handled = none) : CallD X (.builtin "sum") sumG := by
  intro pins s σ H xs us Q I r h
  obtain ⟨G, ds, z, gh, vd, hz, q⟩ := h
  unfold sumG at hz
  split at hz
  · obtain ⟨ns, hn, rfl⟩ := Option.map_eq_some_iff.mp hz
    obtain ⟨v, rfl, h1⟩ := vds1 vd
    rw [intsOf_eq hn] at h1
    obtain ⟨a, vs, rfl, h2, p1⟩ := vd_list h1
    rw [ints_of_dpAll p1] at h2
    exact cr_sum hc pins s σ H _ us Q I r ⟨a, ns, rfl, h2, res_int q⟩
  · obtain ⟨ns, hn, rfl⟩ := Option.map_eq_some_iff.mp hz
    obtain ⟨v, rfl, h1⟩ := vds1 vd
    rw [intsOf_eq hn] at h1
    obtain ⟨a, vs, rfl, _, h2, p1⟩ := vd_tup gh h1
    rw [ints_of_dpAll p1] at h2
    rw [Vals.ref1 r]
    obtain ⟨its, rv, pl, hz'⟩ := I.tuple h2
    have hi : IntsAre its ns := rv.ints
    obtain ⟨ys, e⟩ := hi.allInts.items
    have hnn : numsOf (intItems ys).toList = ns := by rw [← e]; exact hi.numsOf
    rw [nums_intItems] at hnn
    have hl : s.heap.IsTuple a its.toArray := pl
    rw [e] at hl
    refine PySem.W.ktm_sumG hh hl fun h' tk t' hk => ?_
    rw [preSum_eq, List.take_of_length_le (by simp), hnn]
    exact ⟨.int ns.sum, H, I.kept (t' := tk) hk, ⟨t', rfl⟩, res_int q⟩
  · cases hz
end
end DL

set_option Elab.async false
set_option linter.all false
set_option autoImplicit false
set_option maxRecDepth 100000
set_option maxHeartbeats 1000000
namespace DL
open PySem PySem.Spec PyProof.Rows L2

/-! ### what a def does with its arguments' slots -/
abbrev FnS := List Sl → Option (Rv × List Sl)
def spD (K : PySem.W.Frag) (np : Nat) (F : FnS) : Sp := fun vs H Q _ => ∃ Fr G as r as', vs.length = np ∧ RS K [] Fr (fun _ => none) G as (vs.map some) H ∧ F as = some (r, as') ∧
  ∀ v G' H', Sub G G' → RS K [] Fr (fun _ => none) G' as' (vs.map some) H' → VOk K Fr G' H' as' (vs.map some) r v → Q v H'
def toSl (ρ : Rho) : Rv → Option Sl
  | .sh d => some (.sh d)
  | .ow o => some (.ow o)
  | .al i => match ρ[i]? with
    | some (.ow o) => some (.ow o)
    | _ => none
def toSls (ρ : Rho) : List Rv → Option (List Sl)
  | [] => some []
  | r :: rs => (toSl ρ r).bind fun s => (toSls ρ rs).bind fun ss => some (s :: ss)
def wback : Rho → List Rv → List Sl → Rho
  | ρ, .al i :: rs, s :: as => wback (ρ.set i s) rs as
  | ρ, _ :: rs, _ :: as => wback ρ rs as
  | ρ, _, _ => ρ
def als : List Rv → List Nat
  | [] => []
  | .al i :: rs => i :: als rs
  | .sh _ :: rs => als rs
  | .ow _ :: rs => als rs
def alsOk (rs : List Rv) : Bool := decide (als rs).Nodup
def eFn (F : FnS) (ga : MA) : M := fun ρ => (ga ρ).bind fun x => (toSls x.2 x.1).bind fun as => if alsOk x.1 = true then (F as).bind fun y => (match y.1 with
  | .al _ => none
  | r => some (r, wback x.2 x.1 y.2)) else none

theorem toSls_get {ρ : Rho} : ∀ {rs : List Rv} {as : List Sl}, toSls ρ rs = some as → ∀ {j : Nat} {s : Sl}, as[j]? = some s → ∃ r, rs[j]? = some r ∧ toSl ρ r = some s
  | [], _, h, j, s, e => by cases h; simp at e
  | r :: rs, _, h, j, s, e => by
    obtain ⟨s0, h1, h⟩ := Option.bind_eq_some_iff.mp h
    obtain ⟨ss, h2, h⟩ := Option.bind_eq_some_iff.mp h
    cases h
    cases j with
    | zero => simp at e; subst e; exact ⟨r, rfl, h1⟩
    | succ j =>
      simp at e
      obtain ⟨r', h3, h4⟩ := toSls_get h2 e
      exact ⟨r', by simpa using h3, h4⟩
theorem toSls_of {ρ : Rho} : ∀ {rs : List Rv} {as : List Sl}, toSls ρ rs = some as → ∀ {j : Nat} {r : Rv}, rs[j]? = some r → ∃ s, as[j]? = some s ∧ toSl ρ r = some s
  | [], _, h, j, s, e => by simp at e
  | r :: rs, _, h, j, s, e => by
    obtain ⟨s0, h1, h⟩ := Option.bind_eq_some_iff.mp h
    obtain ⟨ss, h2, h⟩ := Option.bind_eq_some_iff.mp h
    cases h
    cases j with
    | zero => simp at e; subst e; exact ⟨s0, rfl, h1⟩
    | succ j =>
      simp at e
      obtain ⟨r', h3, h4⟩ := toSls_of h2 e
      exact ⟨r', by simpa using h3, h4⟩
theorem toSls_length {ρ : Rho} : ∀ {rs : List Rv} {as : List Sl}, toSls ρ rs = some as → as.length = rs.length
  | [], _, h => by cases h; rfl
  | r :: rs, _, h => by
    obtain ⟨s0, h1, h⟩ := Option.bind_eq_some_iff.mp h
    obtain ⟨ss, h2, h⟩ := Option.bind_eq_some_iff.mp h
    cases h
    simp [toSls_length h2]
section
variable {K : PySem.W.Frag} {ix : List Nat} {Fr G H : Hp} {FX : Nat → Option V} {ρ : Rho} {σ : L2.St}
theorem voks_length : ∀ {rs : List Rv} {vs : List V}, VOks K Fr G H ρ σ rs vs → vs.length = rs.length
  | [], [], _ => rfl
  | [], _ :: _, h => False.elim h
  | _ :: _, [], h => False.elim h
  | _ :: rs, _ :: vs, ⟨_, _, h⟩ => by simp [voks_length h]
theorem voks_get : ∀ {rs : List Rv} {vs : List V}, VOks K Fr G H ρ σ rs vs → ∀ {j : Nat} {r : Rv}, rs[j]? = some r → ∃ v, vs[j]? = some v ∧ VOk K Fr G H ρ σ r v
  | [], [], _, j, r, e => by simp at e
  | [], _ :: _, h, _, _, _ => False.elim h
  | _ :: _, [], h, _, _, _ => False.elim h
  | r0 :: rs, v :: vs, ⟨h1, _, h⟩, j, r, e => by
    cases j with
    | zero => simp at e; subst e; exact ⟨v, rfl, h1⟩
    | succ j =>
      simp at e
      obtain ⟨w, h2, h3⟩ := voks_get h e
      exact ⟨w, by simpa using h2, h3⟩
theorem voks_apart : ∀ {rs : List Rv} {vs : List V}, VOks K Fr G H ρ σ rs vs → ∀ {i j : Nat} {o o' : Ob} {a : Addr}, i < j → rs[i]? = some (.ow o) → rs[j]? = some (.ow o') → vs[i]? = some (.ref a) → vs[j]? ≠ some (.ref a)
  | [], _, _, i, j, o, o', a, l, e, _, _ => by simp at e
  | _ :: _, [], h, _, _, _, _, _, _, _, _, _ => False.elim h
  | r0 :: rs, v :: vs, ⟨_, h2, h⟩, i, j, o, o', a, l, e1, e2, e3 => by
    cases j with
    | zero => omega
    | succ j =>
      simp at e2
      cases i with
      | zero =>
        simp at e1 e3
        simpa using h2 o a e1 e3 j o' e2
      | succ i =>
        simp at e1 e3
        simpa using voks_apart h (by omega) e1 e2 e3
end
theorem wback_length : ∀ (rs : List Rv) (as : List Sl) (ρ : Rho), (wback ρ rs as).length = ρ.length
  | .al i :: rs, s :: as, ρ => by unfold wback; rw [wback_length rs as]; simp
  | .sh _ :: rs, s :: as, ρ => by unfold wback; exact wback_length rs as ρ
  | .ow _ :: rs, s :: as, ρ => by unfold wback; exact wback_length rs as ρ
  | [], _, ρ => by unfold wback; rfl
  | .al _ :: _, [], ρ => rfl
  | .sh _ :: _, [], ρ => rfl
  | .ow _ :: _, [], ρ => rfl
theorem wback_get : ∀ (rs : List Rv) (as : List Sl) (ρ : Rho) (k : Nat) (s : Sl), as.length = rs.length → (als rs).Nodup → (wback ρ rs as)[k]? = some s →
    (∃ j : Nat, rs[j]? = some (Rv.al k) ∧ as[j]? = some s) ∨ ((∀ j : Nat, rs[j]? ≠ some (Rv.al k)) ∧ ρ[k]? = some s)
  | [], [], ρ, k, s, _, _, e => .inr ⟨fun j => by simp, by unfold wback at e; exact e⟩
  | r :: rs, [], ρ, k, s, h, _, _ => by simp at h
  | [], a :: as, ρ, k, s, h, _, _ => by simp at h
  | r :: rs, a :: as, ρ, k, s, h, nd, e => by
    have hl : as.length = rs.length := by simpa using h
    cases r with
    | sh d =>
      have e' : (wback ρ rs as)[k]? = some s := e
      rcases wback_get rs as ρ k s hl nd e' with ⟨j, h1, h2⟩ | ⟨h1, h2⟩
      · exact .inl ⟨j + 1, by simpa using h1, by simpa using h2⟩
      · refine .inr ⟨fun j => ?_, h2⟩
        cases j with
        | zero => simp
        | succ j => simpa using h1 j
    | ow d =>
      have e' : (wback ρ rs as)[k]? = some s := e
      rcases wback_get rs as ρ k s hl nd e' with ⟨j, h1, h2⟩ | ⟨h1, h2⟩
      · exact .inl ⟨j + 1, by simpa using h1, by simpa using h2⟩
      · refine .inr ⟨fun j => ?_, h2⟩
        cases j with
        | zero => simp
        | succ j => simpa using h1 j
    | al i =>
      have nd' : i ∉ als rs ∧ (als rs).Nodup := List.nodup_cons.mp nd
      have e' : (wback (ρ.set i a) rs as)[k]? = some s := e
      rcases wback_get rs as (ρ.set i a) k s hl nd'.2 e' with ⟨j, h1, h2⟩ | ⟨h1, h2⟩
      · exact .inl ⟨j + 1, by simpa using h1, by simpa using h2⟩
      · by_cases hk : i = k
        · subst hk
          have hlt : i < ρ.length := by
            have := (List.getElem?_eq_some_iff.mp h2).1
            simpa using this
          rw [List.getElem?_set_self hlt] at h2
          exact .inl ⟨0, rfl, by simpa using h2⟩
        · rw [List.getElem?_set_ne hk] at h2
          refine .inr ⟨fun j => ?_, h2⟩
          cases j with
          | zero => simp; exact hk
          | succ j => simpa using h1 j
theorem mem_als {k : Nat} : ∀ {rs : List Rv} {j : Nat}, rs[j]? = some (.al k) → k ∈ als rs
  | [], j, e => by simp at e
  | .sh _ :: rs, 0, e => by simp at e
  | .ow _ :: rs, 0, e => by simp at e
  | .al i :: rs, 0, e => by simp at e; subst e; exact List.mem_cons_self
  | .sh _ :: rs, j + 1, e => mem_als (rs := rs) (j := j) (by simpa using e)
  | .ow _ :: rs, j + 1, e => mem_als (rs := rs) (j := j) (by simpa using e)
  | .al i :: rs, j + 1, e => List.mem_cons_of_mem _ (mem_als (rs := rs) (j := j) (by simpa using e))
theorem al_unique {rs : List Rv} (nd : (als rs).Nodup) : ∀ {i j k : Nat}, rs[i]? = some (.al k) → rs[j]? = some (.al k) → i = j := by
  induction rs with
  | nil => intro i j k e; simp at e
  | cons r rs ih =>
    intro i j k e1 e2
    have ndr : (als rs).Nodup := by
      cases r with
      | sh d => exact nd
      | ow d => exact nd
      | al i => exact (List.nodup_cons.mp nd).2
    have nin : r = .al k → ∀ j : Nat, rs[j]? ≠ some (.al k) := fun hr j e => by
      subst hr
      exact (List.nodup_cons.mp nd).1 (mem_als e)
    cases i with
    | zero =>
      cases j with
      | zero => rfl
      | succ j =>
        simp at e1 e2
        exact absurd e2 (nin e1 j)
    | succ i =>
      cases j with
      | zero =>
        simp at e1 e2
        exact absurd e1 (nin e2 i)
      | succ j =>
        simp at e1 e2
        rw [ih ndr e1 e2]

section
variable {X : Cx} {ix : List Nat} {e : Expr} {es : List Expr} {ga : MA} {pos p : Pos}
open Classical in
theorem fn_ok {F : FnS} {np : Nat} {σ : L2.St} {H : Hp} {Q : VK} (hnp : ∀ ρ rs ρ', ga ρ = some (rs, ρ') → rs.length = np) (h : TE' X.K ix (eFn F ga) σ H Q) : tCall (spD X.K np F) [] E0 (TA' X.K ix ga) σ H Q := by
  obtain ⟨Fr, FX, G, ρ, r, ρ', R, hf, k⟩ := h
  unfold eFn at hf
  obtain ⟨⟨rs, ρ1⟩, h1, hf⟩ := Option.bind_eq_some_iff.mp hf
  obtain ⟨as, h2, hf⟩ := Option.bind_eq_some_iff.mp hf
  simp only at hf
  split at hf
  rotate_left
  · cases hf
  rename_i hal
  obtain ⟨⟨r0, as'⟩, h3, hf⟩ := Option.bind_eq_some_iff.mp hf
  have nd : (als rs).Nodup := of_decide_eq_true hal
  have hr : r0 = r ∧ ρ' = wback ρ1 rs as' ∧ ∀ i, r0 ≠ .al i := by
    cases r0 with
    | sh d => cases hf; exact ⟨rfl, rfl, fun i z => nomatch z⟩
    | ow d => cases hf; exact ⟨rfl, rfl, fun i z => nomatch z⟩
    | al i => cases hf
  obtain ⟨rfl, rfl, nal⟩ := hr
  refine ⟨Fr, FX, G, ρ, rs, ρ1, R, h1, fun vs G1 H1 s1 R1 v1 => ?_⟩
  show spD X.K np F (vs ++ []) H1 Q E0
  rw [List.append_nil]
  have lv := voks_length v1
  have la := toSls_length h2
  -- where an owned argument stands
  have own : ∀ {j : Nat} {o : Ob}, as[j]? = some (.ow o) → ∃ a, vs[j]? = some (.ref a) ∧ G1 a = none ∧ Fr a = none ∧ Ct X.K G1 H1 a o ∧ (rs[j]? = some (Rv.ow o) ∨ ∃ i : Nat, rs[j]? = some (Rv.al i) ∧ ρ1[i]? = some (Sl.ow o) ∧ σ[i]? = some (some (V.ref a))) := by
    intro j o e
    obtain ⟨r, er, hs⟩ := toSls_get h2 e
    obtain ⟨v, ev, hv⟩ := voks_get v1 er
    cases r with
    | sh d => cases hs
    | ow o' =>
      cases hs
      obtain ⟨a, rfl, g, f, c, _⟩ := hv
      exact ⟨a, ev, g, f, c, .inl er⟩
    | al i =>
      unfold toSl at hs
      simp only at hs
      split at hs
      · rename_i o' ho
        cases hs
        obtain ⟨a, ea, g, f, c⟩ := R1.sl i _ ho
        have hv' : σ[i]? = some (some v) := hv
        rw [ea] at hv'
        cases hv'
        exact ⟨a, ev, g, f, c, .inr ⟨i, er, ho, ea⟩⟩
      · cases hs
  let passed : Addr → Prop := fun a => ∃ (j : Nat) (o : Ob), as[j]? = some (.ow o) ∧ vs[j]? = some (.ref a)
  let Fr' : Hp := fun a => if G1 a ≠ none ∨ passed a then none else H1 a
  have frP : ∀ a, passed a → Fr' a = none := fun a hp => if_pos (.inr hp)
  have frN : ∀ a, G1 a = none → ¬ passed a → Fr' a = H1 a := fun a g np => if_neg (fun z => z.elim (fun y => y g) np)
  have pFr : ∀ a, passed a → Fr a = none := fun a ⟨j, o, e1, e2⟩ => by
    obtain ⟨b, eb, _, f, _⟩ := own e1
    rw [e2] at eb
    cases eb
    exact f
  -- two owned arguments stand apart
  have apart : ∀ (i j : Nat) (a : Addr) (o o' : Ob), i ≠ j → as[i]? = some (.ow o) → as[j]? = some (.ow o') → vs[i]? = some (.ref a) → vs[j]? ≠ some (.ref a) := by
    intro i j a o o' ne e1 e2 e3 e4
    obtain ⟨b, eb, _, _, _, c1⟩ := own e1
    obtain ⟨b', eb', _, _, _, c2⟩ := own e2
    rw [e3] at eb; cases eb
    rw [e4] at eb'; cases eb'
    rcases c1 with c1 | ⟨i1, c1, c1', c1''⟩
    · rcases c2 with c2 | ⟨i2, c2, c2', c2''⟩
      · rcases Nat.lt_or_gt_of_ne ne with l | l
        · exact voks_apart v1 l c1 c2 e3 e4
        · exact voks_apart v1 l c2 c1 e4 e3
      · obtain ⟨v, ev, ⟨q, rfl, _, _, _, hn⟩⟩ := voks_get v1 c1
        rw [e3] at ev; cases ev
        exact hn i2 _ c2' c2''
    · rcases c2 with c2 | ⟨i2, c2, c2', c2''⟩
      · obtain ⟨v, ev, ⟨q, rfl, _, _, _, hn⟩⟩ := voks_get v1 c2
        rw [e4] at ev; cases ev
        exact hn i1 _ c1' c1''
      · by_cases hi : i1 = i2
        · subst hi
          exact ne (al_unique nd c1 c2)
        · exact R1.sep i1 i2 a _ _ hi c1' c2' c1'' c2''
  have getv : ∀ (j : Nat) (v : V), (vs.map some)[j]? = some (some v) ↔ vs[j]? = some v := fun j v => by
    rw [List.getElem?_map]
    cases vs[j]? <;> simp
  have RA : RS X.K [] Fr' (fun _ => none) G1 as (vs.map some) H1 := by
    refine ⟨R1.gh, fun a o e => ?_, fun a n => ?_, by rw [List.length_map, lv, la], fun i s e => ?_, fun i j a o o' ne e1 e2 e3 e4 => ?_, fun i v z => nomatch z⟩
    · by_cases hc : G1 a ≠ none ∨ passed a
      · have : Fr' a = none := if_pos hc
        rw [this] at e; cases e
      · have : Fr' a = H1 a := if_neg hc
        rw [this] at e; exact e
    · by_cases hc : G1 a ≠ none ∨ passed a
      · exact absurd (if_pos hc) n
      · exact Classical.not_not.mp fun z => hc (.inl z)
    · cases s with
      | no => trivial
      | sh d =>
        obtain ⟨r, er, hs⟩ := toSls_get h2 e
        obtain ⟨v, ev, hv⟩ := voks_get v1 er
        cases r with
        | sh d' => cases hs; exact ⟨v, (getv i v).mpr ev, hv⟩
        | ow o' => cases hs
        | al i' =>
          unfold toSl at hs
          simp only at hs
          split at hs <;> cases hs
      | ow o =>
        obtain ⟨a, ev, g, f, c, _⟩ := own e
        exact ⟨a, (getv i _).mpr ev, g, frP a ⟨i, o, e, ev⟩, c⟩
    · exact apart i j a o o' ne e1 e2 ((getv i _).mp e3) ((getv j _).mp e4)
  refine ⟨Fr', G1, as, r0, as', by rw [lv]; exact hnp _ _ _ h1, RA, h3, fun v G2 H2 s2 R2 v2 => ?_⟩
  have la' : as'.length = rs.length := by rw [R2.len, List.length_map, lv]
  have keepFr : ∀ a o, Fr a = some o → Fr' a = some o := fun a o e => by
    have g : G1 a = none := R1.gf a (by rw [e]; simp)
    have n : ¬ passed a := fun z => by rw [pFr a z] at e; cases e
    rw [frN a g n]; exact R1.fh a o e
  -- a slot that was not handed over
  have other : ∀ {i : Nat} {o : Ob} {a : Addr}, ρ1[i]? = some (.ow o) → (∀ j : Nat, rs[j]? ≠ some (Rv.al i)) → σ[i]? = some (some (.ref a)) → G1 a = none → Fr' a = H1 a := by
    intro i o a e1 e2 e3 g
    refine frN a g fun ⟨j, o', e4, e5⟩ => ?_
    obtain ⟨b, eb, _, _, _, c⟩ := own e4
    rw [e5] at eb; cases eb
    rcases c with c | ⟨i', c, c', c''⟩
    · obtain ⟨v, ev, ⟨q, rfl, _, _, _, hn⟩⟩ := voks_get v1 c
      rw [e5] at ev; cases ev
      exact hn i _ e1 e3
    · by_cases hi : i' = i
      · subst hi; exact e2 j c
      · exact R1.sep i' i _ _ _ hi c' e1 c'' e3
  -- a slot that was handed over
  have given : ∀ {i j : Nat} {s : Sl}, rs[j]? = some (.al i) → as'[j]? = some s → ∃ a, σ[i]? = some (some (.ref a)) ∧ vs[j]? = some (.ref a) ∧ passed a := by
    intro i j s e1 e2
    obtain ⟨s0, es, hs⟩ := toSls_of h2 e1
    unfold toSl at hs
    simp only at hs
    split at hs
    · rename_i o ho
      cases hs
      obtain ⟨a, ev, _, _, _, c⟩ := own es
      rcases c with c | ⟨i', c, c', c''⟩
      · rw [e1] at c; cases c
      · rw [e1] at c; cases c
        exact ⟨a, c'', ev, ⟨j, o, es, ev⟩⟩
    · cases hs
  have RZ : RS X.K ix Fr FX G2 (wback ρ1 rs as') σ H2 := by
    refine ⟨R2.gh, fun a o e => R2.fh a o (keepFr a o e), fun a n => ?_, by rw [wback_length]; exact R1.len, fun i s e => ?_, fun i j a o o' ne e1 e2 e3 e4 => ?_, R1.fx⟩
    · refine R2.gf a fun z => ?_
      cases e : Fr a with
      | none => exact n e
      | some o => rw [keepFr a o e] at z; cases z
    · rcases wback_get rs as' ρ1 i s la' nd e with ⟨j, e1, e2⟩ | ⟨e1, e2⟩
      · obtain ⟨a, ea, ev, pa⟩ := given e1 e2
        have q := R2.sl j s e2
        rw [(getv j _).mpr ev] at q
        rw [ea]
        cases s with
        | no => trivial
        | sh d => exact q
        | ow o =>
          obtain ⟨b, eb, g, _, c⟩ := q
          cases eb
          exact ⟨a, rfl, g, pFr a pa, c⟩
      · refine (R1.sl i s e2).mono s2 fun a o e3 e4 g f => ?_
        subst e4
        have q := other e2 e1 e3 g
        obtain ⟨b, eb, _, _, c⟩ := R1.sl i _ e2
        rw [e3] at eb; cases eb
        obtain ⟨u, hu⟩ := c.some
        rw [hu] at q
        exact ⟨R2.gf a (by rw [q]; simp), (R2.fh a u q).trans hu.symm⟩
    · rcases wback_get rs as' ρ1 i _ la' nd e1 with ⟨k1, f1, f2⟩ | ⟨f1, f2⟩
      · obtain ⟨b, eb, ev, pb⟩ := given f1 f2
        rw [e3] at eb; cases eb
        rcases wback_get rs as' ρ1 j _ la' nd e2 with ⟨k2, g1, g2⟩ | ⟨g1, g2⟩
        · obtain ⟨b', eb', ev', _⟩ := given g1 g2
          rw [e4] at eb'; cases eb'
          have nk : k1 ≠ k2 := fun z => by
            subst z
            rw [f1] at g1; cases g1
            exact ne rfl
          exact R2.sep k1 k2 _ _ _ nk f2 g2 ((getv _ _).mpr ev) ((getv _ _).mpr ev')
        · obtain ⟨b', eb', g, _, c⟩ := R1.sl j _ g2
          rw [e4] at eb'; cases eb'
          have q := other g2 g1 e4 g
          obtain ⟨u, hu⟩ := c.some
          rw [frP _ pb, hu] at q; cases q
      · rcases wback_get rs as' ρ1 j _ la' nd e2 with ⟨k2, g1, g2⟩ | ⟨g1, g2⟩
        · obtain ⟨b', eb', ev', pb'⟩ := given g1 g2
          rw [e4] at eb'; cases eb'
          obtain ⟨b, eb, g, _, c⟩ := R1.sl i _ f2
          rw [e3] at eb; cases eb
          have q := other f2 f1 e3 g
          obtain ⟨u, hu⟩ := c.some
          rw [frP _ pb', hu] at q; cases q
        · exact R1.sep i j a _ _ ne f2 g2 e3 e4
  refine k v G2 H2 (s1.trans s2) RZ ?_
  cases r0 with
  | sh d => exact v2
  | al i => exact absurd rfl (nal i)
  | ow o =>
    obtain ⟨a, rfl, g, f, c, hn⟩ := v2
    refine ⟨a, rfl, g, ?_, c, fun i o' e1 e2 => ?_⟩
    · cases e : Fr a with
      | none => rfl
      | some u => rw [keepFr a u e] at f; cases f
    · rcases wback_get rs as' ρ1 i _ la' nd e1 with ⟨j, f1, f2⟩ | ⟨f1, f2⟩
      · obtain ⟨b, eb, ev, _⟩ := given f1 f2
        rw [e2] at eb; cases eb
        exact hn j _ f2 ((getv _ _).mpr ev)
      · obtain ⟨b, eb, g', _, c'⟩ := R1.sl i _ f2
        rw [e2] at eb; cases eb
        have q := other f2 f1 e2 g'
        obtain ⟨u, hu⟩ := c'.some
        rw [f, hu] at q; cases q
theorem de_fn {k np : Nat} {f : Addr} {fd : FuncData} {ps : List Str} {x : Str} {F : FnS} (G : FnOk X.prog X.w X.K X.mg X.base CX0 k f fd ps (spD X.K np F)) (hr : Room k X.A) (hg : Gl X x) (hm : X.mg x = some (.ref f)) (hk : PySem.W.keepIn X.K (.ref f) = true) (hb : Binds X.K fd ps [])
    (ha : PA X (e :: es) (TA' X.K ix ga)) (hnp : ∀ ρ rs ρ', ga ρ = some (rs, ρ') → rs.length = np) (hdb : (x == ("__debug__" : Str)) = false := by decide) (he : starEach (e :: es) X.env = (false, eval e X.env) :: starEach es X.env := by rfl) (hpl : (backTo pos (starEach es X.env)).any (·.1) = false := by rfl) :
    PE X (.Call (.Name x p) (e :: es) [] pos) (TE' X.K ix (eFn F ga)) :=
  pe_imp (pe_call G hr hg hm hk hb .nil pass0 ha hdb he hpl) fun _ _ _ h => fn_ok hnp h
theorem de_fn0 {k : Nat} {f : Addr} {fd : FuncData} {ps : List Str} {x : Str} {F : FnS} (G : FnOk X.prog X.w X.K X.mg X.base CX0 k f fd ps (spD X.K 0 F)) (hr : Room k X.A) (hg : Gl X x) (hm : X.mg x = some (.ref f)) (hk : PySem.W.keepIn X.K (.ref f) = true) (hb : Binds X.K fd ps [])
    (hdb : (x == ("__debug__" : Str)) = false := by decide) : PE X (.Call (.Name x p) [] [] pos) (TE' X.K ix (eFn F aNil)) :=
  pe_imp (pe_call0 G hr hg hm hk hb .nil pass0 hdb) fun σ H Q h => by
    have q := fn_ok (np := 0) (fun ρ rs ρ' e => by cases e; rfl) h
    obtain ⟨Fr, FX, G, ρ, rs, ρ', R, hf, k⟩ := q
    cases hf
    exact k [] G H (Sub.refl _) R trivial
theorem aLen_nil : ∀ (ρ : Rho) rs ρ', aNil ρ = some (rs, ρ') → rs.length = 0 := fun ρ rs ρ' e => by cases e; rfl
theorem aLen_cons {f : M} {g : MA} {n : Nat} (h : ∀ ρ rs ρ', g ρ = some (rs, ρ') → rs.length = n) : ∀ ρ rs ρ', aCons f g ρ = some (rs, ρ') → rs.length = n + 1 := fun ρ rs ρ' e => by
  unfold aCons at e
  obtain ⟨x, _, e⟩ := Option.bind_eq_some_iff.mp e
  obtain ⟨y, h2, e⟩ := Option.bind_eq_some_iff.mp e
  cases e
  simp [h _ _ _ h2]
end
end DL

set_option Elab.async false
set_option linter.all false
set_option autoImplicit false
set_option maxRecDepth 100000
set_option maxHeartbeats 1000000
namespace DL
open PySem PySem.Spec PyProof.Rows L2

/-! ### statements -/
def sNil : MS := fun ρ => some (.nx ρ)
def sSeq (g h : MS) : MS := fun ρ => (g ρ).bind fun fl => match fl with
  | .nx ρ1 => h ρ1
  | fl => some fl
def sBreak : MS := fun ρ => some (.bk ρ)
def sCont : MS := fun ρ => some (.ct ρ)
/-- a name of a slot as a value: a list is shared from then on, a dict goes over -/
def cpM (f : M) : M := fun ρ => (f ρ).bind fun x => match x.1 with
  | .al i => match x.2[i]? with
    | some (.ow (.lst ds)) => some (.sh (.list ds), x.2.set i (.sh (.list ds)))
    | some (.ow o) => some (.ow o, x.2.set i .no)
    | _ => none
  | _ => some x
def sSet (i : Nat) (f : M) : MS := fun ρ => (f ρ).bind fun x => match x.1 with
  | .sh d => some (.nx (x.2.set i (.sh d)))
  | .ow o => some (.nx (x.2.set i (.ow o)))
  | .al _ => none
def sExpr (f : M) : MS := fun ρ => (f ρ).bind fun x => some (.nx x.2)
def sRet (ix : List Nat) (f : M) : MS := fun ρ => (f ρ).bind fun x => match x.1 with
  | .al i => match x.2[i]? with
    | some (.ow (.lst ds)) => if ix.contains i = true then some (.rt (.sh (.list ds)) (x.2.set i (.sh (.list ds)))) else some (.rt (.ow (.lst ds)) (x.2.set i .no))
    | some (.ow o) => some (.rt (.ow o) (x.2.set i .no))
    | _ => none
  | r => some (.rt r x.2)
def sRetN : MS := fun ρ => some (.rt (.sh .none) ρ)
def sIf (t : MB) (g h : MS) : MS := fun ρ => (t ρ).bind fun x => if x.1 = true then g x.2 else h x.2
def whileS (c : MB) (b : MS) : Nat → MS
  | 0 => fun _ => none
  | n + 1 => fun ρ => (c ρ).bind fun x => if x.1 = true then (b x.2).bind fun fl => (match fl with
    | .nx ρ2 => whileS c b n ρ2
    | .ct ρ2 => whileS c b n ρ2
    | .bk ρ2 => some (.nx ρ2)
    | .rt r ρ2 => some (.rt r ρ2)) else some (.nx x.2)
abbrev MT := Dv → Rho → Option Rho
def forS (t : MT) (b : MS) : List Dv → MS
  | [] => fun ρ => some (.nx ρ)
  | d :: ds => fun ρ => (t d ρ).bind fun ρ1 => (b ρ1).bind fun fl => match fl with
    | .nx ρ2 => forS t b ds ρ2
    | .ct ρ2 => forS t b ds ρ2
    | .bk ρ2 => some (.nx ρ2)
    | .rt r ρ2 => some (.rt r ρ2)
def sFor (f : ML) (t : MT) (b : MS) : MS := fun ρ => (f ρ).bind fun x => forS t b x.1 x.2
def tName (i : Nat) : MT := fun d ρ => some (ρ.set i (.sh d))
/-- several names -/
def tMany : List MT → List Dv → Rho → Option Rho
  | [], [], ρ => some ρ
  | t :: ts, d :: ds, ρ => (t d ρ).bind fun ρ1 => tMany ts ds ρ1
  | _, _, _ => none
def tTupT (ts : List MT) : MT := fun d ρ => match d with
  | .tuple ds => tMany ts ds ρ
  | _ => none
def sAsg (f : M) (t : MT) : MS := fun ρ => (frM f ρ).bind fun x => match x.1 with
  | .sh d => (t d x.2).bind fun ρ1 => some (.nx ρ1)
  | _ => none
def sAug (i : Nat) (g : Dv → Dv → Option Rz) (f : M) : MS := fun ρ => match ρ[i]? with
  | some (.sh d) => (pkM f ρ).bind fun x => (dat x.2 x.1).bind fun e => (g d e).bind fun r => (match r with
    | .sh z => some (.nx (x.2.set i (.sh z)))
    | .ow _ => none)
  | _ => none
section
variable {X : Cx} {ix : List Nat} {e : Expr} {es : List Expr} {f : M} {g h b : MS} {t : MB} {ga : MA} {pos p : Pos} {st : Stmt} {rest : List Stmt}
theorem ds_nil : PSs X [] (TS' X.K ix sNil) := pss_imp pss_nil fun D σ H ⟨Fr, FX, G, ρ, fl, R, hf, k⟩ => by
  cases hf
  exact k G σ H (Sub.refl _) R
theorem ds_pass : PS X (.Pass pos) (TS' X.K ix sNil) := ps_imp ps_pass fun D σ H ⟨Fr, FX, G, ρ, fl, R, hf, k⟩ => by
  cases hf
  exact k G σ H (Sub.refl _) R
theorem ds_break : PS X (.Break pos) (TS' X.K ix sBreak) := ps_imp ps_break fun D σ H ⟨Fr, FX, G, ρ, fl, R, hf, k⟩ => by
  cases hf
  exact k G σ H (Sub.refl _) R
theorem ds_cont : PS X (.Continue pos) (TS' X.K ix sCont) := ps_imp ps_continue fun D σ H ⟨Fr, FX, G, ρ, fl, R, hf, k⟩ => by
  cases hf
  exact k G σ H (Sub.refl _) R
/-- a flow's end behind a statement, D's next being h -/
theorem flp_seq {K : PySem.W.Frag} {Fr G : Hp} {FX : Nat → Option V} {fl : Fl} {D : Ends} {fl' : Fl} (h1 : (match fl with | .nx ρ1 => h ρ1 | fl => some fl) = some fl') (k : FlP K ix Fr FX G fl' D) : FlP K ix Fr FX G fl { D with nx := TS' K ix h D } := by
  cases fl with
  | nx ρ1 => exact fun G' σ' H' s R => ⟨Fr, FX, G', ρ1, fl', R, h1, k.mono s⟩
  | bk ρ1 => cases h1; exact k
  | ct ρ1 => cases h1; exact k
  | rt r ρ1 => cases h1; exact k
theorem ds_cons (h1 : PS X st (TS' X.K ix g)) (h2 : PSs X rest (TS' X.K ix h)) : PSs X (st :: rest) (TS' X.K ix (sSeq g h)) :=
  pss_imp (pss_cons h1 h2) fun D σ H ⟨Fr, FX, G, ρ, fl, R, hf, k⟩ => by
    unfold sSeq at hf
    obtain ⟨fl1, e1, hf⟩ := Option.bind_eq_some_iff.mp hf
    exact ⟨Fr, FX, G, ρ, fl1, R, e1, flp_seq hf k⟩
theorem ds_one (h1 : PS X st (TS' X.K ix g)) : PSs X [st] (TS' X.K ix g) := pss_one h1
theorem cp_ok {σ : L2.St} {H : Hp} {Q : VK} (h : TE' X.K ix (cpM f) σ H Q) : TE' X.K ix f σ H Q := by
  obtain ⟨Fr, FX, G, ρ, r, ρ', R, hf, k⟩ := h
  unfold cpM at hf
  obtain ⟨⟨r0, ρ0⟩, h0, hf⟩ := Option.bind_eq_some_iff.mp hf
  refine ⟨Fr, FX, G, ρ, r0, ρ0, R, h0, fun v G' H' s R' q => ?_⟩
  cases r0 with
  | sh d => cases hf; exact k v G' H' s R' q
  | ow o => cases hf; exact k v G' H' s R' q
  | al i =>
    simp only at hf
    split at hf
    · rename_i ds hi
      cases hf
      obtain ⟨Fr2, FX2, G2, ρ2, r2, ρ3, R2, hf2, k2⟩ := fr_ok (X := X) (ix := ix) (f := f) (Q := Q) ⟨Fr, FX, G, ρ, _, _, R, (show frM f ρ = some (.sh (.list ds), ρ0.set i (.sh (.list ds))) by unfold frM; rw [h0]; simp [hi]), k⟩
      obtain ⟨a, ev, g, fr, ⟨vs, hv, qv⟩⟩ := R'.sl i _ hi
      have e' : σ[i]? = some (some v) := q
      rw [ev] at e'
      cases e'
      have hx : Dp X.K (upd G' a (.lst vs)) (.ref a) (.list ds) := .lst (.inl (.inl upd_same)) (dpAll_mono (sub_upd g) _ _ qv)
      have hl : i < ρ0.length := (List.getElem?_eq_some_iff.mp hi).1
      have W : RS X.K ix Fr FX G' (ρ0.set i .no) σ H' := R'.weak (i := i) (s := .no) trivial (fun o z => nomatch z)
      have S := W.share hv g fr fun j o' e1 e2 => by
        by_cases hj : i = j
        · subst hj
          rw [List.getElem?_set_self hl] at e1
          cases e1
        · rw [List.getElem?_set_ne hj] at e1
          exact R'.sep i j a _ o' hj hi e1 ev e2
      have S2 := S.weak (i := i) (s := .sh (.list ds)) ⟨_, ev, hx⟩ (fun o z => nomatch z)
      rw [List.set_set] at S2
      exact k _ _ H' (s.trans (sub_upd g)) S2 hx
    · rename_i o hn hi
      cases hf
      obtain ⟨a, ev, g, fr, c⟩ := R'.sl i _ hi
      have e' : σ[i]? = some (some v) := q
      rw [ev] at e'
      cases e'
      have hl : i < ρ0.length := (List.getElem?_eq_some_iff.mp hi).1
      have W : RS X.K ix Fr FX G' (ρ0.set i .no) σ H' := R'.weak (i := i) (s := .no) trivial (fun o z => nomatch z)
      refine k _ G' H' s W ⟨a, rfl, g, fr, c, fun j o' e1 e2 => ?_⟩
      by_cases hj : i = j
      · subst hj
        rw [List.getElem?_set_self hl] at e1
        cases e1
      · rw [List.getElem?_set_ne hj] at e1
        exact R'.sep i j a _ o' hj hi e1 ev e2
    · cases hf
theorem de_cp (h : PE X e (TE' X.K ix f)) : PE X e (TE' X.K ix (cpM f)) := pe_imp h fun _ _ _ => cp_ok
theorem asg_ok {D : Ends} {σ : L2.St} {H : Hp} {i : Nat} (hi : i ∉ ix) (h : TS' X.K ix (sSet i f) D σ H) : tAsg (TE' X.K ix f) (gName i) D σ H := by
  obtain ⟨Fr, FX, G, ρ, fl, R, hf, k⟩ := h
  unfold sSet at hf
  obtain ⟨⟨r0, ρ0⟩, h0, hf⟩ := Option.bind_eq_some_iff.mp hf
  refine ⟨Fr, FX, G, ρ, r0, ρ0, R, h0, fun v G' H' s R' q => ?_⟩
  cases r0 with
  | al i => cases hf
  | sh d =>
    cases hf
    exact k G' _ H' s (R'.set hi ⟨v, rfl, q⟩ fun o a z => nomatch z)
  | ow o =>
    cases hf
    obtain ⟨a, rfl, g, fr, c, hn⟩ := q
    exact k G' _ H' s (R'.set hi ⟨a, rfl, g, fr, c⟩ fun o' a' z1 z2 j o2 e1 => by cases z2; exact hn j o2 e1)
theorem ds_set {i : Nat} {x : Str} {pos' : Pos} (hN : X.N.Nodup) (hi : X.N[i]? = some x) (hx : Loc X.env.scope x) (hix : i ∉ ix) (he : PE X e (TE' X.K ix f)) (hs : swapsWith e (some (.Name x pos')) pos.line X.env = pure false := by rfl) (hf : X.fn x = true ∨ X.env.scope.names.lookup x = some .local := by first | exact .inl rfl | exact .inr rfl | assumption) :
    PS X (.Assign [.Name x pos'] e pos) (TS' X.K ix (sSet i f)) := ps_imp (ps_set hN hi hx he hs hf) fun _ _ _ h => asg_ok hix h
theorem ds_expr (he : PE X e (TE' X.K ix f)) (hs : swapsWith e none pos.line X.env = pure false := by rfl) : PS X (.Expr e pos) (TS' X.K ix (sExpr f)) :=
  ps_imp (ps_expr he hs) fun D σ H ⟨Fr, FX, G, ρ, fl, R, hf, k⟩ => by
    unfold sExpr at hf
    obtain ⟨⟨r0, ρ0⟩, h0, hf⟩ := Option.bind_eq_some_iff.mp hf
    cases hf
    exact ⟨Fr, FX, G, ρ, r0, _, R, h0, fun v G' H' s R' q => k G' σ H' s R'⟩
theorem ds_retN : PS X (.Return none pos) (TS' X.K ix sRetN) := ps_imp ps_retN fun D σ H ⟨Fr, FX, G, ρ, fl, R, hf, k⟩ => by
  cases hf
  exact k G σ H .non (Sub.refl _) R .non
theorem ds_ret (he : PE X e (TE' X.K ix f)) : PS X (.Return (some e) pos) (TS' X.K ix (sRet ix f)) :=
  ps_imp (ps_ret he) fun D σ H ⟨Fr, FX, G, ρ, fl, R, hf, k⟩ => by
    unfold sRet at hf
    obtain ⟨⟨r0, ρ0⟩, h0, hf⟩ := Option.bind_eq_some_iff.mp hf
    refine ⟨Fr, FX, G, ρ, r0, ρ0, R, h0, fun v G' H' s R' q => ?_⟩
    cases r0 with
    | sh d => cases hf; exact k G' σ H' v s R' q
    | ow o => cases hf; exact k G' σ H' v s R' q
    | al i =>
      simp only at hf
      have e' : σ[i]? = some (some v) := q
      have move : ∀ {o : Ob}, ρ0[i]? = some (.ow o) → fl = .rt (.ow o) (ρ0.set i .no) → D.rt v H' := by
        intro o hi efl
        subst efl
        obtain ⟨a, ev, g, fr, c⟩ := R'.sl i _ hi
        rw [ev] at e'
        cases e'
        have hl : i < ρ0.length := (List.getElem?_eq_some_iff.mp hi).1
        have W : RS X.K ix Fr FX G' (ρ0.set i .no) σ H' := R'.weak (i := i) (s := .no) trivial (fun o z => nomatch z)
        refine k G' σ H' _ s W ⟨a, rfl, g, fr, c, fun j o' e1 e2 => ?_⟩
        by_cases hj : i = j
        · subst hj
          rw [List.getElem?_set_self hl] at e1
          cases e1
        · rw [List.getElem?_set_ne hj] at e1
          exact R'.sep i j a _ o' hj hi e1 ev e2
      split at hf
      · rename_i ds hi
        split at hf
        · cases hf
          obtain ⟨a, ev, g, fr, ⟨vs, hv, qv⟩⟩ := R'.sl i _ hi
          rw [ev] at e'
          cases e'
          have hx : Dp X.K (upd G' a (.lst vs)) (.ref a) (.list ds) := .lst (.inl (.inl upd_same)) (dpAll_mono (sub_upd g) _ _ qv)
          have hl : i < ρ0.length := (List.getElem?_eq_some_iff.mp hi).1
          have W : RS X.K ix Fr FX G' (ρ0.set i .no) σ H' := R'.weak (i := i) (s := .no) trivial (fun o z => nomatch z)
          have S := W.share hv g fr fun j o' e1 e2 => by
            by_cases hj : i = j
            · subst hj
              rw [List.getElem?_set_self hl] at e1
              cases e1
            · rw [List.getElem?_set_ne hj] at e1
              exact R'.sep i j a _ o' hj hi e1 ev e2
          have S2 := S.weak (i := i) (s := .sh (.list ds)) ⟨_, ev, hx⟩ (fun o z => nomatch z)
          rw [List.set_set] at S2
          exact k _ σ H' _ (s.trans (sub_upd g)) S2 hx
        · cases hf; exact move hi rfl
      · rename_i o hn hi
        cases hf; exact move hi rfl
      · cases hf
theorem ds_if {c : Expr} {b1 b2 : List Stmt} (hc : PT X c (TT' X.K ix t)) (h1 : PSs X b1 (TS' X.K ix g)) (h2 : PSs X b2 (TS' X.K ix h)) : PS X (.If c b1 b2 pos) (TS' X.K ix (sIf t g h)) :=
  ps_imp (ps_if hc h1 h2) fun D σ H ⟨Fr, FX, G, ρ, fl, R, hf, k⟩ => by
    unfold sIf at hf
    obtain ⟨⟨k1, ρ1⟩, e1, hf⟩ := Option.bind_eq_some_iff.mp hf
    refine ⟨Fr, FX, G, ρ, k1, ρ1, R, e1, fun G1 H1 s1 R1 => ?_⟩
    cases k1 with
    | true => exact ⟨Fr, FX, G1, ρ1, fl, R1, hf, k.mono s1⟩
    | false => exact ⟨Fr, FX, G1, ρ1, fl, R1, hf, k.mono s1⟩
/-- a turn's flow, for a loop that goes on by `go` -/
theorem flp_turn {K : PySem.W.Frag} {Fr G : Hp} {FX : Nat → Option V} {fl fl' : Fl} {D : Ends} {go : MS} {N : L2.St → Hp → Prop}
    (h1 : (match fl with | .nx ρ2 => go ρ2 | .ct ρ2 => go ρ2 | .bk ρ2 => some (Fl.nx ρ2) | .rt r ρ2 => some (Fl.rt r ρ2)) = some fl') (k : FlP K ix Fr FX G fl' D)
    (hN : ∀ ρ2 G' σ' H', go ρ2 = some fl' → Sub G G' → RS K ix Fr FX G' ρ2 σ' H' → N σ' H') : FlP K ix Fr FX G fl { D with nx := N, ct := N, bk := D.nx } := by
  cases fl with
  | nx ρ2 => exact fun G' σ' H' s R => hN ρ2 G' σ' H' h1 s R
  | ct ρ2 => exact fun G' σ' H' s R => hN ρ2 G' σ' H' h1 s R
  | bk ρ2 => cases h1; exact k
  | rt r ρ2 => cases h1; exact k
theorem ds_while {c : Expr} {body : List Stmt} (n : Nat) (hp : PassesOwn (model X.prog X.w) X.A X.env X.xe) (hc : PT X c (TT' X.K ix t)) (hb : PSs X body (TS' X.K ix b)) : PS X (.While c body [] pos) (TS' X.K ix (whileS t b n)) :=
  ps_imp (ps_while hp hc hb) fun D σ H ⟨Fr, FX, G, ρ, fl, R, hf, k⟩ => by
    refine ⟨fun m σ H => ∃ G1 ρ1, Sub G G1 ∧ RS X.K ix Fr FX G1 ρ1 σ H ∧ whileS t b m ρ1 = some fl, ⟨n, G, ρ, Sub.refl _, R, hf⟩, ?_⟩
    rintro m σ1 H1 ⟨G1, ρ1, s1, R1, e1⟩
    cases m with
    | zero => cases e1
    | succ m =>
      unfold whileS at e1
      obtain ⟨⟨k1, ρ2⟩, e2, e1⟩ := Option.bind_eq_some_iff.mp e1
      refine ⟨Fr, FX, G1, ρ1, k1, ρ2, R1, e2, fun G2 H2 s2 R2 => ?_⟩
      cases k1 with
      | false =>
        cases e1
        exact k G2 σ1 H2 (s1.trans s2) R2
      | true =>
        obtain ⟨fl1, e3, e1⟩ := Option.bind_eq_some_iff.mp e1
        rw [if_pos rfl]
        refine ⟨fun σ H => ∃ G1 ρ1, Sub G G1 ∧ RS X.K ix Fr FX G1 ρ1 σ H ∧ whileS t b m ρ1 = some fl, fun σ' H' w => ⟨m, Nat.lt_succ_self m, w⟩, ?_⟩
        exact ⟨Fr, FX, G2, ρ2, fl1, R2, e3, flp_turn e1 (k.mono (s1.trans s2)) fun ρ3 G' σ' H' e4 s R => ⟨G', ρ3, (s1.trans s2).trans s, R, e4⟩⟩
theorem ds_for {tg it : Expr} {body : List Stmt} {fi : ML} {tis : List Nat} {tt : MT} (hp : PassesOwn (model X.prog X.w) X.A X.env X.xe) (hc : X.calm = true) (hi : PI X tg it (TI' X.K ix fi)) (hg : PG X tg (TG' X.K ix tis tt)) (hb : PSs X body (TS' X.K ix b))
    (hs : ∀ x, foldedSetIterable it X.env x = pure x := by intro _; rfl) : PS X (.For tg it body [] pos) (TS' X.K ix (sFor fi tt b)) :=
  ps_imp (ps_for hp hc hi hg hb hs) fun D σ H ⟨Fr, FX, G, ρ, fl, R, hf, k⟩ => by
    unfold sFor at hf
    obtain ⟨⟨ds, ρ0⟩, e0, hf⟩ := Option.bind_eq_some_iff.mp hf
    refine ⟨Fr, FX, G, ρ, ds, ρ0, R, e0, fun J G0 H0 s0 R0 jk => ?_⟩
    refine ⟨fun i m σ H => m = ds.length - i ∧ i ≤ ds.length ∧ ∃ G1 ρ1, Sub G0 G1 ∧ RS X.K ix Fr FX G1 ρ1 σ H ∧ forS tt b (ds.drop i) ρ1 = some fl, ⟨ds.length, by simp, Nat.zero_le _, G0, ρ0, Sub.refl _, R0, hf⟩, ?_⟩
    rintro i m σ1 H1 ⟨rfl, hle, G1, ρ1, s1, R1, e1⟩
    obtain ⟨j1, j2⟩ := jk i G1 H1 s1 R1.gh
    by_cases hlt : i < ds.length
    · have hd : ds[i]? = some ds[i] := List.getElem?_eq_getElem hlt
      obtain ⟨j3, j4⟩ := j1 _ hd
      rw [List.drop_eq_getElem_cons hlt] at e1
      unfold forS at e1
      obtain ⟨ρ2, e2, e1⟩ := Option.bind_eq_some_iff.mp e1
      obtain ⟨fl1, e3, e1⟩ := Option.bind_eq_some_iff.mp e1
      refine .inr ⟨j3, fun σ H => ∃ G1 ρ1, Sub G0 G1 ∧ RS X.K ix Fr FX G1 ρ1 σ H ∧ forS tt b (ds.drop (i + 1)) ρ1 = some fl, fun σ' H' w => ⟨ds.length - (i + 1), by omega, rfl, hlt, w⟩, fun x H2 y => ?_⟩
      have key : ∃ G2, Sub G1 G2 ∧ RS X.K ix Fr FX G2 ρ1 σ1 H2 ∧ Dp X.K G2 x ds[i] := by
        rcases j4 x H2 y with ⟨rfl, q⟩ | ⟨p, o, hp, rfl, q⟩
        · exact ⟨G1, Sub.refl _, R1, q⟩
        · exact ⟨_, sub_upd (R1.none_of hp).1, R1.newG hp, q⟩
      obtain ⟨G2, s2, R2, q⟩ := key
      refine ⟨Fr, FX, G2, ρ1, _, ρ2, R2, q, e2, fun G3 σ3 H3 s3 _ R3 => ?_⟩
      refine ⟨Fr, FX, G3, ρ2, fl1, R3, e3, flp_turn e1 (k.mono (((s0.trans s1).trans s2).trans s3)) fun ρ4 G' σ' H' e4 s R => ⟨G', ρ4, ((s1.trans s2).trans s3).trans s, R, e4⟩⟩
    · have hi : i = ds.length := by omega
      subst hi
      rw [List.drop_length] at e1
      cases e1
      exact .inl ⟨j2 (Nat.le_refl _), k G1 σ1 H1 (s0.trans s1) R1⟩
/-! ### targets -/
theorem dg_name {i : Nat} {x : Str} (hN : X.N.Nodup) (hi : X.N[i]? = some x) (hx : Loc X.env.scope x) (hix : i ∉ ix) (hf : X.fn x = true ∨ X.env.scope.names.lookup x = some .local := by first | exact .inl rfl | exact .inr rfl | assumption) : PG X (.Name x pos) (TG' X.K ix [i] (tName i)) :=
  pg_imp (pg_name hN hi hx hf) fun v σ H Q ⟨Fr, FX, G, ρ, d, ρ', R, q, e, k⟩ => by
    cases e
    refine k G _ H (Sub.refl _) ⟨List.length_set, fun j hj => ?_⟩ (R.set hix ⟨v, rfl, q⟩ fun o a z => nomatch z)
    rw [List.getElem?_set_ne (fun z => hj (by rw [z]; exact List.mem_singleton_self _))]
inductive DGs (X : Cx) (ix : List Nat) : List Expr → List Nat → List MT → Prop
  | nil : DGs X ix [] [] []
  | cons {e : Expr} {es : List Expr} {tis tjs : List Nat} {t : MT} {ts : List MT} : PG X e (TG' X.K ix tis t) → DGs X ix es tjs ts → DGs X ix (e :: es) (tis ++ tjs) (t :: ts)
def TGs' (K : PySem.W.Frag) (ix tis : List Nat) (ts : List MT) : TGs := fun vs σ H Q => ∃ Fr FX G ρ ds ρ', RS K ix Fr FX G ρ σ H ∧ DpAll K G vs ds ∧ tMany ts ds ρ = some ρ' ∧
  ∀ G' σ' H', Sub G G' → (σ'.length = σ.length ∧ ∀ j, j ∉ tis → σ'[j]? = σ[j]?) → RS K ix Fr FX G' ρ' σ' H' → Q σ' H'
theorem pgs_imp {es : List Expr} {t t' : TGs} (h : PGs X es t) (k : ∀ v σ H Q, t' v σ H Q → t v σ H Q) : PGs X es t' := ⟨fun pins s σ H v u Q I r q => h.run pins s σ H v u Q I r (k _ _ _ _ q)⟩
theorem dgs_nil : PGs X [] (TGs' X.K ix [] []) := pgs_imp pgs_nil fun vs σ H Q ⟨Fr, FX, G, ρ, ds, ρ', R, q, e, k⟩ => by
  cases q with
  | nil => cases e; exact ⟨rfl, k G σ H (Sub.refl _) ⟨rfl, fun _ _ => rfl⟩ R⟩
  | cons _ _ => cases e
theorem dgs_cons {tis tjs : List Nat} {t : MT} {ts : List MT} (h1 : PG X e (TG' X.K ix tis t)) (h2 : PGs X es (TGs' X.K ix tjs ts)) (hs : (assignEach (e :: es) X.env).map (·.2) = assign e X.env :: (assignEach es X.env).map (·.2) := by rfl) :
    PGs X (e :: es) (TGs' X.K ix (tis ++ tjs) (t :: ts)) := pgs_imp (pgs_cons h1 h2 hs) fun vs σ H Q ⟨Fr, FX, G, ρ, ds, ρ', R, q, e, k⟩ => by
  cases q with
  | nil => cases e
  | @cons v vs d ds q1 q2 =>
    unfold tMany at e
    obtain ⟨ρ1, e1, e⟩ := Option.bind_eq_some_iff.mp e
    refine ⟨v, vs, rfl, Fr, FX, G, ρ, d, ρ1, R, q1, e1, fun G1 σ1 H1 s1 n1 R1 => ?_⟩
    refine ⟨Fr, FX, G1, ρ1, ds, ρ', R1, dpAll_mono s1 _ _ q2, e, fun G2 σ2 H2 s2 n2 R2 => k G2 σ2 H2 (s1.trans s2) ⟨n2.1.trans n1.1, fun j hj => ?_⟩ R2⟩
    rw [List.mem_append, not_or] at hj
    rw [n2.2 j hj.2, n1.2 j hj.1]
theorem tMany_length : ∀ {ts : List MT} {ds : List Dv} {ρ ρ' : Rho}, tMany ts ds ρ = some ρ' → ds.length = ts.length
  | [], [], _, _, _ => rfl
  | t :: ts, d :: ds, ρ, ρ', h => by
    unfold tMany at h
    obtain ⟨ρ1, _, h⟩ := Option.bind_eq_some_iff.mp h
    simp [tMany_length h]
  | [], _ :: _, _, _, h => by cases h
  | _ :: _, [], _, _, h => by cases h
theorem dg_tup {tis : List Nat} {ts : List MT} {k n : Nat} (hc : X.calm = true) (h : PGs X es (TGs' X.K ix tis ts)) (hl : ts.length = n := by rfl) (hn : (assignEach es X.env).length = n := by rfl) (hst : (assignEach es X.env).findIdx? (·.1) = none := by rfl) :
    PG X (.Tuple es k pos) (TG' X.K ix tis (tTupT ts)) := pg_imp (pg_tup hc h hn hst) fun v σ H Q ⟨Fr, FX, G, ρ, d, ρ', R, q, e, kk⟩ => by
  unfold tTupT at e
  split at e
  · rename_i ds
    cases q with
    | tup hs ha => exact ⟨_, _, rfl, R.sub.sqT hs, by rw [dpAll_length ha, tMany_length e]; exact hl, Fr, FX, G, ρ, ds, ρ', R, ha, e, kk⟩
  · cases e
theorem ds_asg {tg : Expr} {tis : List Nat} {tt : MT} (he : PE X e (TE' X.K ix f)) (hg : PG X tg (TG' X.K ix tis tt)) (hs : swapsWithSole [tg] e pos.line X.env = pure false := by rfl) (hw : swappedStores [tg] e X.env = pure none := by rfl)
    (h1 : (assignEach [tg] X.env).map (·.2) = [assign tg X.env] := by rfl) : PS X (.Assign [tg] e pos) (TS' X.K ix (sAsg f tt)) :=
  ps_imp (ps_asg (de_fr he) hg hs hw h1) fun D σ H ⟨Fr, FX, G, ρ, fl, R, hf, k⟩ => by
    unfold sAsg at hf
    obtain ⟨⟨r0, ρ0⟩, h0, hf⟩ := Option.bind_eq_some_iff.mp hf
    refine ⟨Fr, FX, G, ρ, r0, ρ0, R, h0, fun v G' H' s R' q => ?_⟩
    cases r0 with
    | ow o => cases hf
    | al i => cases hf
    | sh d =>
      simp only at hf
      obtain ⟨ρ1, e1, hf⟩ := Option.bind_eq_some_iff.mp hf
      cases hf
      exact ⟨Fr, FX, G', ρ0, d, _, R', q, e1, fun G2 σ2 H2 s2 _ R2 => k G2 σ2 H2 (s.trans s2) R2⟩
theorem ds_aug {i : Nat} {x : Str} {op : Operator} {gg : Dv → Dv → Option Rz} {pos' : Pos} (hN : X.N.Nodup) (hi : X.N[i]? = some x) (hx : Loc X.env.scope x) (hix : i ∉ ix) (he : PE X e (TE' X.K ix f)) (ho : OpD X (inplaceOp op) gg) (hf : X.fn x = true ∨ X.env.scope.names.lookup x = some .local := by first | exact .inl rfl | exact .inr rfl | assumption) :
    PS X (.AugAssign (.Name x pos') op e pos) (TS' X.K ix (sAug i gg f)) :=
  ps_imp (ps_aug (ti := R2d X.K gg) hN hi hx (de_pk he) (fun pins s σ H x y v u Q I r1 r2 h => ho pins s σ H x y v u Q I r1 r2 h) hf) fun D σ H ⟨Fr, FX, G, ρ, fl, R, hf, k⟩ => by
    unfold sAug at hf
    split at hf
    · rename_i d hd
      obtain ⟨v, ev, q⟩ := R.sl i _ hd
      obtain ⟨⟨r0, ρ0⟩, h0, hf⟩ := Option.bind_eq_some_iff.mp hf
      obtain ⟨e', h1, hf⟩ := Option.bind_eq_some_iff.mp hf
      obtain ⟨r, h2, hf⟩ := Option.bind_eq_some_iff.mp hf
      cases r with
      | ow o => cases hf
      | sh z =>
        cases hf
        refine ⟨v, ev, Fr, FX, G, ρ, r0, ρ0, R, h0, fun y G1 H1 s1 R1 v1 => ?_⟩
        refine ⟨G1, d, e', .sh z, R1.gh, dp_vd R1.gh (dp_mono s1 _ _ q), dat_vd R1 v1 h1, h2, res_ok R1 fun w G2 H2 s2 R2 v2 => ?_⟩
        exact k G2 _ H2 (s1.trans s2) (R2.set hix ⟨w, rfl, v2⟩ fun o a z => nomatch z)
    · cases hf
end
end DL

set_option Elab.async false
set_option linter.all false
set_option autoImplicit false
set_option maxRecDepth 100000
set_option maxHeartbeats 1000000
namespace DL
open PySem PySem.Spec PyProof.Rows L2

/-! ### what loops walk -/
def itemsOf : Dv → Option (List Dv)
  | .list ds => some ds
  | .tuple ds => some ds
  | _ => none
def iSeq (f : M) : ML := fun ρ => (frM f ρ).bind fun x => match x.1 with
  | .sh d => (itemsOf d).bind fun ds => some (ds, x.2)
  | _ => none
def rangeD (lo : Int) (n : Nat) : List Dv := (List.range n).map fun i => .int (lo + (i : Nat))
def bnd62 (i : Int) : Bool := decide (-(4611686018427387904) ≤ i ∧ i < 4611686018427387904)
def rng1 : List Dv → Option (List Dv)
  | [.int j] => if bnd62 j = true then some (rangeD 0 j.toNat) else none
  | _ => none
def rng2 : List Dv → Option (List Dv)
  | [.int i, .int j] => if bnd62 i = true ∧ bnd62 j = true then some (rangeD i (j - i).toNat) else none
  | _ => none
def rangeDC (lo c : Int) (n : Nat) : List Dv := (List.range n).map fun i => .int (lo + (i : Nat) * c)
def rng3 : List Dv → Option (List Dv)
  | [.int i, .int j, .int c] => if bnd62 i = true ∧ bnd62 j = true ∧ c = -1 then some (rangeDC i (-1) (i - j).toNat) else none
  | _ => none
def iRng (r : List Dv → Option (List Dv)) (ga : MA) : ML := fun ρ => (ga ρ).bind fun x => (dats x.2 x.1).bind fun ds => (r ds).bind fun es => some (es, x.2)
section
variable {X : Cx} {ix : List Nat} {e a b : Expr} {f : M} {ga : MA} {tg : Expr} {pos p : Pos}
def tSeqI (K : PySem.W.Frag) (tl : TE) : TI := fun σ H R => tl σ H fun x H1 => ∃ a, x = .ref a ∧ ((∃ xs, SqL K H1 a xs ∧ R (Itl K a) H1) ∨ ∃ xs, SqT K H1 a xs ∧ R (Itt K a) H1)
theorem fp_new {pins : List (Addr × Obj)} {σ : L2.St} {H : Hp} {s : Shared} (I : Inv X pins σ H s) : ∀ b ∈ [s.heap.objs.size], FpOk X pins H b := fun b hb => by
  obtain rfl : b = s.heap.objs.size := by simpa using hb
  exact I.fpOk (Nat.le_refl _) I.fresh
theorem pi_seqI {tl : TE} (hl : PE X e tl) : PI X tg e (tSeqI X.K tl) := ⟨fun pins s σ H R I h => thn (hl.run pins s σ H _ I h) fun v s1 ⟨x, H1, I1, r1, a, ea, q⟩ => by
  subst ea
  cases r1
  rcases q with ⟨xs, hq, q⟩ | ⟨xs, hq, q⟩
  · obtain ⟨its, rv, pl, hz⟩ := I1.list hq
    exact wpAny_pyIter_list pl.isList ⟨_, [_], _, _, H1, rfl, I1.kept (t' := s1.toks) fun b o e => Heap.get?_push_of_some _ e, turn_list a _, ⟨_, Heap.get?_push_size _ rfl, rfl, rfl⟩, fp_new I1, q⟩
  · obtain ⟨its, rv, pl, hz⟩ := I1.tuple hq
    exact wpAny_pyIter_tuple (show s1.heap.IsTuple a its.toArray from pl) ⟨_, [_], _, _, H1, rfl, I1.kept (t' := s1.toks) fun b o e => Heap.get?_push_of_some _ e, turn_tuple a _, ⟨_, Heap.get?_push_size _ rfl, rfl, rfl⟩, fp_new I1, q⟩⟩
theorem jok_list {K : PySem.W.Frag} {G : Hp} {a : Addr} {ds : List Dv} {vs : List V} (h : SqL K G a vs) (q : DpAll K G vs ds) : Jok K G (Itl K a) ds := fun i G1 H1 s gh => by
  have hs : SqL K H1 a vs := (s.trans (sub_le gh)).sqL h
  have l := dpAll_length q
  refine ⟨fun d hd => ?_, fun hl => ⟨vs, hs, by omega⟩⟩
  obtain ⟨v, hv, qv⟩ := dpAll_get q hd
  refine ⟨⟨vs, v, hs, hv⟩, fun x H2 ⟨e1, e2⟩ => .inl ⟨e1, ?_⟩⟩
  have := e2 vs hs
  rw [hv] at this
  cases this
  exact dp_mono s _ _ qv
theorem jok_tup {K : PySem.W.Frag} {G : Hp} {a : Addr} {ds : List Dv} {vs : List V} (h : SqT K G a vs) (q : DpAll K G vs ds) : Jok K G (Itt K a) ds := fun i G1 H1 s gh => by
  have hs : SqT K H1 a vs := (s.trans (sub_le gh)).sqT h
  have l := dpAll_length q
  refine ⟨fun d hd => ?_, fun hl => ⟨vs, hs, by omega⟩⟩
  obtain ⟨v, hv, qv⟩ := dpAll_get q hd
  refine ⟨⟨vs, v, hs, hv⟩, fun x H2 ⟨e1, e2⟩ => .inl ⟨e1, ?_⟩⟩
  have := e2 vs hs
  rw [hv] at this
  cases this
  exact dp_mono s _ _ qv
theorem di_seq (h : PE X e (TE' X.K ix f)) : PI X tg e (TI' X.K ix (iSeq f)) :=
  pi_imp (pi_seqI (de_fr h)) fun σ H R ⟨Fr, FX, G, ρ, ds, ρ', R0, hf, k⟩ => by
    unfold iSeq at hf
    obtain ⟨⟨r0, ρ0⟩, h0, hf⟩ := Option.bind_eq_some_iff.mp hf
    refine ⟨Fr, FX, G, ρ, r0, ρ0, R0, h0, fun v G1 H1 s1 R1 q => ?_⟩
    cases r0 with
    | ow o => cases hf
    | al i => cases hf
    | sh d =>
      simp only at hf
      obtain ⟨es, he, hf⟩ := Option.bind_eq_some_iff.mp hf
      cases hf
      have q' : Dp X.K G1 v d := q
      cases d with
      | list ds =>
        cases he
        cases q' with
        | lst hs ha => exact ⟨_, rfl, .inl ⟨_, R1.sub.sqL hs, k _ G1 H1 s1 R1 (jok_list hs ha)⟩⟩
      | tuple ds =>
        cases he
        cases q' with
        | tup hs ha => exact ⟨_, rfl, .inr ⟨_, R1.sub.sqT hs, k _ G1 H1 s1 R1 (jok_tup hs ha)⟩⟩
      | none => cases he
      | bool b => cases he
      | int b => cases he
      | str b => cases he
      | dict b => cases he
theorem rangeD_get {lo : Int} {n i : Nat} {d : Dv} (h : (rangeD lo n)[i]? = some d) : i < n ∧ d = .int (lo + (i : Nat)) := by
  unfold rangeD at h
  rw [List.getElem?_map] at h
  cases hr : (List.range n)[i]? with
  | none => rw [hr] at h; cases h
  | some j =>
    rw [hr] at h
    obtain ⟨hl, hj⟩ := List.getElem?_eq_some_iff.mp hr
    rw [List.getElem_range] at hj
    subst hj
    cases h
    exact ⟨by simpa using hl, rfl⟩
theorem jok_rng {K : PySem.W.Frag} {G : Hp} {lo : Int} {n : Nat} : Jok K G (Itr lo n) (rangeD lo n) := fun i G1 H1 s gh => by
  refine ⟨fun d hd => ?_, fun hl => (show n ≤ i by simpa [rangeD] using hl)⟩
  obtain ⟨hi, rfl⟩ := rangeD_get hd
  exact ⟨hi, fun x H2 ⟨e1, e2⟩ => .inl ⟨e1, by subst e2; exact .int _⟩⟩
theorem rng_open {r : List Dv → Option (List Dv)} {σ : L2.St} {H : Hp} {R : It → Hp → Prop} {Z : List V → Hp → Prop} (h : TI' X.K ix (iRng r ga) σ H R)
    (k : ∀ G1 H1 (vs : List V) (ds es : List Dv), (∀ a o, G1 a = some o → H1 a = some o) → VDs X.K G1 H1 ds vs → r ds = some es → (∀ J, Jok X.K G1 J es → R J H1) → Z vs H1) : TA' X.K ix ga σ H Z := by
  obtain ⟨Fr, FX, G, ρ, ds, ρ', R0, hf, kk⟩ := h
  unfold iRng at hf
  obtain ⟨⟨rs, ρ0⟩, h0, hf⟩ := Option.bind_eq_some_iff.mp hf
  obtain ⟨es, h1, hf⟩ := Option.bind_eq_some_iff.mp hf
  obtain ⟨fs, h2, hf⟩ := Option.bind_eq_some_iff.mp hf
  cases hf
  exact ⟨Fr, FX, G, ρ, rs, _, R0, h0, fun vs G1 H1 s1 R1 v1 => k G1 H1 vs es _ R1.gh (dats_vd R1 v1 h1) h2 fun J j => kk J G1 H1 s1 R1 j⟩
theorem di_range1 (hg : Gl X "range") (hm : X.mg "range" = none) (ha : PA X [a] (TA' X.K ix ga)) (hs : starEach [a] X.env = [(false, eval a X.env)] := by rfl) : PI X tg (.Call (.Name "range" p) [a] [] pos) (TI' X.K ix (iRng rng1 ga)) :=
  pi_imp (pi_range1 hg hm ha hs) fun σ H R h => rng_open h fun G1 H1 vs ds es gh vd hr k => by
    unfold rng1 at hr
    split at hr
    · split at hr
      · rename_i hb
        cases hr
        obtain ⟨v, rfl, hv⟩ := vds1 vd
        rw [vd_int hv]
        have hb' := of_decide_eq_true hb
        exact ⟨_, rfl, hb'.1, hb'.2, k _ jok_rng⟩
      · cases hr
    · cases hr
theorem di_range2 (hg : Gl X "range") (hm : X.mg "range" = none) (ha : PA X [a, b] (TA' X.K ix ga)) (hs : starEach [a, b] X.env = [(false, eval a X.env), (false, eval b X.env)] := by rfl) (hs2 : starEach [b] X.env = [(false, eval b X.env)] := by rfl) : PI X tg (.Call (.Name "range" p) [a, b] [] pos) (TI' X.K ix (iRng rng2 ga)) :=
  pi_imp (pi_range2 hg hm ha hs hs2) fun σ H R h => rng_open h fun G1 H1 vs ds es gh vd hr k => by
    unfold rng2 at hr
    split at hr
    · split at hr
      · rename_i hb
        cases hr
        obtain ⟨v, v', rfl, hv, hv'⟩ := vds2 vd
        rw [vd_int hv, vd_int hv']
        have h1 := of_decide_eq_true hb.1
        have h2 := of_decide_eq_true hb.2
        exact ⟨_, _, rfl, ⟨h1.1, h1.2, h2.1, h2.2⟩, k _ jok_rng⟩
      · cases hr
    · cases hr
theorem vds3 {K : PySem.W.Frag} {G H : Hp} {d d' d2 : Dv} {xs : List V} (h : VDs K G H [d, d', d2] xs) : ∃ v v' v2, xs = [v, v', v2] ∧ VD K G H d v ∧ VD K G H d' v' ∧ VD K G H d2 v2 := by
  cases h with | cons h1 h2 => cases h2 with | cons h3 h4 => cases h4 with | cons h5 h6 => cases h6; exact ⟨_, _, _, rfl, h1, h3, h5⟩
theorem rangeDC_get {lo c : Int} {n i : Nat} {d : Dv} (h : (rangeDC lo c n)[i]? = some d) : i < n ∧ d = .int (lo + (i : Nat) * c) := by
  unfold rangeDC at h
  rw [List.getElem?_map] at h
  cases hr : (List.range n)[i]? with
  | none => rw [hr] at h; cases h
  | some j =>
    rw [hr] at h
    obtain ⟨hl, hj⟩ := List.getElem?_eq_some_iff.mp hr
    rw [List.getElem_range] at hj
    subst hj
    cases h
    exact ⟨by simpa using hl, rfl⟩
theorem jok_rngC {K : PySem.W.Frag} {G : Hp} {lo c : Int} {n : Nat} : Jok K G (Itc lo c n) (rangeDC lo c n) := fun i G1 H1 s gh => by
  refine ⟨fun d hd => ?_, fun hl => (show n ≤ i by simpa [rangeDC] using hl)⟩
  obtain ⟨hi, rfl⟩ := rangeDC_get hd
  exact ⟨hi, fun x H2 ⟨e1, e2⟩ => .inl ⟨e1, by subst e2; exact .int _⟩⟩
theorem jok_rev {K : PySem.W.Frag} {G : Hp} {a : Addr} {ds : List Dv} {vs : List V} (h : SqL K G a vs) (q : DpAll K G vs ds) : Jok K G (Itv K a vs.length) ds.reverse := fun i G1 H1 s gh => by
  have hs : SqL K H1 a vs := (s.trans (sub_le gh)).sqL h
  have l := dpAll_length q
  refine ⟨fun d hd => ?_, fun hl => ?_⟩
  · have hi : i < ds.length := by have := (List.getElem?_eq_some_iff.mp hd).1; simpa using this
    rw [List.getElem?_reverse hi] at hd
    obtain ⟨v, hv, qv⟩ := dpAll_get q hd
    have hv' : vs[vs.length - 1 - i]? = some v := by rw [l]; exact hv
    refine ⟨?_, fun x H2 y => ?_⟩
    · exact ⟨by omega, vs, v, hs, hv'⟩
    · obtain ⟨e1, e2⟩ := y
      have := e2 vs hs
      rw [hv'] at this
      cases this
      exact .inl ⟨e1, dp_mono s _ _ qv⟩
  · exact (show vs.length ≤ i by simpa [l] using hl)
theorem jok_revT {K : PySem.W.Frag} {G : Hp} {a : Addr} {ds : List Dv} {vs : List V} (h : SqT K G a vs) (q : DpAll K G vs ds) : Jok K G (RT.ItvT K a vs.length) ds.reverse := fun i G1 H1 s gh => by
  have hs : SqT K H1 a vs := (s.trans (sub_le gh)).sqT h
  have l := dpAll_length q
  refine ⟨fun d hd => ?_, fun hl => ?_⟩
  · have hi : i < ds.length := by have := (List.getElem?_eq_some_iff.mp hd).1; simpa using this
    rw [List.getElem?_reverse hi] at hd
    obtain ⟨v, hv, qv⟩ := dpAll_get q hd
    have hv' : vs[vs.length - 1 - i]? = some v := by rw [l]; exact hv
    refine ⟨?_, fun x H2 y => ?_⟩
    · exact ⟨by omega, vs, v, hs, hv'⟩
    · obtain ⟨e1, e2⟩ := y
      have := e2 vs hs
      rw [hv'] at this
      cases this
      exact .inl ⟨e1, dp_mono s _ _ qv⟩
  · exact (show vs.length ≤ i by simpa [l] using hl)
def iRevS (f : M) : ML := fun ρ => (iSeq f ρ).bind fun x => some (x.1.reverse, x.2)
theorem di_rev (hg : Gl X "reversed") (hm : X.mg "reversed" = none) (he : PE X e (TE' X.K ix f)) (hs : starEach [e] X.env = (false, eval e X.env) :: starEach [] X.env := by rfl) : PI X tg (.Call (.Name "reversed" p) [e] [] pos) (TI' X.K ix (iRevS f)) :=
  pi_imp (RT.pi_revA hg hm (de_fr he) hs) fun σ H R ⟨Fr, FX, G, ρ, ds, ρ', R0, hf, k⟩ => by
    unfold iRevS iSeq at hf
    obtain ⟨⟨ds0, ρ1⟩, hq, hf⟩ := Option.bind_eq_some_iff.mp hf
    cases hf
    obtain ⟨⟨r0, ρ0⟩, h0, hq⟩ := Option.bind_eq_some_iff.mp hq
    refine ⟨Fr, FX, G, ρ, r0, ρ0, R0, h0, fun v G1 H1 s1 R1 q => ?_⟩
    cases r0 with
    | ow o => cases hq
    | al i => cases hq
    | sh d =>
      simp only at hq
      obtain ⟨es, he, hq⟩ := Option.bind_eq_some_iff.mp hq
      cases hq
      have q' : Dp X.K G1 v d := q
      cases d with
      | list ds =>
        cases he
        cases q' with
        | lst hs ha => exact ⟨_, _, rfl, .inl ⟨R1.sub.sqL hs, k _ G1 H1 s1 R1 (jok_rev hs ha)⟩⟩
      | tuple ds =>
        cases he
        cases q' with
        | tup hs ha => exact ⟨_, _, rfl, .inr ⟨R1.sub.sqT hs, k _ G1 H1 s1 R1 (jok_revT hs ha)⟩⟩
      | none => cases he
      | bool b => cases he
      | int b => cases he
      | str b => cases he
      | dict b => cases he
theorem di_range3 {c : Expr} (hg : Gl X "range") (hm : X.mg "range" = none) (ha : PA X [a, b, c] (TA' X.K ix ga)) (h1 : starEach [a, b, c] X.env = (false, eval a X.env) :: starEach [b, c] X.env := by rfl) (h2 : (backTo pos (starEach [b, c] X.env)).any (·.1) = false := by rfl) :
    PI X tg (.Call (.Name "range" p) [a, b, c] [] pos) (TI' X.K ix (iRng rng3 ga)) :=
  pi_imp (pi_range3 hg hm ha h1 h2) fun σ H R h => rng_open h fun G1 H1 vs ds es gh vd hr k => by
    unfold rng3 at hr
    split at hr
    · split at hr
      · rename_i hb
        cases hr
        obtain ⟨v, v', v2, rfl, hv, hv', hv2⟩ := vds3 vd
        rw [vd_int hv, vd_int hv', vd_int hv2]
        have h1 := of_decide_eq_true hb.1
        have h2 := of_decide_eq_true hb.2.1
        rw [hb.2.2]
        exact ⟨_, _, _, _, rfl, RgC.neg h1.1 h1.2 h2.1 h2.2, k _ jok_rngC⟩
      · cases hr
    · cases hr

/-! ### wiped slots -/
def wipeR : Rho → List Nat → Rho
  | ρ, [] => ρ
  | ρ, i :: is => (wipeR ρ is).set i .no
theorem wipeR_length (ρ : Rho) : ∀ is : List Nat, (wipeR ρ is).length = ρ.length
  | [] => rfl
  | i :: is => by unfold wipeR; rw [List.length_set, wipeR_length ρ is]
theorem wipeR_out {ρ : Rho} {j : Nat} : ∀ {is : List Nat}, j ∉ is → (wipeR ρ is)[j]? = ρ[j]?
  | [], _ => rfl
  | i :: is, h => by
    unfold wipeR
    rw [List.getElem?_set_ne (fun z => h (by rw [z]; exact List.mem_cons_self)), wipeR_out fun z => h (List.mem_cons_of_mem _ z)]
theorem wipeR_in {ρ : Rho} {j : Nat} {s : Sl} : ∀ {is : List Nat}, j ∈ is → (wipeR ρ is)[j]? = some s → s = .no
  | i :: is, h, e => by
    unfold wipeR at e
    by_cases hj : i = j
    · subst hj
      have hl : i < (wipeR ρ is).length := by
        have := (List.getElem?_eq_some_iff.mp e).1
        simpa using this
      rw [List.getElem?_set_self hl] at e
      exact (Option.some.inj e).symm
    · rw [List.getElem?_set_ne hj] at e
      exact wipeR_in (List.mem_of_ne_of_mem (fun z => hj z.symm) h) e
theorem wipe_in {σ : L2.St} {j : Nat} {s : Option V} : ∀ {is : List Nat}, j ∈ is → (wipe σ is)[j]? = some s → s = none
  | i :: is, h, e => by
    unfold wipe at e
    by_cases hj : i = j
    · subst hj
      have hl : i < (wipe σ is).length := by
        have := (List.getElem?_eq_some_iff.mp e).1
        simpa using this
      rw [List.getElem?_set_self hl] at e
      exact (Option.some.inj e).symm
    · rw [List.getElem?_set_ne hj] at e
      exact wipe_in (List.mem_of_ne_of_mem (fun z => hj z.symm) h) e
theorem wipe_eq {σ τ : L2.St} {is : List Nat} (hl : σ.length = τ.length) (h : ∀ j, j ∉ is → σ[j]? = τ[j]?) : wipe σ is = wipe τ is := by
  refine List.ext_getElem? fun j => ?_
  by_cases hj : j ∈ is
  · by_cases hlt : j < σ.length
    · have h1 : j < (wipe σ is).length := by rw [wipe_length]; exact hlt
      have h2 : j < (wipe τ is).length := by rw [wipe_length]; omega
      have e1 := List.getElem?_eq_getElem h1
      have e2 := List.getElem?_eq_getElem h2
      rw [e1, e2, wipe_in hj e1, wipe_in hj e2]
    · rw [List.getElem?_eq_none (by rw [wipe_length]; omega), List.getElem?_eq_none (by rw [wipe_length]; omega)]
  · rw [wipe_out hj, wipe_out hj]
    exact h j hj
theorem wipe_wipe {σ : L2.St} {is : List Nat} : wipe (wipe σ is) is = wipe σ is := wipe_eq (wipe_length _ _) fun j hj => wipe_out hj
theorem RS.wiped {K : PySem.W.Frag} {Fr G H : Hp} {FX : Nat → Option V} {ρ : Rho} {σ : L2.St} {own : List Nat} (R : RS K ix Fr FX G ρ σ H) (ho : ∀ i ∈ own, i ∉ ix) : RS K ix Fr FX G (wipeR ρ own) (wipe σ own) H := by
  refine ⟨R.gh, R.fh, R.gf, by rw [wipeR_length, wipe_length]; exact R.len, fun i s e => ?_, fun i j a o o' ne e1 e2 e3 e4 => ?_, fun i v e => ?_⟩
  · by_cases hi : i ∈ own
    · rw [wipeR_in hi e]; trivial
    · rw [wipeR_out hi] at e
      rw [wipe_out hi]
      exact R.sl i s e
  · by_cases hi : i ∈ own
    · cases wipeR_in hi e1
    · by_cases hj : j ∈ own
      · cases wipeR_in hj e2
      · rw [wipeR_out hi] at e1
        rw [wipeR_out hj] at e2
        rw [wipe_out hi] at e3
        rw [wipe_out hj] at e4
        exact R.sep i j a o o' ne e1 e2 e3 e4
  · obtain ⟨h1, h2⟩ := R.fx i v e
    have hi : i ∉ own := fun z => ho i z h1
    exact ⟨h1, by rw [wipe_out hi]; exact h2⟩
/-- an object outside changes -/
theorem RS.out {K : PySem.W.Frag} {Fr G H : Hp} {FX : Nat → Option V} {ρ : Rho} {σ : L2.St} {p : Addr} {u : HO} (R : RS K ix Fr FX G ρ σ H) (g : G p = none) (f0 : Fr p = none) (hn : ∀ (i : Nat) (o' : Ob), ρ[i]? = some (.ow o') → σ[i]? ≠ some (some (.ref p))) : RS K ix Fr FX G ρ σ (upd H p u) := by
  refine ⟨fun a o e => ?_, fun a o e => ?_, R.gf, R.len, fun i s e => ?_, R.sep, R.fx⟩
  · have ha : a ≠ p := fun z => by subst z; rw [g] at e; cases e
    rw [upd_ne ha]; exact R.gh a o e
  · have ha : a ≠ p := fun z => by subst z; rw [f0] at e; cases e
    rw [upd_ne ha]; exact R.fh a o e
  · refine (R.sl i s e).mono (Sub.refl _) fun a o' e1 e2 g' f' => ?_
    have ha : a ≠ p := fun z => by subst z; subst e2; exact hn i _ e e1
    rw [upd_ne ha]
    exact ⟨g', rfl⟩

/-! ### comprehensions over one source -/
def cYes : MB := fun ρ => some (true, ρ)
def lcS (own : List Nat) (t : MT) (c : MB) (fe : M) : List Dv → List Dv → Rho → Option (List Dv × Rho)
  | [], acc, ρ => some (acc, ρ)
  | d :: ds, acc, ρ => (t d (wipeR ρ own)).bind fun ρ1 => (c ρ1).bind fun x => if x.1 = true then (frM fe x.2).bind fun y => (match y.1 with
      | .sh e => if acc.length < sizeLine then lcS own t c fe ds (acc ++ [e]) y.2 else none
      | _ => none) else lcS own t c fe ds acc x.2
/-- own slots as they were -/
def putB (ρ ρ0 : Rho) : List Nat → Rho
  | [] => ρ
  | i :: is => match ρ0[i]? with
    | some s => (putB ρ ρ0 is).set i s
    | none => putB ρ ρ0 is
def noOw (ρ : Rho) (own : List Nat) : Bool := own.all fun i => match ρ[i]? with
  | some (.ow _) => false
  | _ => true
def eLc (own : List Nat) (fi : ML) (t : MT) (c : MB) (fe : M) : M := fun ρ => (fi ρ).bind fun x => if noOw x.2 own = true then (lcS own t c fe x.1 [] x.2).bind fun y => some (.ow (.lst y.1), putB y.2 x.2 own) else none
theorem putB_length (ρ ρ0 : Rho) : ∀ is : List Nat, (putB ρ ρ0 is).length = ρ.length
  | [] => rfl
  | i :: is => by
    unfold putB
    split
    · rw [List.length_set, putB_length ρ ρ0 is]
    · exact putB_length ρ ρ0 is
theorem putB_out {ρ ρ0 : Rho} {j : Nat} : ∀ {is : List Nat}, j ∉ is → (putB ρ ρ0 is)[j]? = ρ[j]?
  | [], _ => rfl
  | i :: is, h => by
    unfold putB
    split
    · rw [List.getElem?_set_ne (fun z => h (by rw [z]; exact List.mem_cons_self)), putB_out fun z => h (List.mem_cons_of_mem _ z)]
    · exact putB_out fun z => h (List.mem_cons_of_mem _ z)
theorem putB_in {ρ ρ0 : Rho} {j : Nat} {s : Sl} (hl : ρ0.length = ρ.length) : ∀ {is : List Nat}, j ∈ is → (putB ρ ρ0 is)[j]? = some s → ρ0[j]? = some s
  | i :: is, h, e => by
    unfold putB at e
    by_cases hj : i = j
    · subst hj
      split at e
      · rename_i s' hs'
        have hlt : i < (putB ρ ρ0 is).length := by
          have := (List.getElem?_eq_some_iff.mp e).1
          simpa using this
        rw [List.getElem?_set_self hlt] at e
        rw [hs']; exact e
      · rename_i hs'
        have h1 : i < ρ.length := by
          have := (List.getElem?_eq_some_iff.mp e).1
          rw [putB_length] at this
          exact this
        rw [List.getElem?_eq_getElem (by omega)] at hs'
        cases hs'
    · have h' : j ∈ is := List.mem_of_ne_of_mem (fun z => hj z.symm) h
      split at e
      · rw [List.getElem?_set_ne hj] at e
        exact putB_in hl h' e
      · exact putB_in hl h' e
theorem RS.unwiped {K : PySem.W.Frag} {Fr G0 H0 G H : Hp} {FX : Nat → Option V} {ρ ρ0 : Rho} {σ : L2.St} {own : List Nat} (R0 : RS K ix Fr FX G0 ρ0 σ H0) (R : RS K ix Fr FX G (wipeR ρ own) (wipe σ own) H) (s : Sub G0 G) (hn : noOw ρ0 own = true) :
    RS K ix Fr FX G (putB ρ ρ0 own) σ H := by
  have hlen : ρ.length = σ.length := by have := R.len; rw [wipeR_length, wipe_length] at this; exact this
  have hlen0 : ρ0.length = ρ.length := by rw [R0.len, hlen]
  have nw : ∀ {i : Nat} {o : Ob}, i ∈ own → ρ0[i]? ≠ some (.ow o) := fun {i o} hi e => by
    have := List.all_eq_true.mp hn i hi
    rw [e] at this
    cases this
  refine ⟨R.gh, R.fh, R.gf, by rw [putB_length]; exact hlen, fun i s' e => ?_, fun i j a o o' ne e1 e2 e3 e4 => ?_, R0.fx⟩
  · by_cases hi : i ∈ own
    · have e' := putB_in hlen0 hi e
      refine (R0.sl i s' e').mono s fun a o e1 e2 => ?_
      subst e2
      exact absurd e' (nw hi)
    · rw [putB_out hi] at e
      have := R.sl i s' (by rw [wipeR_out hi]; exact e)
      rw [wipe_out hi] at this
      exact this
  · by_cases hi : i ∈ own
    · exact absurd (putB_in hlen0 hi e1) (nw hi)
    · by_cases hj : j ∈ own
      · exact absurd (putB_in hlen0 hj e2) (nw hj)
      · rw [putB_out hi] at e1
        rw [putB_out hj] at e2
        exact R.sep i j a o o' ne (by rw [wipeR_out hi]; exact e1) (by rw [wipeR_out hj]; exact e2) (by rw [wipe_out hi]; exact e3) (by rw [wipe_out hj]; exact e4)
theorem wipeR_wipeR (ρ : Rho) (is : List Nat) : wipeR (wipeR ρ is) is = wipeR ρ is := by
  refine List.ext_getElem? fun j => ?_
  by_cases hj : j ∈ is
  · by_cases hlt : j < ρ.length
    · have h1 : j < (wipeR (wipeR ρ is) is).length := by rw [wipeR_length, wipeR_length]; exact hlt
      have h2 : j < (wipeR ρ is).length := by rw [wipeR_length]; exact hlt
      have e1 := List.getElem?_eq_getElem h1
      have e2 := List.getElem?_eq_getElem h2
      rw [e1, e2, wipeR_in hj e1, wipeR_in hj e2]
    · rw [List.getElem?_eq_none (by rw [wipeR_length, wipeR_length]; omega), List.getElem?_eq_none (by rw [wipeR_length]; omega)]
  · rw [wipeR_out hj]
variable {own tis : List Nat} {fi : ML} {t : MT} {c : MB} {fe : M}
theorem lc_ok {σ : L2.St} {H : Hp} {Q : VK} (ho : ∀ i ∈ own, i ∉ ix) (ht : ∀ i ∈ tis, i ∈ own) (h : TE' X.K ix (eLc own fi t c fe) σ H Q) :
    tLc (TI' X.K ix fi) (TG' X.K ix tis t) (TT' X.K ix c) (TE' X.K ix (frM fe)) own σ H Q := by
  obtain ⟨Fr, FX, G, ρ, r, ρ', R, hf, k⟩ := h
  unfold eLc at hf
  obtain ⟨⟨ds, ρ0⟩, h0, hf⟩ := Option.bind_eq_some_iff.mp hf
  simp only at hf
  split at hf
  rotate_left
  · cases hf
  rename_i hno
  obtain ⟨⟨accF, ρF⟩, h1, hf⟩ := Option.bind_eq_some_iff.mp hf
  cases hf
  refine ⟨Fr, FX, G, ρ, ds, ρ0, R, h0, fun J G0 H0 s0 R0 jk D hD => ?_⟩
  have gD := (R0.none_of hD).1
  have fD := (R0.none_of hD).2
  refine ⟨fun i m H => m = ds.length - i ∧ i ≤ ds.length ∧ ∃ G1 ρ1 acc accv, Sub G0 G1 ∧ H D = some (.lst accv) ∧ DpAll X.K G1 accv acc ∧ RS X.K ix (upd Fr D (.lst accv)) FX G1 (wipeR ρ1 own) (wipe σ own) H ∧ lcS own t c fe (ds.drop i) acc ρ1 = some (accF, ρF),
    ⟨ds.length, by simp, Nat.zero_le _, G0, ρ0, [], [], Sub.refl _, upd_same, .nil, ?_, h1⟩, ?_⟩
  · exact ((R0.wiped ho).newH hD).frame gD upd_same ((R0.wiped ho).notIn hD)
  rintro i m H1 ⟨rfl, hle, G1, ρ1, acc, accv, s1, hv, qa, R1, e1⟩
  have gD1 : G1 D = none := R1.gf D (by rw [upd_same]; simp)
  obtain ⟨j1, j2⟩ := jk i G1 H1 s1 R1.gh
  by_cases hlt : i < ds.length
  · have hd : ds[i]? = some ds[i] := List.getElem?_eq_getElem hlt
    obtain ⟨j3, j4⟩ := j1 _ hd
    rw [List.drop_eq_getElem_cons hlt] at e1
    unfold lcS at e1
    obtain ⟨ρ2, e2, e1⟩ := Option.bind_eq_some_iff.mp e1
    obtain ⟨⟨kb, ρ3⟩, e3, e1⟩ := Option.bind_eq_some_iff.mp e1
    refine .inr ⟨j3, fun H => ∃ G1 ρ1 acc accv, Sub G0 G1 ∧ H D = some (.lst accv) ∧ DpAll X.K G1 accv acc ∧ RS X.K ix (upd Fr D (.lst accv)) FX G1 (wipeR ρ1 own) (wipe σ own) H ∧ lcS own t c fe (ds.drop (i + 1)) acc ρ1 = some (accF, ρF), fun H' w => ⟨ds.length - (i + 1), by omega, rfl, hlt, w⟩, fun x H2 y => ?_⟩
    have key : ∃ G2, Sub G1 G2 ∧ RS X.K ix (upd Fr D (.lst accv)) FX G2 (wipeR ρ1 own) (wipe σ own) H2 ∧ Dp X.K G2 x ds[i] := by
      rcases j4 x H2 y with ⟨rfl, q⟩ | ⟨p, o, hp, rfl, q⟩
      · exact ⟨G1, Sub.refl _, R1, q⟩
      · exact ⟨_, sub_upd (R1.none_of hp).1, R1.newG hp, q⟩
    obtain ⟨G2, s2, R2, q⟩ := key
    refine ⟨_, FX, G2, _, _, ρ2, R2, q, e2, fun G3 σ3 H3 s3 n3 R3 => ?_⟩
    have hw : wipe σ3 own = wipe σ own := by
      have := wipe_eq (is := own) n3.1 fun j hj => n3.2 j fun z => hj (ht j z)
      rw [this, wipe_wipe]
    refine ⟨hw, _, FX, G3, ρ2, kb, ρ3, R3, e3, fun G4 H4 s4 R4 => ?_⟩
    cases kb with
    | false =>
      rw [if_neg Bool.false_ne_true]
      simp only [Bool.false_eq_true, if_false] at e1
      have W4 := R4.wiped (own := own) ho
      rw [hw] at W4
      exact ⟨G4, ρ3, acc, accv, ((s1.trans s2).trans s3).trans s4, R4.fh D _ upd_same, dpAll_mono ((s2.trans s3).trans s4) _ _ qa, W4, e1⟩
    | true =>
      rw [if_pos rfl]
      simp only [if_true] at e1
      obtain ⟨⟨r5, ρ5⟩, e5, e1⟩ := Option.bind_eq_some_iff.mp e1
      refine ⟨_, FX, G4, ρ3, r5, ρ5, R4, e5, fun z G5 H5 s5 R5 v5 => ?_⟩
      cases r5 with
      | ow o => cases e1
      | al o => cases e1
      | sh d5 =>
        simp only at e1
        split at e1
        · rename_i hz
          have hD5 : H5 D = some (.lst accv) := R5.fh D _ upd_same
          have gD5 : G5 D = none := R5.gf D (by rw [upd_same]; simp)
          refine ⟨accv, hD5, by rw [dpAll_length qa]; exact hz, ?_⟩
          have W5 := R5.wiped (own := own) ho
          rw [hw] at W5
          have nD : ∀ (i : Nat) (o' : Ob), (wipeR ρ5 own)[i]? = some (.ow o') → (wipe σ own)[i]? ≠ some (some (.ref D)) := fun i o' z1 z2 => by
            obtain ⟨a, ea, _, fa, _⟩ := W5.sl i _ z1
            rw [z2] at ea
            cases ea
            rw [upd_same] at fa
            cases fa
          have W6 := (W5.unframe fD).out (u := .lst (accv ++ [z])) gD5 fD nD
          have s6 : Sub G1 G5 := ((s2.trans s3).trans s4).trans s5
          exact ⟨G5, ρ5, acc ++ [d5], accv ++ [z], s1.trans s6, upd_same, dpAll_append (dpAll_mono s6 _ _ qa) (.cons v5 .nil), W6.frame gD5 upd_same nD, e1⟩
        · cases e1
  · have hi : i = ds.length := by omega
    subst hi
    rw [List.drop_length] at e1
    unfold lcS at e1
    cases e1
    refine .inl ⟨j2 (Nat.le_refl _), ?_⟩
    have nD : ∀ (i : Nat) (o' : Ob), (wipeR ρF own)[i]? = some (.ow o') → (wipe σ own)[i]? ≠ some (some (.ref D)) := fun i o' z1 z2 => by
      obtain ⟨a, ea, _, fa, _⟩ := R1.sl i _ z1
      rw [z2] at ea
      cases ea
      rw [upd_same] at fa
      cases fa
    have RZ := RS.unwiped R0 (R1.unframe fD) s1 hno
    refine k _ G1 H1 (s0.trans s1) RZ ⟨D, rfl, gD1, fD, ⟨accv, hv, qa⟩, fun i o' z1 z2 => ?_⟩
    by_cases hi : i ∈ own
    · have hl : ρ0.length = ρF.length := by
        have l1 := R0.len
        have l2 := R1.len
        rw [wipeR_length, wipe_length] at l2
        omega
      have e' := putB_in hl hi z1
      have := List.all_eq_true.mp hno i hi
      rw [e'] at this
      cases this
    · rw [putB_out hi] at z1
      exact nD i o' (by rw [wipeR_out hi]; exact z1) (by rw [wipe_out hi]; exact z2)
theorem dp_nil : PTs X [] (TT' X.K ix cYes) := pts_imp pts_nil fun σ H Q ⟨Fr, FX, G, ρ, b, ρ', R, hf, k⟩ => by
  cases hf
  exact k G H (Sub.refl _) R
theorem dp_one {e : Expr} (h : PT X e (TT' X.K ix c)) : PTs X [e] (TT' X.K ix c) := pts_one h
end
end DL

set_option Elab.async false
set_option linter.all false
set_option autoImplicit false
set_option maxRecDepth 100000
set_option maxHeartbeats 1000000
namespace DL
open PySem PySem.Spec PyProof.Rows L2

section
variable {X : Cx} {ix : List Nat} {e a b : Expr} {es : List Expr} {f fa fb fc : M} {ga : MA} {g : MS} {pos p : Pos}
variable {tis : List Nat} {fi : ML} {t : MT} {c : MB} {fe : M}
theorem de_lc {elt tg iter : Expr} {ifs : List Expr} {scope : Scope} {own : List (Str × Nat)} (hc : X.calm = true) (hN : X.N.Nodup) (hi : PI X tg iter (TI' X.K ix fi)) (ok : BlkOk X.N X.env.scope scope own)
    (hg : ∀ (s : Shared) (H : Hp) (C : Addr) (cl : List (Str × Addr)) (fp : List Addr), PG (X.blk s H scope (compEnvC scope cl C X.env) fp) tg (TG' X.K ix tis t))
    (ht : ∀ (s : Shared) (H : Hp) (C : Addr) (cl : List (Str × Addr)) (fp : List Addr), PTs (X.blk s H scope (compEnvC scope cl C X.env) fp) ifs (TT' X.K ix c))
    (he : ∀ (s : Shared) (H : Hp) (C : Addr) (cl : List (Str × Addr)) (fp : List Addr), PE (X.blk s H scope (compEnvC scope cl C X.env) fp) elt (TE' X.K ix fe))
    (ho : ∀ i ∈ own.map (·.2), i ∉ ix := by decide) (hti : ∀ i ∈ tis, i ∈ own.map (·.2) := by decide) (hs : ∀ x, foldedSetIterable iter X.env x = pure x := by intro _; rfl) :
    PE X (.ListComp elt [⟨tg, iter, ifs, 0⟩] scope pos) (TE' X.K ix (eLc (own.map (·.2)) fi t c fe)) :=
  pe_imp (pe_lc hc hN hi ok hg ht (fun s H C cl fp => de_fr (he s H C cl fp)) hs) fun _ _ _ h => lc_ok ho hti h
theorem ds_setLc {i : Nat} {y : Str} {py spos : Pos} {elt tg iter : Expr} {ifs : List Expr} {scope : Scope} {own : List (Str × Nat)} (hc : X.calm = true) (hN : X.N.Nodup) (hy : X.N[i]? = some y) (hyl : X.env.scope.names.lookup y = some .local) (hix : i ∉ ix)
    (hsw : swapsWith (.ListComp elt [⟨tg, iter, ifs, 0⟩] scope pos) (some (.Name y py)) spos.line X.env = pure true) (hi : PI X tg iter (TI' X.K ix fi)) (ok : BlkOk X.N X.env.scope scope own)
    (hg : ∀ (s : Shared) (H : Hp) (C : Addr) (cl : List (Str × Addr)) (fp : List Addr), PG (X.blk s H scope (compEnvC scope cl C X.env) fp) tg (TG' X.K ix tis t))
    (ht : ∀ (s : Shared) (H : Hp) (C : Addr) (cl : List (Str × Addr)) (fp : List Addr), PTs (X.blk s H scope (compEnvC scope cl C X.env) fp) ifs (TT' X.K ix c))
    (he : ∀ (s : Shared) (H : Hp) (C : Addr) (cl : List (Str × Addr)) (fp : List Addr), PE (X.blk s H scope (compEnvC scope cl C X.env) fp) elt (TE' X.K ix fe))
    (ho : ∀ i ∈ own.map (·.2), i ∉ ix := by decide) (hti : ∀ i ∈ tis, i ∈ own.map (·.2) := by decide) (hs : ∀ x, foldedSetIterable iter X.env x = pure x := by intro _; rfl) :
    PS X (.Assign [.Name y py] (.ListComp elt [⟨tg, iter, ifs, 0⟩] scope pos) spos) (TS' X.K ix (sSet i (eLc (own.map (·.2)) fi t c fe))) :=
  ps_imp (ps_setLc hc hN hy hyl hsw hi ok hg ht (fun s H C cl fp => de_fr (he s H C cl fp)) hs) fun _ _ _ h => lc_ok ho hti (asg_ok hix h)

/-! ### a def -/
def okA : Nat → List Nat → List Sl → Bool
  | _, _, [] => true
  | n, ix, .ow _ :: as => ix.contains n && okA (n + 1) ix as
  | n, ix, _ :: as => okA (n + 1) ix as
def outA : Nat → List Nat → List Sl → Rho → List Sl
  | n, ix, s :: as, r :: ρ => (if ix.contains n = true then r else s) :: outA (n + 1) ix as ρ
  | n, ix, _ :: as, [] => .no :: outA (n + 1) ix as []
  | _, _, [], _ => []
def runF (np N : Nat) (ix : List Nat) (g : MS) : FnS := fun as => if okA 0 ix as = true then (g (as ++ List.replicate (N - np) .no)).bind fun fl => (match fl with
  | .nx ρ => some (.sh .none, outA 0 ix as ρ)
  | .rt (.sh d) ρ => some (.sh d, outA 0 ix as ρ)
  | .rt (.ow o) ρ => some (.ow o, outA 0 ix as ρ)
  | _ => none) else none
theorem okA_get : ∀ {as : List Sl} {n i : Nat} {o : Ob}, okA n ix as = true → as[i]? = some (.ow o) → n + i ∈ ix
  | [], n, i, o, h, e => by simp at e
  | .ow o' :: as, n, 0, o, h, e => by
    unfold okA at h
    rw [Bool.and_eq_true] at h
    simpa using h.1
  | .ow o' :: as, n, i + 1, o, h, e => by
    unfold okA at h
    rw [Bool.and_eq_true] at h
    have := okA_get h.2 (i := i) (by simpa using e)
    rw [show n + (i + 1) = n + 1 + i by omega]
    exact this
  | .no :: as, n, 0, o, h, e => by simp at e
  | .sh d :: as, n, 0, o, h, e => by simp at e
  | .no :: as, n, i + 1, o, h, e => by
    have h' : okA (n + 1) ix as = true := h
    have := okA_get h' (i := i) (by simpa using e)
    rw [show n + (i + 1) = n + 1 + i by omega]
    exact this
  | .sh d :: as, n, i + 1, o, h, e => by
    have h' : okA (n + 1) ix as = true := h
    have := okA_get h' (i := i) (by simpa using e)
    rw [show n + (i + 1) = n + 1 + i by omega]
    exact this
theorem outA_get : ∀ {as : List Sl} {ρ : Rho} {n i : Nat} {s : Sl}, (outA n ix as ρ)[i]? = some s → (n + i ∈ ix ∧ ρ[i]? = some s) ∨ (n + i ∉ ix ∧ as[i]? = some s) ∨ s = .no
  | [], [], n, i, s, e => by unfold outA at e; simp at e
  | [], _ :: _, n, i, s, e => by unfold outA at e; simp at e
  | s0 :: as, [], n, 0, s, e => by
    unfold outA at e
    simp only [List.getElem?_cons_zero, Option.some.injEq] at e
    exact .inr (.inr e.symm)
  | s0 :: as, [], n, i + 1, s, e => by
    unfold outA at e
    simp only [List.getElem?_cons_succ] at e
    rw [show n + (i + 1) = n + 1 + i by omega]
    simp only [List.getElem?_cons_succ]
    rcases outA_get e with ⟨_, h⟩ | h | h
    · simp at h
    · exact .inr (.inl h)
    · exact .inr (.inr h)
  | s0 :: as, r :: ρ, n, 0, s, e => by
    unfold outA at e
    simp only [List.getElem?_cons_zero, Option.some.injEq] at e
    by_cases h : n ∈ ix
    · rw [if_pos (by simpa using h)] at e
      exact .inl ⟨by simpa using h, by simp [e]⟩
    · rw [if_neg (by simpa using h)] at e
      exact .inr (.inl ⟨by simpa using h, by simp [e]⟩)
  | s0 :: as, r :: ρ, n, i + 1, s, e => by
    unfold outA at e
    simp only [List.getElem?_cons_succ] at e
    rw [show n + (i + 1) = n + 1 + i by omega]
    simp only [List.getElem?_cons_succ]
    exact outA_get e
theorem outA_length : ∀ {as : List Sl} {ρ : Rho} {n : Nat}, (outA n ix as ρ).length = as.length
  | [], [], n => by unfold outA; rfl
  | [], _ :: _, n => by unfold outA; rfl
  | s0 :: as, [], n => by
    unfold outA
    simp only [List.length_cons]
    rw [outA_length]
  | s0 :: as, r :: ρ, n => by
    unfold outA
    simp only [List.length_cons]
    rw [outA_length]
theorem fn_d {P : Program} {w : World} {K : PySem.W.Frag} {mg : Str → Option Value} {base : Heap} {x qual : Str} {st : Stmt} {fA : Addr} {fd : FuncData} {N ps : List Str} {k : Nat} (F : Fun K x qual st fA fd) (S : FnScope N ps (defScope st)) (ix : List Nat) (g : MS)
    (hN : ps.length ≤ N.length := by decide)
    (hb : ∀ (cdv : Value) (A : Around) (outer : List Env) (s : Shared) (H : Hp) (E : XK), Room k (A.deeper (envOfC qual (defScope st) s.heap.objs.size fA cdv)) →
      PSs (cxOf CX0 P w K mg base N qual (defScope st) fA cdv A outer s H E).nox (defBody st) (TS' K ix g)) : FnOk P w K mg base CX0 (k + 1) fA fd ps (spD K ps.length (runF ps.length N.length ix g)) := by
  refine F.ok S (fun vs H Q E h => ?_) (fun cdv A outer s H vs Q E hr h => ⟨_, hb cdv A outer s H E hr, ?_⟩)
  · obtain ⟨_, _, _, _, _, h, _⟩ := h
    exact h
  · obtain ⟨Fr, G, as, r, as', hl, R, hF, kk⟩ := h
    unfold runF at hF
    split at hF
    rotate_left
    · cases hF
    rename_i hok
    obtain ⟨fl, hg, hF⟩ := Option.bind_eq_some_iff.mp hF
    have la : as.length = vs.length := by have := R.len; simpa using this
    have sget : ∀ {i : Nat}, i < vs.length → (L2.start N vs)[i]? = (vs.map some)[i]? := fun {i} h => by
      unfold L2.start
      rw [List.getElem?_append_left (by simpa using h)]
    have gget : ∀ {i : Nat} {v : V}, vs[i]? = some v → (L2.start N vs)[i]? = some (some v) := fun {i v} e => by
      rw [sget (List.getElem?_eq_some_iff.mp e).1, List.getElem?_map, e]
      rfl
    have R0 : RS K ix Fr (fun i => if i ∈ ix then vs[i]? else none) G (as ++ List.replicate (N.length - ps.length) .no) (L2.start N vs) H := by
      refine ⟨R.gh, R.fh, R.gf, ?_, fun i s' e => ?_, fun i j a o o' ne e1 e2 e3 e4 => ?_, fun i v e => ?_⟩
      · unfold L2.start
        simp [la, hl]
      · by_cases hi : i < as.length
        · rw [List.getElem?_append_left hi] at e
          rw [sget (by omega)]
          exact R.sl i s' e
        · rw [List.getElem?_append_right (by omega)] at e
          have := List.eq_of_mem_replicate (List.mem_of_getElem? e)
          subst this
          trivial
      · have lt : ∀ {i : Nat} {o : Ob}, (as ++ List.replicate (N.length - ps.length) Sl.no)[i]? = some (.ow o) → i < as.length ∧ as[i]? = some (.ow o) := fun {i o} e => by
          by_cases hi : i < as.length
          · rw [List.getElem?_append_left hi] at e
            exact ⟨hi, e⟩
          · rw [List.getElem?_append_right (by omega)] at e
            have := List.eq_of_mem_replicate (List.mem_of_getElem? e)
            cases this
        obtain ⟨l1, f1⟩ := lt e1
        obtain ⟨l2, f2⟩ := lt e2
        rw [sget (by omega)] at e3 e4
        exact R.sep i j a o o' ne f1 f2 e3 e4
      · by_cases hi : i ∈ ix
        · rw [if_pos hi] at e
          exact ⟨hi, gget e⟩
        · rw [if_neg hi] at e
          cases e
    -- the arguments' slots behind the body
    have fin : ∀ {G' : Hp} {ρ : Rho} {σ' : L2.St} {H' : Hp}, Sub G G' → RS K ix Fr (fun i => if i ∈ ix then vs[i]? else none) G' ρ σ' H' → RS K [] Fr (fun _ => none) G' (outA 0 ix as ρ) (vs.map some) H' := by
      intro G' ρ σ' H' su R'
      have at' : ∀ {i : Nat}, i ∈ ix → i < vs.length → σ'[i]? = (vs.map some)[i]? := fun {i} hi hlt => by
        have e : vs[i]? = some vs[i] := List.getElem?_eq_getElem hlt
        obtain ⟨_, h2⟩ := R'.fx i vs[i] (by rw [if_pos hi]; exact e)
        rw [h2, List.getElem?_map, e]
        rfl
      have lt' : ∀ {i : Nat} {s : Sl}, (outA 0 ix as ρ)[i]? = some s → i < vs.length := fun {i s} e => by
        have := (List.getElem?_eq_some_iff.mp e).1
        rw [outA_length] at this
        omega
      have owix : ∀ {i : Nat} {o : Ob}, (outA 0 ix as ρ)[i]? = some (.ow o) → i ∈ ix ∧ ρ[i]? = some (.ow o) := fun {i o} e => by
        rcases outA_get e with ⟨h1, h2⟩ | ⟨h1, h2⟩ | h
        · exact ⟨by simpa using h1, h2⟩
        · exact absurd (okA_get hok h2) h1
        · cases h
      refine ⟨R'.gh, R'.fh, R'.gf, by rw [outA_length, la, List.length_map], fun i s' e => ?_, fun i j a o o' ne e1 e2 e3 e4 => ?_, fun i v z => nomatch z⟩
      · rcases outA_get e with ⟨h1, h2⟩ | ⟨h1, h2⟩ | h
        · rw [← at' (by simpa using h1) (lt' e)]
          exact R'.sl i s' h2
        · refine (R.sl i s' h2).mono su fun a o e1 e2 => ?_
          subst e2
          exact absurd (okA_get hok h2) h1
        · subst h; trivial
      · obtain ⟨h1, h2⟩ := owix e1
        obtain ⟨h3, h4⟩ := owix e2
        rw [← at' h1 (lt' e1)] at e3
        rw [← at' h3 (lt' e2)] at e4
        exact R'.sep i j a o o' ne h2 h4 e3 e4
    -- what the body gives is what the caller gets
    have out : ∀ {G' : Hp} {ρ : Rho} {σ' : L2.St} {H' : Hp} {o : Ob} {v : V}, RS K ix Fr (fun i => if i ∈ ix then vs[i]? else none) G' ρ σ' H' → VOk K Fr G' H' ρ σ' (.ow o) v → VOk K Fr G' H' (outA 0 ix as ρ) (vs.map some) (.ow o) v := by
      intro G' ρ σ' H' o v R' hv
      obtain ⟨a, rfl, g, f, c, hn⟩ := hv
      refine ⟨a, rfl, g, f, c, fun i o' e1 e2 => ?_⟩
      rcases outA_get e1 with ⟨h1, h2⟩ | ⟨h1, h2⟩ | h
      · have hi : i ∈ ix := by simpa using h1
        rw [List.getElem?_map] at e2
        cases ev : vs[i]? with
        | none => rw [ev] at e2; cases e2
        | some u =>
          rw [ev] at e2
          obtain ⟨_, h3⟩ := R'.fx i u (by rw [if_pos hi]; exact ev)
          exact hn i o' h2 (h3.trans e2)
      · exact absurd (okA_get hok h2) h1
      · cases h
    refine ⟨Fr, _, G, _, fl, R0, hg, ?_⟩
    cases fl with
    | bk ρ => cases hF
    | ct ρ => cases hF
    | nx ρ =>
      cases hF
      exact fun G' σ' H' s R' => kk .non G' H' s (fin s R') .non
    | rt r' ρ =>
      cases r' with
      | al i => cases hF
      | sh d =>
        cases hF
        exact fun G' σ' H' v s R' hv => kk v G' H' s (fin s R') hv
      | ow o =>
        cases hF
        exact fun G' σ' H' v s R' hv => kk v G' H' s (fin s R') (out R' hv)
end
end DL

set_option Elab.async false
set_option linter.all false
set_option autoImplicit false
set_option maxRecDepth 100000
set_option maxHeartbeats 1000000
namespace DL
open PySem PySem.Spec PyProof.Rows L2
/-! ### dicts whose keys are (nested) tuples of ints -/
mutual
theorem hash_same (w w' : World) : ∀ (d : Dv) (k : NestedKey), keyN d = some k → k.hash w = k.hash w'
  | .none, k, h => by simp only [keyN, Option.some.injEq] at h; subst h; rfl
  | .int i, k, h => by simp only [keyN, Option.some.injEq] at h; subst h; rfl
  | .tuple ds, k, h => by
    simp only [keyN, Option.map_eq_some_iff] at h
    obtain ⟨ks, h1, rfl⟩ := h
    have := hashes_same w w' ds ks h1
    simp only [NestedKey.hash, this]
  | .bool _, k, h => by simp [keyN] at h
  | .str _, k, h => by simp [keyN] at h
  | .list _, k, h => by simp [keyN] at h
  | .dict _, k, h => by simp [keyN] at h
theorem hashes_same (w w' : World) : ∀ (ds : List Dv) (ks : List NestedKey), keyNs ds = some ks → NestedKey.hashes w ks = NestedKey.hashes w' ks
  | [], ks, h => by simp only [keyNs, Option.some.injEq] at h; subst h; rfl
  | d :: ds, ks, h => by
    simp only [keyNs, Option.bind_eq_some_iff, Option.map_eq_some_iff] at h
    obtain ⟨k, h1, ks', h2, rfl⟩ := h
    simp only [NestedKey.hashes, hash_same w w' d k h1, hashes_same w w' ds ks' h2]
end
section
variable {X : Cx} {pins : List (Addr × Obj)} {σ : L2.St} {H : Hp} {s : Shared}
mutual
theorem nestedIs_of (I : Inv X pins σ H s) : ∀ (d : Dv) (v : V) (u : Value) (k : NestedKey), Dp X.K H v d → RelV v u → keyN d = some k → NestedIs s.heap k u
  | .none, v, u, k, h, r, e => by
    cases h
    simp only [keyN, Option.some.injEq] at e
    subst e
    obtain rfl : u = Value.none := r
    exact .none
  | .int i, v, u, k, h, r, e => by
    cases h
    simp only [keyN, Option.some.injEq] at e
    subst e
    obtain ⟨t, rfl⟩ := r
    exact .int i t
  | .tuple ds, v, u, k, h, r, e => by
    simp only [keyN, Option.map_eq_some_iff] at e
    obtain ⟨ks, h1, rfl⟩ := e
    cases h with
    | tup hs ha =>
      obtain rfl : u = Value.ref _ := r
      obtain ⟨its, rv, ⟨o, e1, e2, n, e3⟩, _⟩ := I.tuple hs
      exact .tup e1 e2 e3 (nestedAll_of I ds _ its ks ha rv h1)
  | .bool _, v, u, k, h, r, e => by simp [keyN] at e
  | .str _, v, u, k, h, r, e => by simp [keyN] at e
  | .list _, v, u, k, h, r, e => by simp [keyN] at e
  | .dict _, v, u, k, h, r, e => by simp [keyN] at e
theorem nestedAll_of (I : Inv X pins σ H s) : ∀ (ds : List Dv) (vs : List V) (us : List Value) (ks : List NestedKey), DpAll X.K H vs ds → Vals vs us → keyNs ds = some ks → NestedAll s.heap ks us
  | [], vs, us, ks, h, r, e => by
    cases h
    cases r
    simp only [keyNs, Option.some.injEq] at e
    subst e
    exact .nil
  | d :: ds, vs, us, ks, h, r, e => by
    simp only [keyNs, Option.bind_eq_some_iff, Option.map_eq_some_iff] at e
    obtain ⟨k, h1, ks', h2, rfl⟩ := e
    cases h with
    | cons a1 a2 =>
      cases r with
      | cons r1 r2 => exact .cons (nestedIs_of I d _ _ k a1 r1 h1) (nestedAll_of I ds _ _ ks' a2 r2 h2)
end
/-! what stands there -/
theorem pr_is (I : Inv X pins σ H s) : ∀ {ps : List (NestedKey × Addr × V)} {xs : List (NestedKey × Addr × Value)} {kvs : List (Dv × Dv)}, PR ps xs → TKV X.K H ps kvs → ∀ x ∈ xs, (nestedKind X.prog X.w).is s.heap x.1 x.2.1
  | _, _, _, .nil, _ => fun x hx => by cases hx
  | _, _, _, .cons r t, .cons h1 h2 h3 h4 q => fun x hx => by
    rcases List.mem_cons.mp hx with rfl | hx
    · exact ⟨nestedIs_of I _ _ _ _ h3 rfl h1, h2⟩
    · exact pr_is I t q x hx
theorem tk_of (I : Inv X pins σ H s) {a : Addr} {ps : List (NestedKey × Addr × V)} {kvs : List (Dv × Dv)} (e : H a = some (tkO a ps)) (q : TKV X.K H ps kvs) : ∃ xs, PR ps xs ∧ s.heap.DictOfH (nestedKind X.prog X.w) a xs ∧ (a == sysModules) = false := by
  obtain ⟨⟨hd, xs, o, es, ep, p, e1, e2, e3, e4, e5⟩, _, _⟩ := I.hok a _ e
  exact ⟨xs, p, ⟨o, es, ep, e1, e2, e3, e4 X.w, pr_is I p q, e5⟩, hd⟩
theorem tk_new {H' : Hp} {h' : Heap} {a : Addr} {P : Program} {w : World} {ps : List (NestedKey × Addr × V)} {xs : List (NestedKey × Addr × Value)} (hd : (a == sysModules) = false) (p : PR ps xs) (d : h'.DictOfH (nestedKind P w) a xs) (hs : ∀ x ∈ xs, ∀ w' : World, x.1.hash w = x.1.hash w') : ObjOk P w H' h' a (tkO a ps) := by
  obtain ⟨o, es, ep, e1, e2, e3, e4, e5, e6⟩ := d
  refine ⟨⟨hd, xs, o, es, ep, p, e1, e2, e3, fun w' => ?_, e6⟩, ⟨o, e1⟩, fun h1 h2 f k => ?_⟩
  · rw [e4]
    refine List.map_congr_left fun x hx => ?_
    show (⟨x.1.hash w, .ref x.2.1, x.2.2⟩ : DictEntry) = _
    rw [hs x hx w']
  · obtain ⟨hd, xs, o, es, ep, p, e1, r⟩ := f
    exact ⟨hd, xs, o, es, ep, p, k _ e1, r⟩
def eDctN : M := fun ρ => some (.ow (.dtn []), ρ)
theorem de_dnewN {ix : List Nat} {pos : Pos} : PE X (.Dict [] [] pos) (TE' X.K ix eDctN) := ⟨fun pins s σ H Q I ⟨Fr, FX, G, ρ, r, ρ', R, hf, k⟩ => by
  cases hf
  refine wpAny_Dict_empty ⟨.ref s.heap.objs.size, upd H s.heap.objs.size (tkO s.heap.objs.size []), I.laid (a := s.heap.objs.size) (t' := s.toks) (fun _ _ q => Heap.get?_push_of_some _ q) (Nat.le_refl _) ?_, rfl, ?_⟩
  · refine tk_new (xs := []) ?_ .nil (Heap.DictOfH.new s.heap) (fun x hx => by cases hx)
    have := I.big
    exact beq_false_of_ne fun z => by rw [z] at this; exact Nat.lt_irrefl _ this
  · have hp := I.hok.fresh (Nat.le_refl s.heap.objs.size)
    exact k _ G _ (Sub.refl _) (R.newH hp) ⟨_, rfl, (R.none_of hp).1, (R.none_of hp).2, ⟨[], upd_same, .nil⟩, R.notIn hp⟩⟩
/-! in -/
def getN : List (Dv × Dv) → Dv → Option Dv
  | [], _ => none
  | p :: r, k => if keyN p.1 = keyN k then some p.2 else getN r k
def okN (k : Dv) : Bool := match keyN k with
  | some n => decide (n.depth ≤ 8)
  | none => false
theorem getN_at {K : PySem.W.Frag} {G : Hp} {k : Dv} {n : NestedKey} (hk : keyN k = some n) : ∀ {ps : List (NestedKey × Addr × V)} {xs : List (NestedKey × Addr × Value)} {kvs : List (Dv × Dv)}, PR ps xs → TKV K G ps kvs →
    (atKey xs n = none ∧ getN kvs k = none) ∨ ∃ b u v d, atKey xs n = some (b, u) ∧ RelV v u ∧ Dp K G v d ∧ getN kvs k = some d
  | _, _, _, .nil, .nil => .inl ⟨rfl, rfl⟩
  | _, _, _, .cons (k := n0) (b := b0) (v := v0) (u := u0) r t, .cons (d := d0) h1 h2 h3 h4 q => by
    by_cases e : n0 = n
    · subst e
      refine .inr ⟨b0, u0, v0, d0, ?_, r, h4, ?_⟩
      · simp [atKey]
      · unfold getN
        rw [if_pos (by rw [h1, hk])]
    · rw [show ∀ (l : List (NestedKey × Addr × Value)), atKey ((n0, b0, u0) :: l) n = atKey l n from fun l => by unfold atKey; rw [List.find?_cons_of_neg (by simpa using e)]]
      rcases getN_at hk t q with ⟨a1, a2⟩ | ⟨b, u, v, d, a1, a2, a3, a4⟩
      · refine .inl ⟨a1, ?_⟩
        unfold getN
        rw [if_neg (by rw [h1, hk]; simpa using e), a2]
      · refine .inr ⟨b, u, v, d, a1, a2, a3, ?_⟩
        unfold getN
        rw [if_neg (by rw [h1, hk]; simpa using e), a4]
def okT (k : Dv) : Bool := match k with
  | .tuple _ => okN k
  | _ => false
def putN (kvs : List (Dv × Dv)) (k d : Dv) : List (Dv × Dv) := if kvs.any (fun p => decide (keyN p.1 = keyN k)) = true then kvs.map (fun p => if keyN p.1 = keyN k then (p.1, d) else p) else kvs ++ [(k, d)]
theorem tkv_mapN {K : PySem.W.Frag} {G : Hp} {k : Dv} {n : NestedKey} {v : V} {u : Value} {d : Dv} (hk : keyN k = some n) (r0 : RelV v u) (q0 : Dp K G v d) : ∀ {ps : List (NestedKey × Addr × V)} {xs : List (NestedKey × Addr × Value)} {kvs : List (Dv × Dv)}, PR ps xs → TKV K G ps kvs →
    PR (ps.map fun p => if p.1 = n then (p.1, p.2.1, v) else p) (xs.map (putAt n u)) ∧ TKV K G (ps.map fun p => if p.1 = n then (p.1, p.2.1, v) else p) (kvs.map fun p => if keyN p.1 = keyN k then (p.1, d) else p)
  | _, _, _, .nil, .nil => ⟨.nil, .nil⟩
  | _, _, _, .cons (k := n0) r t, .cons h1 h2 h3 h4 q => by
    obtain ⟨a, b⟩ := tkv_mapN hk r0 q0 t q
    rw [List.map_cons, List.map_cons, List.map_cons]
    by_cases e : n0 = n
    · subst e
      rw [if_pos rfl, if_pos (show keyN (_, _).1 = keyN k by rw [h1, hk])]
      refine ⟨?_, .cons h1 h2 h3 q0 b⟩
      unfold putAt
      rw [if_pos rfl]
      exact .cons r0 a
    · rw [if_neg e, if_neg (show ¬ keyN (_, _).1 = keyN k by rw [h1, hk]; simpa using e)]
      refine ⟨?_, .cons h1 h2 h3 h4 b⟩
      unfold putAt
      rw [if_neg e]
      exact .cons r a
theorem tkv_append {K : PySem.W.Frag} {G : Hp} {k : Dv} {n : NestedKey} {v : V} {u : Value} {d : Dv} {b : Addr} (hk : keyN k = some n) (h2 : n.depth ≤ 8) (h3 : Dp K G (.ref b) k) (r0 : RelV v u) (q0 : Dp K G v d) : ∀ {ps : List (NestedKey × Addr × V)} {xs : List (NestedKey × Addr × Value)} {kvs : List (Dv × Dv)}, PR ps xs → TKV K G ps kvs →
    PR (ps ++ [(n, b, v)]) (xs ++ [(n, b, u)]) ∧ TKV K G (ps ++ [(n, b, v)]) (kvs ++ [(k, d)])
  | _, _, _, .nil, .nil => ⟨.cons r0 .nil, .cons hk h2 h3 q0 .nil⟩
  | _, _, _, .cons r t, .cons a1 a2 a3 a4 q => by
    obtain ⟨a, b⟩ := tkv_append hk h2 h3 r0 q0 t q
    exact ⟨.cons r a, .cons a1 a2 a3 a4 b⟩
theorem anyN {K : PySem.W.Frag} {G : Hp} {k : Dv} {n : NestedKey} (hk : keyN k = some n) : ∀ {ps : List (NestedKey × Addr × V)} {xs : List (NestedKey × Addr × Value)} {kvs : List (Dv × Dv)}, PR ps xs → TKV K G ps kvs → (atKey xs n).isSome = kvs.any fun p => decide (keyN p.1 = keyN k)
  | _, _, _, .nil, .nil => rfl
  | _, _, _, .cons (k := n0) (b := b0) (u := u0) r t, .cons h1 h2 h3 h4 q => by
    rw [List.any_cons, ← anyN hk t q]
    by_cases e : n0 = n
    · subst e
      simp [atKey, h1, hk]
    · rw [show ∀ (l : List (NestedKey × Addr × Value)), atKey ((n0, b0, u0) :: l) n = atKey l n from fun l => by unfold atKey; rw [List.find?_cons_of_neg (by simpa using e)]]
      rw [h1, hk]
      simp [e]
theorem tkv_put {K : PySem.W.Frag} {G : Hp} {k : Dv} {n : NestedKey} {v : V} {u : Value} {d : Dv} {b : Addr} (hk : keyN k = some n) (h2 : n.depth ≤ 8) (h3 : Dp K G (.ref b) k) (r0 : RelV v u) (q0 : Dp K G v d) {ps : List (NestedKey × Addr × V)} {xs : List (NestedKey × Addr × Value)} {kvs : List (Dv × Dv)} (p : PR ps xs) (t : TKV K G ps kvs) :
    ∃ ps', PR ps' (storedH xs n b u) ∧ TKV K G ps' (putN kvs k d) := by
  unfold storedH putN
  rw [anyN hk p t]
  split
  · exact ⟨_, tkv_mapN hk r0 q0 p t⟩
  · exact ⟨_, tkv_append hk h2 h3 r0 q0 p t⟩
theorem pr_len : ∀ {ps : List (NestedKey × Addr × V)} {xs : List (NestedKey × Addr × Value)}, PR ps xs → xs.length = ps.length
  | _, _, .nil => rfl
  | _, _, .cons _ t => by simp [pr_len t]
theorem tkv_len {K : PySem.W.Frag} {G : Hp} : ∀ {ps : List (NestedKey × Addr × V)} {kvs : List (Dv × Dv)}, TKV K G ps kvs → ps.length = kvs.length
  | _, _, .nil => rfl
  | _, _, .cons _ _ _ _ t => by simp [tkv_len t]
/-- all the keys hash alike in any world -/
theorem tkv_hash {K : PySem.W.Frag} {G : Hp} (w w' : World) : ∀ {ps : List (NestedKey × Addr × V)} {xs : List (NestedKey × Addr × Value)} {kvs : List (Dv × Dv)}, PR ps xs → TKV K G ps kvs → ∀ x ∈ xs, x.1.hash w = x.1.hash w'
  | _, _, _, .nil, _ => fun x hx => by cases hx
  | _, _, _, .cons r t, .cons h1 h2 h3 h4 q => fun x hx => by
    rcases List.mem_cons.mp hx with rfl | hx
    · exact hash_same w w' _ _ h1
    · exact tkv_hash w w' t q x hx
end
end DL

set_option Elab.async false
set_option linter.all false
set_option autoImplicit false
set_option maxRecDepth 100000
set_option maxHeartbeats 1000000
namespace DL
open PySem PySem.Spec PyProof.Rows L2

section
variable {X : Cx} {ix : List Nat} {e a b o : Expr} {es : List Expr} {f fa fb fc fo : M} {ga : MA} {g : MS} {pos p : Pos}
/-! ### one operand -/
theorem de_un {op : UnaryOp} {r : V → Hp → VK → Prop} {gg : Dv → Option Rz} (ho : UnR X (unaryOp op) r) (hr : ∀ G H d z v Q, (∀ a o, G a = some o → H a = some o) → VD X.K G H d v → gg d = some z → Res X.K G H Q z → r v H Q) (ha : PE X a (TE' X.K ix fa)) : PE X (.UnaryOp op a pos) (TE' X.K ix (unS gg fa)) :=
  pe_imp (pe_un ho ha) fun σ H Q ⟨Fr, FX, G, ρ, r, ρ', R, hf, k⟩ => by
    unfold unS at hf
    obtain ⟨⟨r1, ρ1⟩, h1, hf⟩ := Option.bind_eq_some_iff.mp hf
    obtain ⟨d, h2, hf⟩ := Option.bind_eq_some_iff.mp hf
    obtain ⟨z, h3, hf⟩ := Option.bind_eq_some_iff.mp hf
    cases hf
    exact ⟨Fr, FX, G, ρ, r1, _, R, h1, fun v G1 H1 s1 R1 v1 => hr G1 H1 d z v Q R1.gh (dat_vd R1 v1 h2) h3 (res_ok R1 fun w G2 H2 s2 R2 w2 => k w G2 H2 (s1.trans s2) R2 w2)⟩
def negD : Dv → Option Rz
  | .int i => some (.sh (.int (-i)))
  | _ => none
theorem de_neg (ha : PE X a (TE' X.K ix fa)) : PE X (.UnaryOp .USub a pos) (TE' X.K ix (unS negD fa)) := de_un un_neg (fun G H d z v Q gh hv hz q => by
  unfold negD at hz
  split at hz
  · cases hz
    rw [vd_int hv]
    exact ⟨_, rfl, res_int q⟩
  · cases hz) ha
/-! ### isinstance(x, T), T a built-in class -/
def tyName : Dv → String
  | .none => "NoneType"
  | .bool _ => "bool"
  | .int _ => "int"
  | .str _ => "str"
  | .list _ => "list"
  | .tuple _ => "tuple"
  | .dict _ => "dict"
def isT (T : String) (d : Dv) : Bool := match T with
  | "int" => (match d with | .int _ => true | .bool _ => true | _ => false)
  | "bool" => (match d with | .bool _ => true | _ => false)
  | "tuple" => (match d with | .tuple _ => true | _ => false)
  | "list" => (match d with | .list _ => true | _ => false)
  | "str" => (match d with | .str _ => true | _ => false)
  | "dict" => (match d with | .dict _ => true | _ => false)
  | _ => false
theorem kit_int : ∀ n, n = "NoneType" ∨ n = "bool" ∨ n = "int" ∨ n = "str" ∨ n = "list" ∨ n = "tuple" ∨ n = "dict" → kitB n "int" = some (n == "int" || n == "bool") := by
  rintro n (rfl | rfl | rfl | rfl | rfl | rfl | rfl) <;> decide +kernel
theorem kit_one (T : String) (hT : T = "bool" ∨ T = "tuple" ∨ T = "list" ∨ T = "str" ∨ T = "dict") : ∀ n, n = "NoneType" ∨ n = "bool" ∨ n = "int" ∨ n = "str" ∨ n = "list" ∨ n = "tuple" ∨ n = "dict" → kitB n T = some (n == T) := by
  rcases hT with rfl | rfl | rfl | rfl | rfl <;> (rintro n (rfl | rfl | rfl | rfl | rfl | rfl | rfl) <;> decide +kernel)
theorem tyName_in (d : Dv) : tyName d = "NoneType" ∨ tyName d = "bool" ∨ tyName d = "int" ∨ tyName d = "str" ∨ tyName d = "list" ∨ tyName d = "tuple" ∨ tyName d = "dict" := by
  cases d <;> simp [tyName]
theorem isT_kit {T : String} (hT : T = "int" ∨ T = "bool" ∨ T = "tuple" ∨ T = "list" ∨ T = "str" ∨ T = "dict") (d : Dv) : kitB (tyName d) T = some (isT T d) := by
  rcases hT with rfl | hT
  · rw [kit_int _ (tyName_in d)]; cases d <;> rfl
  · rw [kit_one T hT _ (tyName_in d)]; rcases hT with rfl | rfl | rfl | rfl | rfl <;> cases d <;> rfl
theorem ty_sqL {K : PySem.W.Frag} {H : Hp} {a : Addr} {xs : List V} (h : SqL K H a xs) : TyX K H (.ref a) (.type "list") := by
  rcases h with (h | ⟨o, h⟩) | ⟨o, its, n, h, hc, _⟩
  · exact .base (.lst h)
  · exact .base (.frz h)
  · exact .kList h hc
theorem ty_sqT {K : PySem.W.Frag} {H : Hp} {a : Addr} {xs : List V} (h : SqT K H a xs) : TyX K H (.ref a) (.type "tuple") := by
  rcases h with (h | ⟨o, h⟩) | ⟨o, its, n, h, hc, _⟩
  · exact .base (.tup h)
  · exact .fTuple h
  · exact .kTuple h hc
/-- a dict with tuple keys -/
def tagD : Dv → Bool
  | .dict kvs => !plD kvs
  | _ => false
theorem ty_vd {K : PySem.W.Frag} {G H : Hp} {d : Dv} {v : V} (gh : ∀ a o, G a = some o → H a = some o) (h : VD K G H d v) (ht : tagD d = false) : TyX K H v (.type (tyName d)) := by
  cases d with
  | none => rw [vd_none h]; exact .base .non
  | bool b => rw [vd_bool h]; exact .base (.bl b)
  | int b => rw [vd_int h]; exact .base (.int b)
  | str b => rw [vd_str h]; exact .base (.str b)
  | list b => obtain ⟨a, vs, rfl, h1, _⟩ := vd_list h; exact ty_sqL h1
  | tuple b => obtain ⟨a, vs, rfl, _, h1, _⟩ := vd_tup gh h; exact ty_sqT h1
  | dict b =>
    obtain ⟨a, vs, rfl, h1, _⟩ := vd_dk h (by simpa [tagD] using ht)
    exact .base (.dK h1)
def isiD (T : String) (d : Dv) : Option Rz := if tagD d = true then none else some (.sh (.bool (isT T d)))
theorem de_isi {T : String} {x : Str} {pT : Pos} (hT : T = "int" ∨ T = "bool" ∨ T = "tuple" ∨ T = "list" ∨ T = "str" ∨ T = "dict") (hg : Gl X "isinstance") (hm : X.mg "isinstance" = none) (hgT : Gl X x) (hmT : X.mg x = none) (hbT : bootBuiltins x = some (.type T)) (ha : PE X a (TE' X.K ix fa))
    (hn : x ≠ "__name__" := by decide) (hd : (x == ("__debug__" : Str)) = false := by decide) (he : starEach [a, .Name x pT] X.env = (false, eval a X.env) :: starEach [.Name x pT] X.env := by rfl) (he2 : starEach [Expr.Name x pT] X.env = (false, eval (.Name x pT) X.env) :: starEach [] X.env := by rfl)
    (hpl : (backTo pos (starEach [Expr.Name x pT] X.env)).any (·.1) = false := by rfl) : PE X (.Call (.Name "isinstance" p) [a, .Name x pT] [] pos) (TE' X.K ix (unS (isiD T) fa)) :=
  pe_imp (pe_callB call_isi hg hm PyProof.Rows.boot_isinstance (pa_cons ha (pa_cons (pe_bltn (v := .ty T) hgT hmT hbT rfl hn hd) pa_nil he2) he) (by decide) (by decide) he hpl) fun σ H Q ⟨Fr, FX, G, ρ, r, ρ', R, hf, k⟩ => by
    unfold unS at hf
    obtain ⟨⟨r1, ρ1⟩, h1, hf⟩ := Option.bind_eq_some_iff.mp hf
    obtain ⟨d, h2, hf⟩ := Option.bind_eq_some_iff.mp hf
    unfold isiD at hf
    by_cases htg : tagD d = true
    · rw [if_pos htg] at hf
      cases hf
    rw [if_neg htg] at hf
    cases hf
    refine ⟨Fr, FX, G, ρ, r1, _, R, h1, fun v G1 H1 s1 R1 v1 => ?_⟩
    exact ⟨v, _, _, _, _, rfl, .ty T, ty_vd R1.gh (dat_vd R1 v1 h2) (by simpa using htg), kit_ty (isT_kit hT d), k _ G1 H1 s1 R1 (.bl _)⟩

/-! ### methods that change an owned object -/
def obT : Ob → String
  | .lst _ => "list"
  | .dct _ => "dict"
  | .dtn _ => ""
def isDtn : Ob → Bool
  | .dtn _ => true
  | _ => false
def isOb (T : String) : Option Sl → Bool
  | some (.ow ob) => (obT ob == T) && !isDtn ob
  | _ => false
def mutM (T : String) (gg : Ob → List Dv → Option (Ob × Dv)) (fo : M) (ga : MA) : M := fun ρ => (fo ρ).bind fun x => match x.1 with
  | .al i => if isOb T x.2[i]? = true then (ga x.2).bind fun y => (shs y.1).bind fun ds => (match y.2[i]? with
    | some (.ow ob) => (gg ob ds).bind fun z => some (.sh z.2, y.2.set i (.ow z.1))
    | _ => none) else none
  | _ => none
def RMd (K : PySem.W.Frag) (gg : Ob → List Dv → Option (Ob × Dv)) : V → List V → Hp → VK → Prop := fun x vs H Q => ∃ G a ob ds ob' d, x = .ref a ∧ (∀ a o, G a = some o → H a = some o) ∧ G a = none ∧ Ct K G H a ob ∧ DpAll K G vs ds ∧ gg ob ds = some (ob', d) ∧
  ∀ v u', Ct K G (upd H a u') a ob' → Dp K G v d → Q v (upd H a u')
def MutD (X : Cx) (id : String) (gg : Ob → List Dv → Option (Ob × Dv)) : Prop := MtR X id (RMd X.K gg)
def appG : Ob → List Dv → Option (Ob × Dv)
  | .lst xs, [d] => if xs.length < sizeLine then some (.lst (xs ++ [d]), .none) else none
  | _, _ => none
def popG : Ob → List Dv → Option (Ob × Dv)
  | .lst xs, [] => (xs[xs.length - 1]?).map fun d => (.lst xs.dropLast, d)
  | _, _ => none
def popAtG : Ob → List Dv → Option (Ob × Dv)
  | .lst xs, [.int i] => if 0 ≤ i ∧ i < 2 ^ 62 then (xs[i.toNat]?).map fun d => (.lst (xs.eraseIdx i.toNat), d) else none
  | _, _ => none
theorem dpAll_dropLast {K : PySem.W.Frag} {G : Hp} {ds : List Dv} {vs : List V} (h : DpAll K G vs ds) : DpAll K G vs.dropLast ds.dropLast := by
  rw [List.dropLast_eq_take, List.dropLast_eq_take, dpAll_length h]
  exact dpAll_take _ h
theorem dpAll_erase {K : PySem.W.Frag} {G : Hp} : ∀ {ds : List Dv} {vs : List V} (n : Nat), DpAll K G vs ds → DpAll K G (vs.eraseIdx n) (ds.eraseIdx n)
  | [], _, n, h => by cases h; simp; exact .nil
  | d :: ds, _, 0, h => by cases h with | cons h1 h2 => exact h2
  | d :: ds, _, n + 1, h => by cases h with | cons h1 h2 => exact .cons h1 (dpAll_erase n h2)
theorem app_m : MutD X "list.append" appG := by
  intro pins s σ H x xs v us Q I rx rv h
  obtain ⟨G, a, ob, ds, ob', d, rfl, gh, g0, c, qa, hg, k⟩ := h
  unfold appG at hg
  split at hg
  · split at hg
    · rename_i hz
      cases hg
      obtain ⟨vs, hv, qv⟩ := c
      cases qa with
      | cons q1 q2 =>
        cases q2
        exact mt_append pins s σ H _ _ v us Q I rx rv ⟨a, vs, _, rfl, rfl, hv, by rw [dpAll_length qv]; exact hz, k .non _ ⟨_, upd_same, dpAll_append qv (.cons q1 .nil)⟩ .non⟩
    · cases hg
  · cases hg
theorem pop_m : MutD X "list.pop" popG := by
  intro pins s σ H x xs v us Q I rx rv h
  obtain ⟨G, a, ob, ds, ob', d, rfl, gh, g0, c, qa, hg, k⟩ := h
  unfold popG at hg
  split at hg
  · obtain ⟨d', hd, hg⟩ := Option.map_eq_some_iff.mp hg
    cases hg
    obtain ⟨vs, hv, qv⟩ := c
    cases qa
    obtain ⟨w, hw, qw⟩ := dpAll_get qv hd
    exact mt_pop pins s σ H _ _ v us Q I rx rv ⟨a, vs, w, rfl, rfl, hv, by rw [dpAll_length qv]; exact hw, k w _ ⟨_, upd_same, dpAll_dropLast qv⟩ qw⟩
  · cases hg
theorem popAt_m : MutD X "list.pop" popAtG := by
  intro pins s σ H x xs v us Q I rx rv h
  obtain ⟨G, a, ob, ds, ob', d, rfl, gh, g0, c, qa, hg, k⟩ := h
  unfold popAtG at hg
  split at hg
  · rename_i ys i
    split at hg
    · rename_i hc
      obtain ⟨d', hd, hg⟩ := Option.map_eq_some_iff.mp hg
      cases hg
      obtain ⟨vs, hv, qv⟩ := c
      cases qa with
      | cons q1 q2 =>
        cases q2
        cases q1
        obtain ⟨w, hw, qw⟩ := dpAll_get qv hd
        have hl : i.toNat < vs.length := (List.getElem?_eq_some_iff.mp hw).1
        exact mt_popAt pins s σ H _ _ v us Q I rx rv ⟨a, vs, i, i.toNat, w, rfl, rfl, hv, by omega, by omega, seqIndex_of hc.1 (by omega), hw, k w _ ⟨_, upd_same, dpAll_erase _ qv⟩ qw⟩
    · cases hg
  · cases hg
theorem tyV_ct {K : PySem.W.Frag} {G H : Hp} {a : Addr} {ob : Ob} (c : Ct K G H a ob) (hn : ∀ kvs, ob ≠ .dtn kvs) : tyV K (obT ob) (.ref a) H := by
  cases ob with
  | lst ds => obtain ⟨vs, hv, _⟩ := c; exact .inl ⟨rfl, _, .inl (.inl hv)⟩
  | dct ds => obtain ⟨vs, hv, _⟩ := c; exact .inr (.inr (.inl ⟨rfl, .inl ⟨_, hv⟩⟩))
  | dtn ds => exact absurd rfl (hn ds)
theorem mt_ok {T : String} {gg : Ob → List Dv → Option (Ob × Dv)} {σ : L2.St} {H : Hp} {Q : VK} (h : TE' X.K ix (mutM T gg fo ga) σ H Q) : tBM X.K T (RMd X.K gg) (TE' X.K ix fo) (TA' X.K ix ga) σ H Q := by
  obtain ⟨Fr, FX, G, ρ, r, ρ', R, hf, k⟩ := h
  unfold mutM at hf
  obtain ⟨⟨r0, ρ0⟩, h0, hf⟩ := Option.bind_eq_some_iff.mp hf
  cases r0 with
  | sh d => cases hf
  | ow d => cases hf
  | al i =>
    simp only at hf
    split at hf
    rotate_left
    · cases hf
    rename_i hT
    obtain ⟨⟨rs, ρ1⟩, h1, hf⟩ := Option.bind_eq_some_iff.mp hf
    obtain ⟨ds, h2, hf⟩ := Option.bind_eq_some_iff.mp hf
    split at hf
    · rename_i ob hob
      obtain ⟨⟨ob', d⟩, h3, hf⟩ := Option.bind_eq_some_iff.mp hf
      cases hf
      refine ⟨Fr, FX, G, ρ, _, ρ0, R, h0, fun v G1 H1 s1 R1 v1 => ?_⟩
      have ev : σ[i]? = some (some v) := v1
      unfold isOb at hT
      split at hT
      · rename_i ob0 hob0
        rw [Bool.and_eq_true] at hT
        have eT : obT ob0 = T := eq_of_beq hT.1
        have nT : ∀ kvs, ob0 ≠ .dtn kvs := fun kvs z => by subst z; cases hT.2
        obtain ⟨a, ea, g, f, c⟩ := R1.sl i _ hob0
        rw [ev] at ea
        cases ea
        refine ⟨eT ▸ tyV_ct c nT, Fr, FX, G1, ρ0, rs, _, R1, h1, fun vs G2 H2 s2 R2 v2 => ?_⟩
        obtain ⟨b, eb, g2, f2, c2⟩ := R2.sl i _ hob
        rw [ev] at eb
        cases eb
        refine ⟨G2, a, ob, ds, ob', d, rfl, R2.gh, g2, c2, shs_dp v2 h2, h3, fun v' u' c' q' => ?_⟩
        exact k v' G2 _ (s1.trans s2) (R2.mut hob ev c') q'
      · cases hT
    · cases hf
theorem de_mt {T id : String} {name : Str} {gg : Ob → List Dv → Option (Ob × Dv)} {apos cpos : Pos} (pa : PlainAttrs T) (slot : Slot T name id) (hty : typeOf (.builtin id) = pure (.type "method_descriptor")) (hm : MutD X id gg) (ho : PE X o (TE' X.K ix fo)) (ha : PA X (e :: es) (TA' X.K ix ga))
    (hbase : attributeBase o name X.env (eval o X.env) = eval o X.env := by rfl)
    (hfew : ((backTo cpos (starEach (e :: es) X.env)).all (fun x => !x.1) && (backToKw cpos (keywordEach [] X.env)).all (fun x => x.1.isSome) && decide ((e :: es).length + ([] : List Keyword).length + (if ([] : List Keyword).isEmpty then 0 else 1) < 30)) = true := by rfl)
    (hline : (apos.endLine == cpos.line) = true := by rfl) (hs : starEach (e :: es) X.env = (false, eval e X.env) :: starEach es X.env := by rfl) (hplain : (backTo cpos (starEach es X.env)).any (·.1) = false := by rfl) :
    PE X (.Call (.Attribute o name apos) (e :: es) [] cpos) (TE' X.K ix (mutM T gg fo ga)) :=
  pe_imp (pe_bm pa slot hty hm ho ha hbase hfew hline hs hplain) fun _ _ _ h => mt_ok h
theorem de_mt0 {T id : String} {name : Str} {gg : Ob → List Dv → Option (Ob × Dv)} {apos cpos : Pos} (pa : PlainAttrs T) (slot : Slot T name id) (hty : typeOf (.builtin id) = pure (.type "method_descriptor")) (hm : MutD X id gg) (ho : PE X o (TE' X.K ix fo))
    (hbase : attributeBase o name X.env (eval o X.env) = eval o X.env := by rfl) (hline : (apos.endLine == cpos.line) = true := by rfl) : PE X (.Call (.Attribute o name apos) [] [] cpos) (TE' X.K ix (mutM T gg fo aNil)) :=
  pe_imp (pe_bm0 pa slot hty hm ho hbase hline) fun σ H Q h => by
    obtain ⟨Fr, FX, G, ρ, r, ρ', R, hf, k⟩ := mt_ok h
    refine ⟨Fr, FX, G, ρ, r, ρ', R, hf, fun v G1 H1 s1 R1 v1 => ?_⟩
    obtain ⟨hT, Fr2, FX2, G2, ρ2, rs, ρ3, R2, hf2, k2⟩ := k v G1 H1 s1 R1 v1
    cases hf2
    exact ⟨hT, k2 [] G2 H1 (Sub.refl _) R2 trivial⟩
theorem de_app {apos cpos : Pos} (ho : PE X o (TE' X.K ix fo)) (ha : PA X [e] (TA' X.K ix ga)) (hbase : attributeBase o "append" X.env (eval o X.env) = eval o X.env := by rfl)
    (hfew : ((backTo cpos (starEach [e] X.env)).all (fun x => !x.1) && (backToKw cpos (keywordEach [] X.env)).all (fun x => x.1.isSome) && decide ([e].length + ([] : List Keyword).length + (if ([] : List Keyword).isEmpty then 0 else 1) < 30)) = true := by rfl)
    (hline : (apos.endLine == cpos.line) = true := by rfl) (hs : starEach [e] X.env = (false, eval e X.env) :: starEach [] X.env := by rfl) (hplain : (backTo cpos (starEach [] X.env)).any (·.1) = false := by rfl) :
    PE X (.Call (.Attribute o "append" apos) [e] [] cpos) (TE' X.K ix (mutM "list" appG fo ga)) :=
  de_mt PySem.F.plainAttrs_list PySem.F.slot_list_append PySem.F.type_list_append app_m ho ha hbase hfew hline hs hplain
/-! ### o[i] = v -/
def eqKey : Dv → Dv → Bool
  | .int i, .int j => decide (i = j)
  | .str x, .str y => decide (x = y)
  | _, _ => false
def isKey : Dv → Bool
  | .int _ => true
  | .str _ => true
  | _ => false
def putD (kvs : List (Dv × Dv)) (k d : Dv) : List (Dv × Dv) := if kvs.any (fun p => eqKey p.1 k) = true then kvs.map (fun p => if eqKey p.1 k = true then (p.1, d) else p) else kvs ++ [(k, d)]
def getD : List (Dv × Dv) → Dv → Option Dv
  | [], _ => none
  | p :: r, k => if eqKey p.1 k = true then some p.2 else getD r k
def setOb : Ob → Dv → Dv → Option Ob
  | .lst xs, .int k, d => (ixN xs.length k).map fun j => .lst (xs.set j d)
  | .dct kvs, k, d => if isKey k = true ∧ kvs.length < sizeLine then some (.dct (putD kvs k d)) else none
  | .dtn kvs, k, d => if okT k = true ∧ kvs.length < sizeLine then some (.dtn (putN kvs k d)) else none
  | _, _, _ => none
theorem eqKey_keyD (k k' : Key) : eqKey (keyD k) (keyD k') = decide (k = k') := by
  cases k <;> cases k' <;> simp [keyD, eqKey]
theorem isKey_of {d : Dv} (h : isKey d = true) : ∃ k, d = keyD k := by
  cases d <;> first | exact ⟨.inl _, rfl⟩ | exact ⟨.inr _, rfl⟩ | cases h
theorem vd_key {K : PySem.W.Frag} {G H : Hp} {k : Key} {v : V} (h : VD K G H (keyD k) v) : v = kV k := by
  cases k with
  | inl i => exact vd_int h
  | inr x => exact vd_str h
theorem dkv_get {K : PySem.W.Frag} {G : Hp} {k : Key} : ∀ {ks : List (Key × V)} {kvs : List (Dv × Dv)}, DKV K G ks kvs → (∃ d v, getD kvs (keyD k) = some d ∧ valV ks k = some v ∧ Dp K G v d) ∨ (getD kvs (keyD k) = none ∧ valV ks k = none)
  | _, _, .nil => .inr ⟨rfl, rfl⟩
  | _, _, .cons (k := k0) (v := v) (d := d) h t => by
    by_cases e : k0 = k
    · subst e
      refine .inl ⟨d, v, ?_, valV_pos rfl, h⟩
      unfold getD
      rw [eqKey_keyD, if_pos (by simp)]
    · rcases dkv_get (k := k) t with ⟨d', v', h1, h2, h3⟩ | ⟨h1, h2⟩
      · refine .inl ⟨d', v', ?_, by rw [valV_neg e]; exact h2, h3⟩
        unfold getD
        rw [eqKey_keyD, if_neg (by simp [e])]
        exact h1
      · refine .inr ⟨?_, by rw [valV_neg e]; exact h2⟩
        unfold getD
        rw [eqKey_keyD, if_neg (by simp [e])]
        exact h1
theorem dkv_any {K : PySem.W.Frag} {G : Hp} {k : Key} : ∀ {ks : List (Key × V)} {kvs : List (Dv × Dv)}, DKV K G ks kvs → (kvs.any fun p => eqKey p.1 (keyD k)) = ks.any fun p => decide (p.1 = k)
  | _, _, .nil => rfl
  | _, _, .cons h t => by
    simp only [List.any_cons]
    rw [eqKey_keyD, dkv_any t]
theorem dkv_map {K : PySem.W.Frag} {G : Hp} {k : Key} {v : V} {d : Dv} (q : Dp K G v d) : ∀ {ks : List (Key × V)} {kvs : List (Dv × Dv)}, DKV K G ks kvs → DKV K G (ks.map fun p => if p.1 = k then (p.1, v) else p) (kvs.map fun p => if eqKey p.1 (keyD k) = true then (p.1, d) else p)
  | _, _, .nil => .nil
  | _, _, .cons (k := k0) h t => by
    simp only [List.map_cons]
    rw [eqKey_keyD]
    by_cases e : k0 = k
    · rw [if_pos e, if_pos (by simp [e])]
      exact .cons q (dkv_map q t)
    · rw [if_neg e, if_neg (by simp [e])]
      exact .cons h (dkv_map q t)
theorem dkv_append {K : PySem.W.Frag} {G : Hp} {k : Key} {v : V} {d : Dv} (q : Dp K G v d) : ∀ {ks : List (Key × V)} {kvs : List (Dv × Dv)}, DKV K G ks kvs → DKV K G (ks ++ [(k, v)]) (kvs ++ [(keyD k, d)])
  | _, _, .nil => .cons q .nil
  | _, _, .cons h t => .cons h (dkv_append q t)
theorem dkv_put {K : PySem.W.Frag} {G : Hp} {k : Key} {v : V} {d : Dv} {ks : List (Key × V)} {kvs : List (Dv × Dv)} (q : Dp K G v d) (h : DKV K G ks kvs) : DKV K G (putK ks k v) (putD kvs (keyD k) d) := by
  unfold putK putD
  rw [dkv_any h]
  by_cases e : (ks.any fun p => decide (p.1 = k)) = true
  · rw [if_pos e, if_pos e]
    exact dkv_map q h
  · rw [if_neg e, if_neg e]
    exact dkv_append q h
def RSet (K : PySem.W.Frag) : TSet := fun ov i v H Q => ∃ G a ob ob' k d, ov = .ref a ∧ (∀ a o, G a = some o → H a = some o) ∧ G a = none ∧ Ct K G H a ob ∧ VD K G H k i ∧ Dp K G v d ∧ setOb ob k d = some ob' ∧ ∀ u', Ct K G (upd H a u') a ob' → Q (upd H a u')
theorem okT_of {k : Dv} (h : okT k = true) : ∃ ds n, k = .tuple ds ∧ keyN k = some n ∧ n.depth ≤ 8 := by
  unfold okT at h
  split at h
  · unfold okN at h
    split at h
    · rename_i ds n hn
      exact ⟨_, n, rfl, hn, of_decide_eq_true h⟩
    · cases h
  · cases h
theorem set_d (hu : X.A.units + 200 < cLine) : PSet X (RSet X.K) := by
  intro pins s σ H ov i v ovv iv u Q I ro ri rv h
  obtain ⟨G, a, ob, ob', k, d, rfl, gh, g0, c, vk, qv, hs, kk⟩ := h
  unfold setOb at hs
  split at hs
  · obtain ⟨j, hj, hs⟩ := Option.map_eq_some_iff.mp hs
    cases hs
    obtain ⟨vs, hv, qs⟩ := c
    rw [vd_int vk] at ri
    exact set_list pins s σ H _ _ v ovv iv u Q I ro ri rv ⟨a, vs, _, j, rfl, rfl, hv, by rw [dpAll_length qs]; exact hj, kk _ ⟨_, upd_same, dpAll_set qv j qs⟩⟩
  · split at hs
    · rename_i hc
      cases hs
      obtain ⟨ks, hv, qs⟩ := c
      obtain ⟨k', rfl⟩ := isKey_of hc.1
      rw [vd_key vk] at ri
      cases (show ovv = Value.ref a from ro)
      exact d_setItem (by omega) I (DPut.k (k := k') hv (by rw [dkv_length qs]; exact hc.2)) ri rv fun s' I' => ⟨_, I', kk _ ⟨_, upd_same, dkv_put qv qs⟩⟩
    · cases hs
  · split at hs
    · rename_i hc
      cases hs
      obtain ⟨ps, hv, qs⟩ := c
      obtain ⟨ds, n, rfl, hn, h8⟩ := okT_of hc.1
      obtain ⟨b, vs, rfl, _⟩ := vd_tup gh vk
      have pk : Dp X.K G (.ref b) (.tuple ds) := vk
      cases (show ovv = Value.ref a from ro)
      cases (show iv = Value.ref b from ri)
      obtain ⟨xs, hp, hdk, hsys⟩ := tk_of I hv (qs.mono (sub_le gh))
      have pkH := dp_mono (sub_le gh) _ _ pk
      have hl : xs.length ≤ sizeLine := by rw [pr_len hp, tkv_len qs]; exact Nat.le_of_lt hc.2
      refine wpAny_setItem_heap (hsz := hl) (show (nestedKind X.prog X.w).room X.A.in1 from ?_) (show (nestedKind X.prog X.w).is s.heap n b from ⟨nestedIs_of I _ _ _ _ pkH rfl hn, h8⟩) hdk fun h' hm' hs' => ?_
      · show X.A.units + 1 + 8 < cLine
        omega
      · obtain ⟨ps', hp', hq'⟩ := tkv_put hn h8 pk rv qv hp qs
        refine ⟨_, d_write I (by rw [hv]; exact True.intro) hs' ?_ (tk_new hsys hp' hm' (fun x hx w' => tkv_hash X.w w' hp' hq' x hx)), kk _ ⟨ps', upd_same, hq'⟩⟩
        obtain ⟨o, _, _, e, _⟩ := hm'
        exact ⟨o, e⟩
    · cases hs
  · cases hs
def tSub (fo fi : M) : MT := fun d ρ => (fo ρ).bind fun x => match x.1 with
  | .al i => (pkM fi x.2).bind fun y => (dat y.2 y.1).bind fun k => (match y.2[i]? with
    | some (.ow ob) => (setOb ob k d).bind fun ob' => some (y.2.set i (.ow ob'))
    | _ => none)
  | _ => none
theorem dg_sub {i : Expr} {fi : M} (hu : X.A.units + 200 < cLine) (ho : PE X o (TE' X.K ix fo)) (hi : PE X i (TE' X.K ix fi)) (hg : ∀ (to ti : TE) (t : TSet), PE X o to → PE X i ti → PSet X t → PG X (.Subscript o i pos) (gSub to ti t) := by exact fun _ _ _ h1 h2 h3 => pg_sub h1 h2 h3) : PG X (.Subscript o i pos) (TG' X.K ix [] (tSub fo fi)) :=
  pg_imp (hg _ _ _ ho (de_pk hi) (set_d hu)) fun v σ H Q ⟨Fr, FX, G, ρ, d, ρ', R, q, hf, k⟩ => by
    unfold tSub at hf
    obtain ⟨⟨r0, ρ0⟩, h0, hf⟩ := Option.bind_eq_some_iff.mp hf
    refine ⟨Fr, FX, G, ρ, r0, ρ0, R, h0, fun x G1 H1 s1 R1 v1 => ?_⟩
    cases r0 with
    | sh d => cases hf
    | ow d => cases hf
    | al j =>
      simp only at hf
      obtain ⟨⟨r1, ρ1⟩, h1, hf⟩ := Option.bind_eq_some_iff.mp hf
      obtain ⟨kd, h2, hf⟩ := Option.bind_eq_some_iff.mp hf
      split at hf
      · rename_i ob hob
        obtain ⟨ob', h3, hf⟩ := Option.bind_eq_some_iff.mp hf
        cases hf
        have ev : σ[j]? = some (some x) := v1
        refine ⟨Fr, FX, G1, ρ0, r1, ρ1, R1, h1, fun y G2 H2 s2 R2 v2 => ?_⟩
        obtain ⟨a, ea, g2, f2, c2⟩ := R2.sl j _ hob
        rw [ev] at ea
        cases ea
        refine ⟨G2, a, ob, ob', kd, d, rfl, R2.gh, g2, c2, dat_vd R2 v2 h2, dp_mono (s1.trans s2) _ _ q, h3, fun u' c' => ?_⟩
        exact k G2 σ _ (s1.trans s2) ⟨rfl, fun _ _ => rfl⟩ (R2.mut hob ev c')
      · cases hf
end
end DL

set_option Elab.async false
set_option linter.all false
set_option autoImplicit false
set_option maxRecDepth 100000
set_option maxHeartbeats 1000000
namespace DL
open PySem PySem.Spec PyProof.Rows L2

section
variable {X : Cx} {ix : List Nat} {e a b o : Expr} {es : List Expr} {f fa fb fc fo : M} {ga : MA} {g : MS} {pos p : Pos}
/-! ### items of dicts -/
def getOb : Ob → Dv → Option Dv
  | .lst xs, .int k => atI xs k
  | .dct kvs, k => if isKey k = true then getD kvs k else none
  | _, _ => none
theorem getItem_ok {pins : List (Addr × Obj)} {s : Shared} {σ : L2.St} {H G : Hp} {ad : Addr} {ob : Ob} {k d : Dv} {iv : Value} {i : V} {Q : VK} (hu : X.A.units + 1 < cLine) (I : Inv X pins σ H s) (c : Ct X.K G H ad ob) (vk : VD X.K G H k i) (ri : RelV i iv) (hg : getOb ob k = some d)
    (q : ∀ v, Dp X.K G v d → Q v H) : wpAny (model X.prog X.w) X.A (getItem (.ref ad) iv) (EP X pins σ Q) X.xe s := by
  unfold getOb at hg
  split at hg
  · rename_i xs kk
    obtain ⟨vs, hv, qs⟩ := c
    rw [vd_int vk] at ri
    obtain ⟨t, rfl⟩ := ri
    obtain ⟨w, hw, qw⟩ := atI_dp qs hg
    obtain ⟨its, r, pl, hz⟩ := I.list (SqL.of hv)
    obtain ⟨j, h1, h2, h3, h4, h5⟩ := atI_get hw
    obtain ⟨u, eu, ru⟩ := r.get h2
    have hl := r.length
    have hn := line63
    have fin : EP X pins σ Q u s := ⟨w, H, I, ru, q w qw⟩
    by_cases h0 : 0 ≤ kk
    · have hj : kk.toNat = j := by
        rw [seqIndex_of h0 h5] at h1
        exact Option.some.inj h1
      exact wpAny_getItem_list pl.isList h0 (by omega) (by rw [hj]; simpa using eu) fin
    · have hj : (kk + (its.toArray.size : Int)).toNat = j := by
        rw [seqIndex_neg (by omega) h4] at h1
        rw [List.size_toArray, ← hl]
        exact Option.some.inj h1
      exact wpAny_getItem_list_neg pl.isList (by omega) (by rw [List.size_toArray] <;> omega) (by omega) (by rw [hj]; simpa using eu) fin
  · split at hg
    · rename_i hk
      obtain ⟨ks, hv, qs⟩ := c
      obtain ⟨k', rfl⟩ := isKey_of hk
      rw [vd_key vk] at ri
      rcases dkv_get (k := k') qs with ⟨d', v', h1, h2, h3⟩ | ⟨h1, _⟩
      · rw [hg] at h1
        cases h1
        exact d_getItem hu I (y := kV k') (v := v') (.inl ⟨ks, k', .inl hv, rfl, h2.symm⟩) ri fun w' s' I' rw' => ⟨v', H, I', rw', q v' h3⟩
      · rw [hg] at h1
        cases h1
    · cases hg
  · cases hg
def ixA (d k : Dv) : Option Rz := match d with
  | .dict kvs => if isKey k = true ∧ plD kvs = true then (getD kvs k).map .sh else none
  | _ => ixD d k
theorem ixA_d (hu : X.A.units + 1 < cLine) : IxD X ixA := by
  intro value slice pins s σ H x y v u Q I rx ry h hs
  obtain ⟨G, d, e, z, gh, vx, vy, hz, q⟩ := h
  unfold ixA at hz
  split at hz
  · rename_i kvs
    split at hz
    · rename_i hk
      obtain ⟨hk, hpl⟩ := hk
      obtain ⟨d', hd', rfl⟩ := Option.map_eq_some_iff.mp hz
      obtain ⟨ad, ks, rfl, h1, h2⟩ := vd_dk vx hpl
      cases rx
      refine tail_any (T := "dict") ?_ PySem.F.slot_dict_getitem.lookup (getItem_ok hu I (G := G) (ob := .dct kvs) (k := e) ⟨ks, h1, h2⟩ vy ry (by unfold getOb; simp only; rw [if_pos hk]; exact hd') fun w qw => res_val q qw) hs
      exact dict_typeIs I (y := kV (.inl 0)) (o := valV ks (.inl 0)) (.inl ⟨ks, _, .inl h1, rfl, rfl⟩)
    · cases hz
  · exact ix_d value slice pins s σ H x y v u Q I rx ry ⟨G, d, e, z, gh, vx, vy, hz, q⟩ hs
def inA (d c : Dv) : Option Bool := match c with
  | .dict kvs => if isKey d = true ∧ plD kvs = true then some (getD kvs d).isSome else if okT d = true ∧ plD kvs = false then some (getN kvs.tail d).isSome else none
  | _ => inSeq d c
theorem plD_dkv {K : PySem.W.Frag} {G : Hp} : ∀ {ks : List (Key × V)} {kvs : List (Dv × Dv)}, DKV K G ks kvs → plD kvs = true
  | _, _, .nil => rfl
  | _, _, .cons (k := k) _ _ => by cases k <;> rfl
theorem vd_dn {K : PySem.W.Frag} {G H : Hp} {kvs : List (Dv × Dv)} {v : V} (h : VD K G H (.dict kvs) v) (hp : plD kvs = false) : ∃ a ps, v = .ref a ∧ H a = some (tkO a ps) ∧ TKV K G ps kvs.tail := by
  rcases h with ⟨a, ks, _, _, q⟩ | ⟨a, ps, kvs', rfl, e, q, rfl⟩
  · rw [plD_dkv q] at hp
    cases hp
  · exact ⟨a, ps, rfl, e, q⟩
def inAD (d c : Dv) : Option Rz := (inA d c).map fun b => .sh (.bool b)
def ninAD (d c : Dv) : Option Rz := (inA d c).map fun b => .sh (.bool (!b))
theorem dk_get {K : PySem.W.Frag} {G H : Hp} {ad : Addr} {ks : List (Key × V)} {kvs : List (Dv × Dv)} {k : Key} (h1 : H ad = some (.dK ks)) (h2 : DKV K G ks kvs) : ∃ ov, DGet H ad (kV k) ov ∧ ov.isSome = (getD kvs (keyD k)).isSome := by
  refine ⟨valV ks k, .inl ⟨ks, k, .inl h1, rfl, rfl⟩, ?_⟩
  rcases dkv_get (k := k) h2 with ⟨d, v, e1, e2, _⟩ | ⟨e1, e2⟩ <;> rw [e1, e2] <;> rfl
theorem inA_d (hu : X.A.units + 65 < cLine) : OpD X (compareOp .In) inAD := by
  intro pins s σ H x y v u Q I rx ry h
  obtain ⟨G, d, c, z, gh, vx, vy, hz, q⟩ := h
  obtain ⟨b, hb, rfl⟩ := Option.map_eq_some_iff.mp hz
  unfold inA at hb
  split at hb
  · rename_i kvs
    split at hb
    · rename_i hk
      obtain ⟨hk, hpl⟩ := hk
      cases hb
      obtain ⟨ad, ks, rfl, h1, h2⟩ := vd_dk vy hpl
      cases ry
      obtain ⟨k', rfl⟩ := isKey_of hk
      rw [vd_key vx] at rx
      obtain ⟨ov, g1, g2⟩ := dk_get (k := k') h1 h2
      rw [← g2] at q
      exact d_in (by omega) I g1 rx fun s' I' => ⟨.bl ov.isSome, H, I', rfl, res_bl q⟩
    · split at hb
      · rename_i hk
        obtain ⟨hk, hpl⟩ := hk
        cases hb
        obtain ⟨ad, ps, rfl, h1, h2⟩ := vd_dn vy hpl
        cases ry
        obtain ⟨ds, n, rfl, hn, h8⟩ := okT_of hk
        obtain ⟨b, vs, rfl, _⟩ := vd_tup gh vx
        have pk : Dp X.K G (.ref b) (.tuple ds) := vx
        cases (show v = Value.ref b from rx)
        obtain ⟨xs, hp, hdk, hsys⟩ := tk_of I h1 (h2.mono (sub_le gh))
        have e2 : (getN kvs.tail (.tuple ds)).isSome = (atKey xs n).isSome := by
          rcases getN_at hn hp h2 with ⟨a1, a2⟩ | ⟨_, _, _, _, a1, _, _, a2⟩ <;> rw [a1, a2] <;> rfl
        rw [e2] at q
        exact wpAny_in_heap (show X.A.units + 1 + 8 < cLine by omega) (show (nestedKind X.prog X.w).is s.heap n b from ⟨nestedIs_of I _ _ _ _ (dp_mono (sub_le gh) _ _ pk) rfl hn, h8⟩) hsys hdk ⟨.bl (atKey xs n).isSome, H, I.tok _, rfl, res_bl q⟩
      · cases hb
  · exact in_d hu pins s σ H x y v u Q I rx ry ⟨G, d, c, _, gh, vx, vy, by unfold inSD; rw [hb]; rfl, q⟩
theorem ninA_d (hu : X.A.units + 65 < cLine) : OpD X (compareOp .NotIn) ninAD := by
  intro pins s σ H x y v u Q I rx ry h
  obtain ⟨G, d, c, z, gh, vx, vy, hz, q⟩ := h
  obtain ⟨b, hb, rfl⟩ := Option.map_eq_some_iff.mp hz
  unfold inA at hb
  split at hb
  · rename_i kvs
    split at hb
    · rename_i hk
      obtain ⟨hk, hpl⟩ := hk
      cases hb
      obtain ⟨ad, ks, rfl, h1, h2⟩ := vd_dk vy hpl
      cases ry
      obtain ⟨k', rfl⟩ := isKey_of hk
      rw [vd_key vx] at rx
      obtain ⟨ov, g1, g2⟩ := dk_get (k := k') h1 h2
      rw [← g2] at q
      exact d_notIn (by omega) I g1 rx fun s' I' => ⟨.bl (!ov.isSome), H, I', rfl, res_bl q⟩
    · split at hb
      · rename_i hk
        obtain ⟨hk, hpl⟩ := hk
        cases hb
        obtain ⟨ad, ps, rfl, h1, h2⟩ := vd_dn vy hpl
        cases ry
        obtain ⟨ds, n, rfl, hn, h8⟩ := okT_of hk
        obtain ⟨b, vs, rfl, _⟩ := vd_tup gh vx
        have pk : Dp X.K G (.ref b) (.tuple ds) := vx
        cases (show v = Value.ref b from rx)
        obtain ⟨xs, hp, hdk, hsys⟩ := tk_of I h1 (h2.mono (sub_le gh))
        have e2 : (getN kvs.tail (.tuple ds)).isSome = (atKey xs n).isSome := by
          rcases getN_at hn hp h2 with ⟨a1, a2⟩ | ⟨_, _, _, _, a1, _, _, a2⟩ <;> rw [a1, a2] <;> rfl
        rw [e2] at q
        show wpAny (model X.prog X.w) X.A (do return Value.bool (!(← contains (.ref ad) (.ref b)))) (EP X pins σ Q) X.xe s
        exact wpAny_bind (wpAny_contains_heap (show X.A.units + 1 + 8 < cLine by omega) (show (nestedKind X.prog X.w).is s.heap n b from ⟨nestedIs_of I _ _ _ _ (dp_mono (sub_le gh) _ _ pk) rfl hn, h8⟩) hsys hdk (wpAny_pure ⟨.bl (!(atKey xs n).isSome), H, I.tok _, rfl, res_bl q⟩))
      · cases hb
  · exact nin_d hu pins s σ H x y v u Q I rx ry ⟨G, d, c, _, gh, vx, vy, by unfold ninSD; rw [hb]; rfl, q⟩
/-! ### o[i] op= v -/
def sAugS (gg : Dv → Dv → Option Rz) (fo fi fe : M) : MS := fun ρ => (fo ρ).bind fun x => match x.1 with
  | .al j => (pkM fi x.2).bind fun y => (dat y.2 y.1).bind fun k => if isKey k = true then (match y.2[j]? with
    | some (.ow ob) => (getOb ob k).bind fun d0 => (pkM fe y.2).bind fun z => (dat z.2 z.1).bind fun d1 => (gg d0 d1).bind fun r => (match r with
      | .sh d => (match z.2[j]? with
        | some (.ow ob2) => (setOb ob2 k d).bind fun ob' => some (.nx (z.2.set j (.ow ob')))
        | _ => none)
      | .ow _ => none)
    | _ => none) else none
  | _ => none
def RGet (K : PySem.W.Frag) : V → V → Hp → VK → Prop := fun ov i H Q => ∃ G a ob k d, ov = .ref a ∧ (∀ a o, G a = some o → H a = some o) ∧ Ct K G H a ob ∧ VD K G H k i ∧ getOb ob k = some d ∧ ∀ v, Dp K G v d → Q v H
theorem get_d (hu : X.A.units + 1 < cLine) : PGet X (RGet X.K) := by
  intro pins s σ H ov i ovv iv Q I ro ri h
  obtain ⟨G, a, ob, k, d, rfl, gh, c, vk, hg, q⟩ := h
  cases (show ovv = Value.ref a from ro)
  exact getItem_ok hu I c vk ri hg q
theorem key_stay {K : PySem.W.Frag} {G H G' H' : Hp} {k : Dv} {v : V} (hk : isKey k = true) (h : VD K G H k v) : VD K G' H' k v := by
  obtain ⟨k', rfl⟩ := isKey_of hk
  rw [vd_key h]
  cases k' with
  | inl i => exact (Dp.int i : Dp K G' _ _)
  | inr x => exact (Dp.str x : Dp K G' _ _)
theorem ds_augS {i : Expr} {fi fe : M} {op : Operator} {gg : Dv → Dv → Option Rz} {tpos : Pos} (hu : X.A.units + 200 < cLine) (ho : PE X o (TE' X.K ix fo)) (hi : PE X i (TE' X.K ix fi)) (he : PE X e (TE' X.K ix fe)) (hp : OpD X (inplaceOp op) gg)
    (hq : ∀ (to ti te : TE) (tget : V → V → Hp → VK → Prop) (tip : TIp) (tset : TSet), PE X o to → PE X i ti → PGet X tget → PE X e te → PIp X op tip → PSet X tset → PS X (.AugAssign (.Subscript o i tpos) op e pos) (tAugS to ti te tget tip tset) := by exact fun _ _ _ _ _ _ h1 h2 h3 h4 h5 h6 => ps_augS h1 h2 h3 h4 h5 h6) :
    PS X (.AugAssign (.Subscript o i tpos) op e pos) (TS' X.K ix (sAugS gg fo fi fe)) :=
  ps_imp (hq _ _ _ _ (R2d X.K gg) _ ho (de_pk hi) (get_d (by omega)) (de_pk he) (fun pins s σ H x y v u Q I r1 r2 h => hp pins s σ H x y v u Q I r1 r2 h) (set_d hu)) fun D σ H ⟨Fr, FX, G, ρ, fl, R, hf, k⟩ => by
    unfold sAugS at hf
    obtain ⟨⟨r0, ρ0⟩, h0, hf⟩ := Option.bind_eq_some_iff.mp hf
    refine ⟨Fr, FX, G, ρ, r0, ρ0, R, h0, fun x G1 H1 s1 R1 v1 => ?_⟩
    cases r0 with
    | sh d => cases hf
    | ow d => cases hf
    | al j =>
      simp only at hf
      obtain ⟨⟨r1, ρ1⟩, h1, hf⟩ := Option.bind_eq_some_iff.mp hf
      obtain ⟨kd, h2, hf⟩ := Option.bind_eq_some_iff.mp hf
      split at hf
      rotate_left
      · cases hf
      rename_i hk
      split at hf
      · rename_i ob hob
        obtain ⟨d0, h3, hf⟩ := Option.bind_eq_some_iff.mp hf
        obtain ⟨⟨r2, ρ2⟩, h4, hf⟩ := Option.bind_eq_some_iff.mp hf
        obtain ⟨d1, h5, hf⟩ := Option.bind_eq_some_iff.mp hf
        obtain ⟨z, h6, hf⟩ := Option.bind_eq_some_iff.mp hf
        cases z with
        | ow o => cases hf
        | sh d =>
          simp only at hf
          split at hf
          · rename_i ob2 hob2
            obtain ⟨ob', h7, hf⟩ := Option.bind_eq_some_iff.mp hf
            cases hf
            have ev : σ[j]? = some (some x) := v1
            refine ⟨Fr, FX, G1, ρ0, r1, ρ1, R1, h1, fun y G2 H2 s2 R2 v2 => ?_⟩
            obtain ⟨ad, ea, g2, f2, c2⟩ := R2.sl j _ hob
            rw [ev] at ea
            cases ea
            refine ⟨G2, ad, ob, kd, d0, rfl, R2.gh, c2, dat_vd R2 v2 h2, h3, fun w qw => ?_⟩
            refine ⟨Fr, FX, G2, ρ1, r2, ρ2, R2, h4, fun w2 G3 H3 s3 R3 v3 => ?_⟩
            refine ⟨G3, d0, d1, .sh d, R3.gh, dp_vd R3.gh (dp_mono s3 _ _ qw), dat_vd R3 v3 h5, h6, res_ok R3 fun w3 G4 H4 s4 R4 v4 => ?_⟩
            obtain ⟨ad', ea', g4, f4, c4⟩ := R4.sl j _ hob2
            rw [ev] at ea'
            cases ea'
            refine ⟨G4, ad, ob2, ob', kd, d, rfl, R4.gh, g4, c4, key_stay hk (dat_vd R2 v2 h2), v4, h7, fun u' c' => ?_⟩
            exact k G4 σ _ (((s1.trans s2).trans s3).trans s4) (R4.mut hob2 ev c')
          · cases hf
      · cases hf
/-! ### a, b = x, y -/
def setR (ρ : Rho) (i : Nat) : Rv → Option Rho
  | .sh d => some (ρ.set i (.sh d))
  | .ow o => some (ρ.set i (.ow o))
  | .al _ => none
def sPar (i j : Nat) (ga : MA) : MS := fun ρ => (ga ρ).bind fun x => match x.1 with
  | [r, s] => (setR x.2 i r).bind fun ρ1 => (setR ρ1 j s).bind fun ρ2 => some (.nx ρ2)
  | _ => none
theorem setR_ok {K : PySem.W.Frag} {Fr G H : Hp} {FX : Nat → Option V} {ρ ρ' : Rho} {σ : L2.St} {i : Nat} {r : Rv} {v : V} (R : RS K ix Fr FX G ρ σ H) (hi : i ∉ ix) (q : VOk K Fr G H ρ σ r v) (h : setR ρ i r = some ρ') : RS K ix Fr FX G ρ' (σ.set i (some v)) H := by
  cases r with
  | sh d => cases h; exact R.set hi ⟨v, rfl, q⟩ fun o a z => nomatch z
  | al j => cases h
  | ow o =>
    cases h
    obtain ⟨a, rfl, g, fr, c, hn⟩ := q
    exact R.set hi ⟨a, rfl, g, fr, c⟩ fun o' a' z1 z2 j o2 e1 => by cases z2; exact hn j o2 e1
theorem setR_keep {K : PySem.W.Frag} {Fr G H : Hp} {ρ ρ' : Rho} {σ : L2.St} {i : Nat} {r r' : Rv} {v v' : V} (q : VOk K Fr G H ρ σ r' v') (nal : ∀ k, r' ≠ .al k) (h : setR ρ i r = some ρ') (hl : ρ.length = σ.length) (ap : ∀ (o o' : Ob) (a : Addr), r = .ow o → v = .ref a → r' = .ow o' → v' ≠ .ref a) : VOk K Fr G H ρ' (σ.set i (some v)) r' v' := by
  cases r' with
  | sh d => exact q
  | al k => exact absurd rfl (nal k)
  | ow o' =>
    obtain ⟨a, rfl, g, fr, c, hn⟩ := q
    refine ⟨a, rfl, g, fr, c, fun k o2 e1 e2 => ?_⟩
    by_cases hk : i = k
    · subst hk
      cases r with
      | al j => cases h
      | sh d =>
        cases h
        have hlt : i < ρ.length := by have := (List.getElem?_eq_some_iff.mp e1).1; simpa using this
        rw [List.getElem?_set_self hlt] at e1
        cases e1
      | ow o =>
        cases h
        have hlt : i < ρ.length := by have := (List.getElem?_eq_some_iff.mp e1).1; simpa using this
        rw [List.getElem?_set_self (by omega)] at e2
        cases e2
        exact ap _ _ a rfl rfl rfl rfl
    · rw [List.getElem?_set_ne hk] at e2
      have e1' : ρ[k]? = some (.ow o2) := by
        cases r with
        | al j => cases h
        | sh d => cases h; rw [List.getElem?_set_ne hk] at e1; exact e1
        | ow o => cases h; rw [List.getElem?_set_ne hk] at e1; exact e1
      exact hn k o2 e1' e2
theorem ds_par {i j : Nat} {x y : Str} {px py pt : Pos} {kt k2 pt2} (hc : X.calm = true) (hN : X.N.Nodup) (hi : X.N[i]? = some x) (hj : X.N[j]? = some y) (hij : i ≠ j) (hii : i ∉ ix) (hjj : j ∉ ix)
    (hx : X.env.scope.names.lookup x = some .local) (hy : X.env.scope.names.lookup y = some .local) (ha : PA X [a, b] (TA' X.K ix ga))
    (hw : swappedStores [.Tuple [.Name x px, .Name y py] kt pt] (.Tuple [a, b] k2 pt2) X.env = pure (some [x, y]) := by rfl)
    (hs : swapsWithSole [.Tuple [.Name x px, .Name y py] kt pt] (.Tuple [a, b] k2 pt2) pos.line X.env = pure false := by rfl) :
    PS X (.Assign [.Tuple [.Name x px, .Name y py] kt pt] (.Tuple [a, b] k2 pt2) pos) (TS' X.K ix (sPar i j ga)) :=
  ps_imp (ps_par hc hN hi hj hij hx hy ha hw hs) fun D σ H ⟨Fr, FX, G, ρ, fl, R, hf, k⟩ => by
    unfold sPar at hf
    obtain ⟨⟨rs, ρ0⟩, h0, hf⟩ := Option.bind_eq_some_iff.mp hf
    refine ⟨Fr, FX, G, ρ, rs, ρ0, R, h0, fun vs G1 H1 s1 R1 v1 => ?_⟩
    simp only at hf
    split at hf
    · rename_i r s
      obtain ⟨ρ1, h1, hf⟩ := Option.bind_eq_some_iff.mp hf
      obtain ⟨ρ2, h2, hf⟩ := Option.bind_eq_some_iff.mp hf
      cases hf
      cases vs with
      | nil => exact False.elim v1
      | cons v vs =>
        cases vs with
        | nil => exact False.elim v1.2.2
        | cons w vs =>
          obtain ⟨q1, ap, q2, _, q3⟩ := v1
          cases vs with
          | cons _ _ => exact False.elim q3
          | nil =>
            have nal : ∀ k, s ≠ .al k := fun k z => by subst z; cases h2
            have K1 := setR_ok R1 hii q1 h1
            have Q2 := setR_keep (v := v) q2 nal h1 R1.len fun o o' a z1 z2 z3 z4 => ap o a z1 z2 0 o' (by rw [z3]; rfl) (by rw [z4]; rfl)
            have K2 := setR_ok K1 hjj Q2 h2
            exact ⟨v, w, rfl, k G1 _ H1 s1 K2⟩
    · cases hf
end
end DL

set_option Elab.async false
set_option linter.all false
set_option autoImplicit false
set_option maxRecDepth 100000
set_option maxHeartbeats 1000000
namespace DL
open PySem PySem.Spec PyProof.Rows L2

/-! ### slices -/
def cutD (xs : List Dv) (lo hi : Option Int) : List Dv := (xs.drop (HT.sIx xs.length 0 lo)).take (HT.sIx xs.length xs.length hi - HT.sIx xs.length 0 lo)
def cutG (d : Dv) (lo hi : Option Int) : Option Rz := match d with
  | .list xs => some (.ow (.lst (cutD xs lo hi)))
  | .tuple xs => some (.sh (.tuple (cutD xs lo hi)))
  | .str z => if z.length ≤ sizeLine then some (.sh (.str (cutS z lo hi))) else none
  | _ => none
abbrev MO := Rho → Option (Option Int × Rho)
def oNo : MO := fun ρ => some (none, ρ)
def oInt (f : M) : MO := fun ρ => (f ρ).bind fun x => match x.1 with
  | .sh (.int i) => some (some i, x.2)
  | _ => none
def eCut (f : M) (lo hi : MO) : M := fun ρ => (pkM f ρ).bind fun x => (lo x.2).bind fun y => (hi y.2).bind fun z => (dat z.2 x.1).bind fun d => (cutG d y.1 z.1).bind fun r => some (r.rv, z.2)
def TO' (K : PySem.W.Frag) (ix : List Nat) (f : MO) : TO := fun σ H Q => ∃ Fr FX G ρ i ρ', RS K ix Fr FX G ρ σ H ∧ f ρ = some (i, ρ') ∧ ∀ G' H', Sub G G' → RS K ix Fr FX G' ρ' σ H' → Q i H'
section
variable {X : Cx} {ix : List Nat} {e a b o : Expr} {es : List Expr} {f fa fb fc fo : M} {ga : MA} {g : MS} {pos p p2 : Pos}
theorem po_imp {e : Option Expr} {t t' : TO} (h : PO X e t) (k : ∀ σ H Q, t' σ H Q → t σ H Q) : PO X e t' := ⟨fun pins s σ H Q I q => h.run pins s σ H Q I (k _ _ _ q)⟩
theorem do_no : PO X none (TO' X.K ix oNo) := po_imp po_none fun σ H Q ⟨Fr, FX, G, ρ, i, ρ', R, hf, k⟩ => by
  cases hf
  exact k G H (Sub.refl _) R
theorem do_int (h : PE X e (TE' X.K ix f)) : PO X (some e) (TO' X.K ix (oInt f)) := po_imp (po_some h) fun σ H Q ⟨Fr, FX, G, ρ, i, ρ', R, hf, k⟩ => by
  unfold oInt at hf
  obtain ⟨⟨r0, ρ0⟩, h0, hf⟩ := Option.bind_eq_some_iff.mp hf
  refine ⟨Fr, FX, G, ρ, r0, ρ0, R, h0, fun v G1 H1 s1 R1 v1 => ?_⟩
  simp only at hf
  split at hf
  · cases hf
    have v1' : Dp X.K G1 v (.int _) := v1
    cases v1'
    exact ⟨_, rfl, k G1 H1 s1 R1⟩
  · cases hf
theorem cut_dp {K : PySem.W.Frag} {G : Hp} {ds : List Dv} {vs : List V} {lo hi : Option Int} (h : DpAll K G vs ds) : DpAll K G (cutV vs lo hi) (cutD ds lo hi) := by
  unfold cutV cutD
  rw [dpAll_length h]
  exact dpAll_take _ (dpAll_drop _ h)
theorem cutD_whole {ds : List Dv} {lo hi : Option Int} (h : HT.sIx ds.length 0 lo = 0 ∧ HT.sIx ds.length ds.length hi = ds.length) : cutD ds lo hi = ds := by
  unfold cutD
  rw [h.1, h.2]
  simp
def RCut (K : PySem.W.Frag) : V → Option Int → Option Int → Hp → VK → Prop := fun x lo hi H Q => ∃ G d z, (∀ a o, G a = some o → H a = some o) ∧ VD K G H d x ∧ cutG d lo hi = some z ∧ Res K G H Q z
theorem cut_d : SlR X (RCut X.K) := by
  intro pins s σ H x v vl vu lo hi sl Q I rx hs pl pu h
  obtain ⟨G, d, z, gh, vd, hz, q⟩ := h
  unfold cutG at hz
  split at hz
  · cases hz
    obtain ⟨ad, vs, rfl, h1, h2⟩ := vd_list vd
    exact sl_list pins s σ H _ v vl vu lo hi sl Q I rx hs pl pu ⟨ad, vs, rfl, h1, fun p hp => res_lst q hp (cut_dp h2)⟩
  · rename_i ds
    cases hz
    obtain ⟨ad, vs, rfl, g1, h1, h2⟩ := vd_tup gh vd
    have l := dpAll_length h2
    refine sl_tupA pins s σ H _ v vl vu lo hi sl Q I rx hs pl pu ⟨ad, vs, rfl, h1, fun hw => ?_, fun _ p hp => res_tup q (g_none gh hp) hp (cut_dp h2)⟩
    rw [l] at hw
    rw [cutD_whole hw] at q
    exact res_val q (.tup g1 h2)
  · split at hz
    · rename_i hc
      cases hz
      rw [vd_str vd] at rx
      exact sl_str pins s σ H _ v vl vu lo hi sl Q I rx hs pl pu ⟨_, rfl, hc, res_str q⟩
    · cases hz
  · cases hz
theorem de_cut {lo hi : Option Expr} {ml mh : MO} (he : PE X e (TE' X.K ix f)) (hl : PO X lo (TO' X.K ix ml)) (hu : PO X hi (TO' X.K ix mh)) : PE X (.Subscript e (.Slice lo hi none p2) pos) (TE' X.K ix (eCut f ml mh)) :=
  pe_imp (pe_slice cut_d (de_pk he) hl hu) fun σ H Q ⟨Fr, FX, G, ρ, r, ρ', R, hf, k⟩ => by
    unfold eCut at hf
    obtain ⟨⟨r0, ρ0⟩, h0, hf⟩ := Option.bind_eq_some_iff.mp hf
    obtain ⟨⟨i, ρ1⟩, h1, hf⟩ := Option.bind_eq_some_iff.mp hf
    obtain ⟨⟨j, ρ2⟩, h2, hf⟩ := Option.bind_eq_some_iff.mp hf
    obtain ⟨d, h3, hf⟩ := Option.bind_eq_some_iff.mp hf
    obtain ⟨z, h4, hf⟩ := Option.bind_eq_some_iff.mp hf
    cases hf
    refine ⟨Fr, FX, G, ρ, r0, ρ0, R, h0, fun v G1 H1 s1 R1 v1 => ?_⟩
    cases r0 with
    | ow ob =>
      cases ob with
      | lst ds => exact absurd rfl (pk_noow h0 ds)
      | dct kvs =>
        cases h3
        cases h4
      | dtn kvs =>
        cases h3
        cases h4
    | sh d0 =>
      cases h3
      refine ⟨Fr, FX, G1, ρ0, i, ρ1, R1, h1, fun G2 H2 s2 R2 => ⟨Fr, FX, G2, ρ1, j, _, R2, h2, fun G3 H3 s3 R3 => ?_⟩⟩
      exact ⟨G3, d, z, R3.gh, dp_vd R3.gh (dp_mono (s2.trans s3) _ _ v1), h4, res_ok R3 fun w G4 H4 s4 R4 v4 => k w G4 H4 (((s1.trans s2).trans s3).trans s4) R4 v4⟩
    | al n =>
      refine ⟨Fr, FX, G1, ρ0, i, ρ1, R1, h1, fun G2 H2 s2 R2 => ⟨Fr, FX, G2, ρ1, j, _, R2, h2, fun G3 H3 s3 R3 => ?_⟩⟩
      exact ⟨G3, d, z, R3.gh, dat_vd (r := .al n) R3 v1 h3, h4, res_ok R3 fun w G4 H4 s4 R4 v4 => k w G4 H4 (((s1.trans s2).trans s3).trans s4) R4 v4⟩

/-! ### x[::-1] -/
def revD : Dv → Option Rz
  | .list xs => some (.ow (.lst xs.reverse))
  | .tuple xs => some (.sh (.tuple xs.reverse))
  | _ => none
theorem slice_back {prog : Program} {w : World} {A : Around} {E : Value → Shared → Prop} {s : Shared} {sl : Addr} {vl vu vs : Value} {n : Nat} {Q : Int × Int × Nat → Shared → Prop} (hs : s.heap.IsSliceOf sl vl vu vs) (pl : IsPart vl none) (pu : IsPart vu none) (ps : IsPart vs (some (-1)))
    (h : Q ((n : Int) - 1, -1, n) s) : wpAny (model prog w) A (Builtin.Slice.sliceApplied (.ref sl) (pure (n : Int))) Q E s := by
  obtain ⟨os, ho, hc, hd⟩ := id hs
  unfold Builtin.Slice.sliceApplied Builtin.Slice.sliceFields
  refine wpAny_bind (wpAny_bind (wpAny_field ho hd (x := vl) rfl (wpAny_bind (wpAny_field ho hd (x := vu) rfl (wpAny_bind (wpAny_field ho hd (x := vs) rfl (wpAny_pure ?_)))))))
  refine wpAny_bind (HT.slicePart_ ps ?_)
  show wpAny _ _ (if ((-1 : Int) == 0) = true then _ else _) _ _ s
  rw [if_neg (by decide)]
  refine wpAny_bind (HT.slicePart_ pl (wpAny_bind (HT.slicePart_ pu (wpAny_bind (wpAny_pure ?_)))))
  show wpAny _ _ (match Builtin.Slice.sliceAdjust none none (-1) (n : Int) with | (lo, hi) => pure (lo, (-1 : Int), Builtin.Slice.slicePlaces lo hi (-1))) _ _ s
  have e1 : Builtin.Slice.sliceAdjust none none (-1) (n : Int) = ((n : Int) - 1, -1) := by
    unfold Builtin.Slice.sliceAdjust
    simp
  rw [e1]
  show wpAny _ _ (pure ((n : Int) - 1, (-1 : Int), Builtin.Slice.slicePlaces ((n : Int) - 1) (-1) (-1))) _ _ s
  have e2 : Builtin.Slice.slicePlaces ((n : Int) - 1) (-1) (-1) = n := by
    unfold Builtin.Slice.slicePlaces
    simp
    try omega
  rw [e2]
  exact wpAny_pure h
theorem pick_back (xs : Array Value) : ((List.range xs.size).filterMap fun (m : Nat) => xs[(((xs.size : Int) - 1) + (m : Int) * (-1)).toNat]?) = xs.toList.reverse := by
  have e : ((List.range xs.size).filterMap fun (m : Nat) => xs[(((xs.size : Int) - 1) + (m : Int) * (-1)).toNat]?) = (((List.range xs.size).map fun k => xs.size - 1 - k).filterMap fun k => xs[k]?) := by
    rw [List.filterMap_map]
    congr 1
    funext m
    have : (((xs.size : Int) - 1) + (m : Int) * (-1)).toNat = xs.size - 1 - m := by omega
    rw [this]
    rfl
  rw [e, PySem.W.krv_range, List.filterMap_reverse, PySem.W.krv_all]
theorem tuple_back {prog : Program} {w : World} {A : Around} {E : Value → Shared → Prop} {s : Shared} {t sl : Addr} {items : Array Value} {vl vu vs : Value} {Q : Value → Shared → Prop} (ht : IsTup s.heap t items) (hs : s.heap.IsSliceOf sl vl vu vs) (pl : IsPart vl none) (pu : IsPart vu none) (ps : IsPart vs (some (-1)))
    (hsz : items.size ≤ sizeLine) (h : Q (.ref s.heap.objs.size) { s with heap := s.heap.push { cls := .type "tuple", data := .seq items.toList.reverse.toArray } }) : wpAny (model prog w) A (getItem (.ref t) (.ref sl)) Q E s := by
  have hz : sizeOk (.seq items.toList.reverse.toArray) := by
    show items.toList.reverse.toArray.size ≤ sizeLine
    simpa using hsz
  obtain ⟨os, ho, hc, hd⟩ := id hs
  have hT : s.TypeIs (.ref sl) "slice" := ⟨os, ho, hc⟩
  unfold getItem
  try with_reducible refine wpAny_holding ?_
  first | refine wpAny_bind (wpAny_pure ?_) | skip
  refine wpAny_bind (wpAny_sequenceKey ht.typeIs (by decide) (wpAny_bind (wpAny_callSpecial?_slot (name := Str.ofString "__getitem__") ht.typeIs PyProof.Rows.slot_tuple_getitem (wpAny_call_entry PyProof.Rows.slot_tuple_getitem ht.typeIs entry_tuple_getitem ?_ (args_tuple_getitem _ _)))))
  show wpAny _ _ (Builtin.Tuple.tupleItemsOf (.ref t) >>= _) _ _ s
  refine wpAny_bind (tupleItemsOf_ ht (wpAny_bind (wpAny_typeOf hT ?_)))
  rw [if_pos (by decide)]
  refine wpAny_bind (slice_back hs pl pu ps ?_)
  have no : ¬ ((((items.size : Int) - 1) == 0 && (-1 : Int) == 1 && items.size == items.size) = true) := by simp
  show wpAny _ _ (if (((items.size : Int) - 1) == 0 && (-1 : Int) == 1 && items.size == items.size) = true then _ else _) _ _ s
  rw [if_neg no, pick_back]
  first
    | exact wpAny_bind (m := Builtin.Tuple.tupleExact _) (wpAny_newObj_type (wpAny_pure ⟨_, rfl, wpAny_pure h⟩) hz)
    | exact wpAny_bind (m := Builtin.Tuple.tupleExact _) (wpAny_newObj_type (wpAny_bind (wpAny_pure (wpAny_pure ⟨_, rfl, wpAny_pure h⟩))) hz)
    | exact wpAny_bind (wpAny_bind (m := Builtin.Tuple.tupleExact _) (wpAny_newObj_type (wpAny_pure (wpAny_pure ⟨_, rfl, wpAny_pure h⟩)) hz))
    | exact wpAny_bind (wpAny_bind (m := Builtin.Tuple.tupleExact _) (wpAny_newObj_type (wpAny_pure ⟨_, rfl, wpAny_pure h⟩) hz))
def tBack (K : PySem.W.Frag) (te : TE) : TE := fun σ H Q => te σ H fun x H1 => ∃ a xs, x = .ref a ∧ ((SqL K H1 a xs ∧ ∀ p, H1 p = none → Q (.ref p) (upd H1 p (.lst xs.reverse))) ∨ (SqT K H1 a xs ∧ ∀ p, H1 p = none → Q (.ref p) (upd H1 p (.tup xs.reverse))))
theorem pe_back {te : TE} {k : Nat} {p1 p2 p3 : Pos} (he : PE X e te) : PE X (.Subscript e (.Slice none none (some (.UnaryOp .USub (.Constant (.int 1) k p1) p2)) p3) pos) (tBack X.K te) := ⟨fun pins s σ H Q I h => Subscript_ (thn (he.run pins s σ H _ I h) fun v s1 ⟨x, H1, I1, r1, ad, xs, ex, q⟩ => by
  subst ex
  cases r1
  have st : PO X (some (.UnaryOp .USub (.Constant (.int 1) k p1) p2)) (tPart (tUn (rU fun i => .int (-i)) (tC (.int 1)))) := po_some (pe_un un_neg pe_int)
  refine wpAny_Slice (thn (po_none.run pins s1 σ H1 (fun o H2 => o = none ∧ H2 = H1) I1 ⟨rfl, rfl⟩) fun vl s2 ⟨l, H2, I2, pl, el, e2⟩ => ?_)
  subst el e2
  refine thn (po_none.run pins s2 σ H2 (fun o H3 => o = none ∧ H3 = H2) I2 ⟨rfl, rfl⟩) fun vu s3 ⟨u, H3, I3, pu, eu, e3⟩ => ?_
  subst eu e3
  refine thn (st.run pins s3 σ H3 (fun o H4 => o = some (-1) ∧ H4 = H3) I3 ⟨1, rfl, -1, rfl, rfl, rfl⟩) fun vt s4 ⟨o, H4, I4, pt, eo, e4⟩ => ?_
  subst eo e4
  have I5 : Inv X pins σ H4 { s4 with heap := s4.heap.push { cls := .type "slice", data := .fields #[vl, vu, vt] } } := I4.kept (t' := s4.toks) fun b ob q => Heap.get?_push_of_some _ q
  show wpAny (model X.prog X.w) X.A (subscriptTail e (.Slice none none (some (.UnaryOp .USub (.Constant (.int 1) k p1) p2)) p3) (.ref ad) (.ref s4.heap.objs.size)) (EP X pins σ Q) X.xe { s4 with heap := s4.heap.push { cls := .type "slice", data := .fields #[vl, vu, vt] } }
  rcases q with ⟨hx, q⟩ | ⟨hx, q⟩
  · obtain ⟨its, r, ht, hz⟩ := I5.list hx
    have hl := r.length
    refine tail_any (ops := [.ref ad, .ref s4.heap.objs.size]) ht.isList.typeIs (PySem.slot_list_getitem.lookup) ?_ (by with_unfolding_all rfl)
    refine wpAny_getItem_list_slice ht.isList (Heap.IsSliceOf.new _ vl vu vt) pl pu pt (by decide) ?_ (by rw [List.size_toArray]; omega)
    rw [PySem.W.krv_pick]
    exact ⟨.ref _, _, I5.lnew (t' := s4.toks) (ys := xs.reverse) r.reverse (by rw [List.length_reverse]; exact hz), rfl, q _ I5.fresh⟩
  · obtain ⟨its, r, ht, hz⟩ := I5.tuple hx
    have hl := r.length
    refine tail_any (ops := [.ref ad, .ref s4.heap.objs.size]) ht.typeIs PyProof.Rows.slot_tuple_getitem.lookup ?_ (by with_unfolding_all rfl)
    refine tuple_back ht (Heap.IsSliceOf.new _ vl vu vt) pl pu pt (by rw [List.size_toArray]; omega) ?_
    exact ⟨.ref _, _, I5.laid (t' := s4.toks) (o := .tup xs.reverse) (fun b ob z => Heap.get?_push_of_some _ z) (Nat.le_refl _) (show ObjOk X.prog X.w _ _ _ (.tup xs.reverse) from ⟨by rw [List.length_reverse]; exact hz, _, r.reverse, IsTup.new _ _⟩), rfl, q _ I5.fresh⟩)⟩
theorem de_back {k : Nat} {p1 p2 p3 : Pos} (he : PE X e (TE' X.K ix f)) : PE X (.Subscript e (.Slice none none (some (.UnaryOp .USub (.Constant (.int 1) k p1) p2)) p3) pos) (TE' X.K ix (unS revD f)) :=
  pe_imp (pe_back he) fun σ H Q ⟨Fr, FX, G, ρ, r, ρ', R, hf, k⟩ => by
    unfold unS at hf
    obtain ⟨⟨r1, ρ1⟩, h1, hf⟩ := Option.bind_eq_some_iff.mp hf
    obtain ⟨d, h2, hf⟩ := Option.bind_eq_some_iff.mp hf
    obtain ⟨z, h3, hf⟩ := Option.bind_eq_some_iff.mp hf
    cases hf
    refine ⟨Fr, FX, G, ρ, r1, _, R, h1, fun v G1 H1 s1 R1 v1 => ?_⟩
    have vd := dat_vd R1 v1 h2
    have q : Res X.K G1 H1 Q z := res_ok R1 fun w G2 H2 s2 R2 w2 => k w G2 H2 (s1.trans s2) R2 w2
    unfold revD at h3
    split at h3
    · cases h3
      obtain ⟨ad, vs, rfl, h4, h5⟩ := vd_list vd
      exact ⟨ad, vs, rfl, .inl ⟨h4, fun p hp => res_lst q hp (dpAll_reverse h5)⟩⟩
    · cases h3
      obtain ⟨ad, vs, rfl, g4, h4, h5⟩ := vd_tup R1.gh vd
      exact ⟨ad, vs, rfl, .inr ⟨h4, fun p hp => res_tup q (g_none R1.gh hp) hp (dpAll_reverse h5)⟩⟩
    · cases h3
end
end DL

set_option Elab.async false
set_option linter.all false
set_option autoImplicit false
set_option maxRecDepth 100000
namespace DL
open PySem PySem.Spec PyProof.Rows L2

/-! ### dict displays -/
def prS : List (Key × M) → Rho → Option (List (Key × Dv) × Rho)
  | [], ρ => some ([], ρ)
  | (k, f) :: r, ρ => (frM f ρ).bind fun x => match x.1 with
    | .sh d => (prS r x.2).bind fun y => some ((k, d) :: y.1, y.2)
    | _ => none
def mergeD (kvs : List (Dv × Dv)) (more : List (Key × Dv)) : List (Dv × Dv) := more.foldl (fun acc p => putD acc (keyD p.1) p.2) kvs
def eDisp (r : List (Key × M)) : M := fun ρ => (prS r ρ).bind fun y => some (.ow (.dct (mergeD [] y.1)), y.2)
inductive DPs (X : Cx) (ix : List Nat) : List (Option Expr) → List Expr → List (Key × M) → Prop
  | nil : DPs X ix [] [] []
  | cons {e v : Expr} {ks : List (Option Expr)} {vs : List Expr} {k : Key} {f : M} {r : List (Key × M)} (hk : PE X e (tC (kV k))) (hv : PE X v (TE' X.K ix f)) (hr : DPs X ix ks vs r) : DPs X ix (some e :: ks) (v :: vs) ((k, f) :: r)
def trsOf (K : PySem.W.Frag) (ix : List Nat) : List (Key × M) → List (TE × TE)
  | [] => []
  | (k, f) :: r => (tC (kV k), TE' K ix (frM f)) :: trsOf K ix r
theorem DPs.pps {X : Cx} {ix : List Nat} {pos : Pos} : ∀ {ks : List (Option Expr)} {vs : List Expr} {r : List (Key × M)}, DPs X ix ks vs r → PPs X pos ks vs (trsOf X.K ix r)
  | _, _, _, .nil => pps_nil
  | _, _, _, .cons hk hv hr => pps_cons hk (de_fr hv) hr.pps
/-- the pairs that were made -/
inductive KVr (K : PySem.W.Frag) (G : Hp) : List (Key × V) → List (Key × Dv) → Prop
  | nil : KVr K G [] []
  | cons {k : Key} {v : V} {d : Dv} {r : List (Key × V)} {s : List (Key × Dv)} : Dp K G v d → KVr K G r s → KVr K G ((k, v) :: r) ((k, d) :: s)
theorem kvr_merge {K : PySem.W.Frag} {G : Hp} : ∀ {r : List (Key × V)} {s : List (Key × Dv)} {ks : List (Key × V)} {kvs : List (Dv × Dv)}, KVr K G r s → DKV K G ks kvs → DKV K G (mergeK ks r) (mergeD kvs s)
  | _, _, _, _, .nil, h => h
  | _, _, _, _, .cons q t, h => kvr_merge (ks := putK _ _ _) (kvs := putD _ _ _) t (dkv_put q h)
theorem kvr_len {K : PySem.W.Frag} {G : Hp} : ∀ {r : List (Key × V)} {s : List (Key × Dv)}, KVr K G r s → r.length = s.length
  | _, _, .nil => rfl
  | _, _, .cons _ t => by simp [kvr_len t]
theorem prS_len : ∀ {r : List (Key × M)} {ρ ρ' : Rho} {kds : List (Key × Dv)}, prS r ρ = some (kds, ρ') → kds.length = r.length
  | [], _, _, _, h => by cases h; rfl
  | (k, f) :: r, ρ, ρ', kds, h => by
    unfold prS at h
    obtain ⟨⟨r0, ρ0⟩, h0, h⟩ := Option.bind_eq_some_iff.mp h
    simp only at h
    split at h
    · obtain ⟨⟨y, ρ1⟩, h1, h⟩ := Option.bind_eq_some_iff.mp h
      cases h
      simp [prS_len h1]
    · cases h
theorem prS_ok {K : PySem.W.Frag} {ix : List Nat} {FX : Nat → Option V} {Fr : Hp} {σ : L2.St} : ∀ (r : List (Key × M)) {G H : Hp} {ρ ρ' : Rho} {kds : List (Key × Dv)} {Q : List (V × V) → Hp → Prop}, RS K ix Fr FX G ρ σ H → prS r ρ = some (kds, ρ') →
    (∀ kvs G' H', Sub G G' → RS K ix Fr FX G' ρ' σ H' → KVr K G' kvs kds → Q (kvs.map fun kv => (kV kv.1, kv.2)) H') → tPairs (trsOf K ix r) σ H Q
  | [], G, H, ρ, ρ', kds, Q, R, h, k => by
    cases h
    exact k [] G H (Sub.refl _) R .nil
  | (key, f) :: r, G, H, ρ, ρ', kds, Q, R, h, k => by
    unfold prS at h
    obtain ⟨⟨r0, ρ0⟩, h0, h⟩ := Option.bind_eq_some_iff.mp h
    simp only at h
    split at h
    · rename_i d
      obtain ⟨⟨y, ρ1⟩, h1, h⟩ := Option.bind_eq_some_iff.mp h
      cases h
      show TE' K ix (frM f) σ H _
      refine ⟨Fr, FX, G, ρ, _, ρ0, R, h0, fun v G1 H1 s1 R1 v1 => prS_ok r R1 h1 fun kvs G2 H2 s2 R2 q2 => ?_⟩
      exact k ((key, v) :: kvs) G2 H2 (s1.trans s2) R2 (.cons (dp_mono s2 _ _ v1) q2)
    · cases h
theorem RS.updF {K : PySem.W.Frag} {ix : List Nat} {Fr G H : Hp} {FX : Nat → Option V} {ρ : Rho} {σ : L2.St} {p : Addr} {u : HO} (R : RS K ix Fr FX G ρ σ H) (g : G p = none) (f : Fr p = none) (hn : ∀ (i : Nat) (o' : Ob), ρ[i]? = some (.ow o') → σ[i]? ≠ some (some (.ref p))) :
    RS K ix Fr FX G ρ σ (upd H p u) := by
  refine ⟨fun a o e => ?_, fun a o e => ?_, R.gf, R.len, fun i s e => ?_, R.sep, R.fx⟩
  · have ha : a ≠ p := fun z => by subst z; rw [g] at e; cases e
    rw [upd_ne ha]; exact R.gh a o e
  · have ha : a ≠ p := fun z => by subst z; rw [f] at e; cases e
    rw [upd_ne ha]; exact R.fh a o e
  · refine (R.sl i s e).mono (Sub.refl _) fun a o' e1 e2 g1 f1 => ?_
    have ha : a ≠ p := fun z => by
      subst z; subst e2
      exact hn i _ e e1
    rw [upd_ne ha]
    exact ⟨g1, rfl⟩
theorem de_disp {X : Cx} {ix : List Nat} {pos : Pos} {keys : List (Option Expr)} {values : List Expr} {r : List (Key × M)} (h : DPs X ix keys values r) (hall : keys.all (·.isSome) = true := by rfl) (hl : keys.length = values.length := by rfl) (h0 : keys ≠ [] := by decide)
    (h15 : r.length ≤ 15 := by decide) (h15' : keys.length ≤ 15 := by decide) : PE X (.Dict keys values pos) (TE' X.K ix (eDisp r)) := by
  refine pe_imp (pe_disp h.pps hall hl h0 h15') fun σ H Q ⟨Fr, FX, G, ρ, r0, ρ', R, hf, k⟩ => ?_
  unfold eDisp at hf
  obtain ⟨⟨kds, ρ1⟩, h1, hf⟩ := Option.bind_eq_some_iff.mp hf
  cases hf
  intro p hp
  obtain ⟨g, f0⟩ := R.none_of hp
  have R1 := (R.newH (o := .dK []) hp).frame g upd_same (R.notIn hp)
  refine prS_ok r R1 h1 fun kvs G2 H2 s2 R2 q2 => ?_
  have g2 : G2 p = none := R2.gf p (by rw [upd_same]; simp)
  have h2 : H2 p = some (.dK []) := R2.fh p _ upd_same
  have hn : ∀ (i : Nat) (o' : Ob), ρ1[i]? = some (.ow o') → σ[i]? ≠ some (some (.ref p)) := fun i o' e e1 => by
    obtain ⟨a, e2, _, f2, _⟩ := R2.sl i _ e
    rw [e1] at e2
    cases e2
    rw [upd_same] at f2
    cases f2
  refine ⟨h2, kvs, rfl, ?_, ?_⟩
  · rw [kvr_len q2, prS_len h1]; exact h15
  · exact k _ G2 _ s2 ((R2.unframe f0).updF g2 f0 hn) ⟨p, rfl, g2, f0, ⟨_, upd_same, kvr_merge q2 .nil⟩, hn⟩

/-! ### whiles by enough rounds -/
theorem whileS_succ {c : MB} {b : MS} : ∀ (n : Nat) {ρ : Rho} {fl : Fl}, whileS c b n ρ = some fl → whileS c b (n + 1) ρ = some fl
  | 0, ρ, fl, h => by cases h
  | n + 1, ρ, fl, h => by
    unfold whileS at h ⊢
    obtain ⟨⟨k, ρ1⟩, h1, h⟩ := Option.bind_eq_some_iff.mp h
    rw [h1]
    simp only [Option.bind_some] at h ⊢
    split at h
    · rename_i hk
      rw [if_pos hk]
      obtain ⟨f2, h2, h⟩ := Option.bind_eq_some_iff.mp h
      rw [h2]
      simp only [Option.bind_some]
      cases f2 with
      | nx ρ2 => exact whileS_succ n h
      | ct ρ2 => exact whileS_succ n h
      | bk ρ2 => exact h
      | rt r ρ2 => exact h
    · rename_i hk
      rw [if_neg hk]
      exact h
theorem whileS_le {c : MB} {b : MS} {n m : Nat} (h : n ≤ m) {ρ : Rho} {fl : Fl} (e : whileS c b n ρ = some fl) : whileS c b m ρ = some fl := by
  induction h with
  | refl => exact e
  | step _ ih => exact whileS_succ _ ih

/-! ### defs by name -/
structure Dn (K : PySem.W.Frag) (mg : Str → Option Value) (x : Str) (st : Stmt) (ps : List Str) : Prop where
  ex : ∃ f fd, FunD K x x (defArgs st) (defBody st) (defScope st) [] [] f fd ∧ mg x = some (.ref f) ∧ Binds K fd ps []
structure Has (P : Program) (w : World) (K : PySem.W.Frag) (mg : Str → Option Value) (base : Heap) (k : Nat) (x : Str) (ps : List Str) (F : FnS) : Prop where
  ex : ∃ f fd, FnOk P w K mg base CX0 k f fd ps (spD K ps.length F) ∧ mg x = some (.ref f) ∧ PySem.W.keepIn K (.ref f) = true ∧ Binds K fd ps []
section
variable {P : Program} {w : World} {K : PySem.W.Frag} {mg : Str → Option Value} {base : Heap}
theorem fun_ofD {x : Str} {st : Stmt} {f : Addr} {fd : FuncData} (F : FunD K x x (defArgs st) (defBody st) (defScope st) [] [] f fd) : Fun K x x st f fd := by
  obtain ⟨oc, od, dV, kV, doc, pm, an, cdv, ct, osl, e, l, c, hd, _⟩ := F.ex
  rcases hd with ⟨_, e2⟩ | ⟨e2, _⟩
  · subst e2
    exact ⟨⟨oc, od, kV, doc, pm, an, cdv, ct, osl, e, l, c⟩, F.kp⟩
  · exact absurd rfl e2
theorem fn_has {x : Str} {st : Stmt} {N ps : List Str} {k : Nat} (D : Dn K mg x st ps) (S : FnScope N ps (defScope st)) (ix : List Nat) (g : MS)
    (hb : ∀ (cdv : Value) (A : Around) (outer : List Env) (s : Shared) (H : Hp) (E : XK) (fA : Addr), Room k (A.deeper (envOfC x (defScope st) s.heap.objs.size fA cdv)) →
      PSs (cxOf CX0 P w K mg base N x (defScope st) fA cdv A outer s H E).nox (defBody st) (TS' K ix g)) (hN : ps.length ≤ N.length := by decide) : Has P w K mg base (k + 1) x ps (runF ps.length N.length ix g) := by
  obtain ⟨f, fd, F, hm, hB⟩ := D.ex
  exact ⟨f, fd, fn_d (fun_ofD F) S ix g hN fun cdv A outer s H E hr => hb cdv A outer s H E f hr, hm, F.kp, hB⟩
theorem dn_mk {x : Str} {st : Stmt} {ps : List Str} {f : Addr} {fd : FuncData} (F : FunD K x x (defArgs st) (defBody st) (defScope st) [] [] f fd) (hm : mg x = some (.ref f))
    (hb : ∀ (kV doc pm : Value) (an : Option Addr) (cdv ct : Value) (us : List Value), us.length = ps.length → bindArgs (PySem.W.fnOf x x (defArgs st) (defBody st) (defScope st) Value.none kV doc pm an cdv ct) { pos := us } = pure (ps.zip us)) : Dn K mg x st ps :=
  ⟨⟨f, fd, F, hm, F.bindsN hb⟩⟩
end
section
variable {X : Cx} {ix : List Nat} {e : Expr} {es : List Expr} {ga : MA} {pos p : Pos}
theorem de_call {k k' : Nat} {ps : List Str} {x : Str} {F : FnS} (G : Has X.prog X.w X.K X.mg X.base k x ps F) (hr : Room k' X.A) (hk : k ≤ k') (hg : Gl X x)
    (ha : PA X (e :: es) (TA' X.K ix ga)) (hnp : ∀ ρ rs ρ', ga ρ = some (rs, ρ') → rs.length = ps.length) (hdb : (x == ("__debug__" : Str)) = false := by decide)
    (hs : starEach (e :: es) X.env = (false, eval e X.env) :: starEach es X.env := by rfl) (hs2 : ((backTo pos (starEach es X.env)).any fun x => x.fst) = false := by rfl) : PE X (.Call (.Name x p) (e :: es) [] pos) (TE' X.K ix (eFn F ga)) := by
  obtain ⟨f, fd, G, hm, hk2, hb⟩ := G.ex
  exact de_fn G (hr.mono hk) hg hm hk2 hb ha hnp hdb hs hs2
theorem de_call0 {k k' : Nat} {x : Str} {F : FnS} (G : Has X.prog X.w X.K X.mg X.base k x [] F) (hr : Room k' X.A) (hk : k ≤ k') (hg : Gl X x) (hdb : (x == ("__debug__" : Str)) = false := by decide) : PE X (.Call (.Name x p) [] [] pos) (TE' X.K ix (eFn F aNil)) := by
  obtain ⟨f, fd, G, hm, hk2, hb⟩ := G.ex
  exact de_fn0 G (hr.mono hk) hg hm hk2 hb hdb
end
end DL

set_option Elab.async false
set_option linter.all false
set_option autoImplicit false
set_option maxRecDepth 100000
namespace DL
open PySem PySem.Spec PyProof.Rows L2
theorem u2 {k : Nat} {A : Around} (h : Room k A) : A.units + 1 < cLine := by have := h.un; omega
theorem u65 {k : Nat} {A : Around} (h : Room k A) : A.units + 64 < cLine := by have := h.un; omega
theorem u66 {k : Nat} {A : Around} (h : Room k A) : A.units + 65 < cLine := by have := h.un; omega
theorem u201 {k : Nat} {A : Around} (h : Room k A) : A.units + 200 < cLine := by have := h.un; omega
theorem ds_void {X : Cx} {ix : List Nat} {b : List Stmt} : PSs X b (TS' X.K ix fun _ => none) := ⟨fun pins s σ H D I q => by
  obtain ⟨Fr, FX, G, ρ, fl, R, h, _⟩ := q
  cases h⟩
theorem law_end {K : PySem.W.Frag} {H : Hp} {a : Addr} {ns : List Int} {F : FnS} {E : XK} (hS : SqL K H a (ns.map V.int)) (W : ∃ as', F [.sh (.list (ns.map PyData.int))] = some (.sh (.bool true), as')) :
    spD K 1 F [.ref a] H (fun v x => v = .bl true) E := by
  obtain ⟨as', e⟩ := W
  refine ⟨fun _ => none, H, _, _, as', rfl, ⟨fun _ _ h => h, fun _ _ h => (nomatch h), fun _ n => absurd rfl n, rfl, fun i s h => ?_, fun i j b o o' ne e1 e2 => ?_, fun _ _ h => (nomatch h)⟩, e, fun v G' H' _ _ h => ?_⟩
  · cases i with
    | zero =>
      cases h
      exact ⟨_, rfl, .lst hS (dpAll_ints ns)⟩
    | succ i => simp at h
  · cases i with
    | zero => cases e1
    | succ i => simp at e1
  · have h' : Dp K G' v (.bool true) := h
    cases h'
    rfl
end DL

set_option Elab.async false
set_option linter.all false
set_option autoImplicit false
set_option maxRecDepth 100000
namespace DL
open PySem PySem.Spec PyProof.Rows L2
/-! ### the law's own words: draws, the next, one picked -/
def drawsG : MS :=
    (sSeq (sSet 2 (eLst aNil))
    (sSeq (sSet 3 (eC (.int 7)))
    (sSeq (sFor (iRng rng1 (aCons (eCall lenG (aCons (eVar 0) aNil)) aNil)) (tName 4) (sSeq (sSet 5 (eCall absG (aCons (eCall intG (aCons (binS ixA (eVar 0) (eVar 4)) aNil)) aNil)))
    (sSeq (sSet 3 (binS modD (eCall intG (aCons (binS addD (binS addD (binS mulD (eVar 3) (eC (.int 48271))) (binS modD (eVar 5) (eC (.int 1000003)))) (eVar 4)) aNil)) (eC (.int 65537))))
    (sSeq (sSet 6 (eC (.int 0)))
    (sSeq (sIf (tB (binS (cmpD fun i j => decide (j ≤ i)) (eVar 5) (binS powD (eC (.int 10)) (eC (.int 18))))) (sSet 6 (cpM (eVar 5))) (sSeq (sExpr (mutM "list" appG (eVar 2) (aCons (frM (binS modD (eCall intG (aCons (eVar 5) aNil)) (eC (.int 997)))) aNil)))
    (sExpr (mutM "list" appG (eVar 2) (aCons (frM (binS modD (binS modD (eCall intG (aCons (binS addD (binS mulD (eVar 3) (eC (.int 69621))) (eC (.int 5))) aNil)) (eC (.int 65521))) (eC (.int 997)))) aNil)))))
    (sFor (iRng rng1 (aCons (eC (.int 60)) aNil)) (tName 7) (sIf (tB (binS (cmpD fun i j => decide (j < i)) (eVar 6) (eC (.int 0)))) (sSeq (sExpr (mutM "list" appG (eVar 2) (aCons (frM (binS modD (eCall intG (aCons (eVar 6) aNil)) (eC (.int 997)))) aNil)))
    (sSet 6 (binS divD (eVar 6) (eC (.int 997))))) sNil)))))))
    (sSeq (sFor (iRng rng1 (aCons (eVar 1) aNil)) (tName 4) (sSeq (sSet 3 (binS modD (eCall intG (aCons (binS addD (binS addD (binS mulD (eVar 3) (eC (.int 16807))) (eVar 4)) (eC (.int 1))) aNil)) (eC (.int 65537))))
    (sExpr (mutM "list" appG (eVar 2) (aCons (frM (binS modD (eCall intG (aCons (eVar 3) aNil)) (eC (.int 997)))) aNil)))))
    (sRet [] (eCut (eVar 2) oNo (oInt (eVar 1))))))))
def nextG : MS :=
    (sSeq (sAugS iaddD (eVar 0) (eC (.str ("at" : Str))) (eC (.int 1)))
    (sSeq (sIf (tB (binS (cmpD fun i j => decide (j < i)) (binS ixA (eVar 0) (eC (.str ("at" : Str)))) (eCall lenG (aCons (binS ixA (eVar 0) (eC (.str ("draws" : Str)))) aNil)))) (sRet [0] (eC (.int 0))) sNil)
    (sRet [0] (binS modD (eCall intG (aCons (binS ixA (binS ixA (eVar 0) (eC (.str ("draws" : Str)))) (binS subD (binS ixA (eVar 0) (eC (.str ("at" : Str)))) (eC (.int 1)))) aNil)) (eVar 1)))))
def drawsF : FnS := runF 2 8 [] drawsG
def nextF : FnS := runF 2 2 [0] nextG
def pickG : MS :=
    (sRet [0] (binS ixA (eVar 1) (eFn nextF (aCons (eVar 0) (aCons (frM (eCall lenG (aCons (eVar 1) aNil))) aNil)))))
def pickF : FnS := runF 2 2 [0] pickG
theorem sSeq_nx {g h : MS} {ρ ρ1 : Rho} (e : g ρ = some (.nx ρ1)) : sSeq g h ρ = h ρ1 := by
  unfold sSeq
  rw [e]
  rfl
theorem sSeq_rt {g h : MS} {ρ ρ1 : Rho} {r : Rv} (e : g ρ = some (.rt r ρ1)) : sSeq g h ρ = some (.rt r ρ1) := by
  unfold sSeq
  rw [e]
  rfl
theorem sFor_eq {f : ML} {t : MT} {b : MS} {ρ ρ1 : Rho} {ds : List Dv} (h : f ρ = some (ds, ρ1)) : sFor f t b ρ = forS t b ds ρ1 := by
  unfold sFor
  rw [h]
  rfl
theorem iRng_eq {r : List Dv → Option (List Dv)} {ga : MA} {ρ ρ1 : Rho} {rs : List Rv} {ds es : List Dv} (h : ga ρ = some (rs, ρ1)) (h1 : dats ρ1 rs = some ds) (h2 : r ds = some es) : iRng r ga ρ = some (es, ρ1) := by
  unfold iRng
  rw [h]
  simp only [Option.bind_some]
  rw [h1]
  simp only [Option.bind_some]
  rw [h2]
  rfl
theorem runF_eq {np N : Nat} {ix : List Nat} {g : MS} {as : List Sl} {fl : Fl} {z : Rv × List Sl} (h0 : okA 0 ix as = true) (h : g (as ++ List.replicate (N - np) .no) = some fl) (hz : (match fl with
  | .nx ρ => some (Rv.sh .none, outA 0 ix as ρ)
  | .rt (.sh d) ρ => some (Rv.sh d, outA 0 ix as ρ)
  | .rt (.ow o) ρ => some (Rv.ow o, outA 0 ix as ρ)
  | _ => none) = some z) : runF np N ix g as = some z := by
  unfold runF
  rw [if_pos h0, h]
  cases fl with
  | rt r ρ => cases r <;> exact hz
  | _ => exact hz
theorem forS_inv {t : MT} {b : MS} (I : Nat → Rho → Prop) : ∀ (ds : List Dv) (k : Nat) (ρ : Rho), I k ρ →
    (∀ (j : Nat) (d : Dv) (ρ : Rho), ds[j]? = some d → I (k + j) ρ → ∃ ρ1 ρ2, t d ρ = some ρ1 ∧ (b ρ1 = some (.nx ρ2) ∨ b ρ1 = some (.ct ρ2)) ∧ I (k + j + 1) ρ2) → ∃ ρ', forS t b ds ρ = some (.nx ρ') ∧ I (k + ds.length) ρ'
  | [], k, ρ, h, _ => ⟨ρ, rfl, h⟩
  | d :: ds, k, ρ, h, s => by
    obtain ⟨ρ1, ρ2, e1, e2, h2⟩ := s 0 d ρ rfl h
    obtain ⟨ρ', e3, h3⟩ := forS_inv I ds (k + 1) ρ2 h2 fun j d' ρ0 e i => by
      have := s (j + 1) d' ρ0 e (by rw [show k + (j + 1) = k + 1 + j by omega]; exact i)
      rw [show k + (j + 1) = k + 1 + j by omega] at this
      exact this
    refine ⟨ρ', ?_, ?_⟩
    · unfold forS
      rw [e1]
      simp only [Option.bind_some]
      rcases e2 with e2 | e2 <;> (rw [e2]; exact e3)
    · rw [List.length_cons, show k + (ds.length + 1) = k + 1 + ds.length by omega]
      exact h3
/-- the draws and the place -/
def W1 (ds : List Int) (n : Nat) : Ob := .dct [(.str ("draws" : Str), .list (ds.map .int)), (.str ("at" : Str), .int n)]
theorem key1 : eqKey (.str ("draws" : Str)) (.str ("at" : Str)) = false := by decide +kernel
theorem key2 : eqKey (.str ("at" : Str)) (.str ("at" : Str)) = true := by decide +kernel
theorem key3 : eqKey (.str ("draws" : Str)) (.str ("draws" : Str)) = true := by decide +kernel
theorem key4 : eqKey (.str ("at" : Str)) (.str ("draws" : Str)) = false := by decide +kernel
theorem szl : (2 : Nat) < sizeLine := by decide +kernel
theorem next_s0 (ds : List Int) (n : Nat) (s : Sl) : sAugS iaddD (eVar 0) (eC (.str ("at" : Str))) (eC (.int 1)) [.ow (W1 ds n), s] = some (.nx [.ow (W1 ds (n + 1)), s]) := by
  simp [sAugS, eVar, eC, pkM, dat, isKey, getOb, W1, getD, key1, key2, iaddD, setOb, szl, putD]
theorem atI_map (ds : List Int) (n : Nat) (h : n < ds.length) : atI (ds.map PyData.int) (n : Int) = some (.int ds[n]) := by
  unfold atI
  simp [ixN, h]

theorem szl_big : 100000 ≤ sizeLine := by decide +kernel
theorem next_ok {ds : List Int} {n : Nat} {m : Int} (hm : 0 < m) : ∃ v : Int, 0 ≤ v ∧ v < m ∧ nextF [.ow (W1 ds n), .sh (.int m)] = some (.sh (.int v), [.ow (W1 ds (n + 1)), .sh (.int m)]) := by
  by_cases h : n < ds.length
  · refine ⟨ds[n] % m, Int.emod_nonneg _ (by omega), Int.emod_lt_of_pos _ hm, ?_⟩
    have e0 := next_s0 ds n (.sh (.int m))
    have e1 : ¬ (ds.length : Int) < (n : Int) + 1 := by omega
    have e2 := atI_map ds n h
    unfold nextF runF
    simp only [okA, List.contains, List.elem, nextG, sSeq, List.cons_append, List.nil_append, List.length_nil, List.replicate, Nat.sub_self, e0, Option.bind_some, ite_true, beq_self_eq_true, Bool.true_and, Bool.and_true]
    simp [sIf, tB, binS, pkM, eVar, eC, dat, eCall, aCons, aNil, dats, lenG, ixA, plD, isKey, W1, obD, getD, key1, key2, key3, cmpD, Rz.rv, e1, sNil, sRet, subD, intG, ixD, e2, modD, hm, outA]
  · refine ⟨0, by omega, by omega, ?_⟩
    have e0 := next_s0 ds n (.sh (.int m))
    have e1 : (ds.length : Int) < (n : Int) + 1 := by omega
    unfold nextF runF
    simp only [okA, List.contains, List.elem, nextG, sSeq, List.cons_append, List.nil_append, List.length_nil, List.replicate, Nat.sub_self, e0, Option.bind_some, ite_true, beq_self_eq_true, Bool.true_and, Bool.and_true]
    simp [sIf, tB, binS, pkM, eVar, eC, dat, eCall, aCons, aNil, dats, lenG, ixA, plD, isKey, W1, obD, getD, key1, key2, key3, cmpD, Rz.rv, e1, sNil, sRet, outA]
theorem pick_ok {ds : List Int} {n : Nat} {xs : List Dv} (hx : xs ≠ []) : ∃ v, v ∈ xs ∧ pickF [.ow (W1 ds n), .sh (.list xs)] = some (.sh v, [.ow (W1 ds (n + 1)), .sh (.list xs)]) := by
  have hl : 0 < xs.length := List.length_pos_iff.mpr hx
  obtain ⟨v, h0, h1, e⟩ := next_ok (ds := ds) (n := n) (m := xs.length) (by omega)
  obtain ⟨j, rfl⟩ := Int.eq_ofNat_of_zero_le h0
  have hj : j < xs.length := by omega
  refine ⟨xs[j], List.getElem_mem _, ?_⟩
  have e2 : atI xs (j : Int) = some xs[j] := atI_nat (List.getElem?_eq_getElem hj)
  unfold pickF runF
  simp [okA, pickG, sRet, binS, pkM, eVar, eFn, aCons, aNil, frM, eCall, dats, dat, lenG, Rz.rv, toSls, toSl, alsOk, als, e, wback, ixA, plD, ixD, e2, outA]
theorem mul_big {i : Int} {j : Int} (h : -(2 ^ 64) < j ∧ j < 2 ^ 64) : mulD (.int i) (.int j) = some (.sh (.int (i * j))) := by
  unfold mulD
  simp only
  rw [if_pos (.inr h)]
theorem range1_eval {n : Nat} (h : n < 2 ^ 62) : rng1 [.int (n : Int)] = some (rangeD 0 n) := by
  unfold rng1
  have : bnd62 (n : Int) = true := by unfold bnd62; exact decide_eq_true ⟨by omega, by omega⟩
  simp [this]
theorem rangeD_len (lo : Int) (n : Nat) : (rangeD lo n).length = n := by simp [rangeD]
def inG : MS := sIf (tB (binS (cmpD fun i j => decide (j < i)) (eVar 6) (eC (.int 0)))) (sSeq (sExpr (mutM "list" appG (eVar 2) (aCons (frM (binS modD (eCall intG (aCons (eVar 6) aNil)) (eC (.int 997)))) aNil)))
    (sSet 6 (binS divD (eVar 6) (eC (.int 997))))) sNil
theorem inG_ok (S s1 s3 s4 s5 : Sl) (L : Nat) (hL : L + 60 ≤ 10000) (xs : List Int) (hx : xs.length ≤ L) (r : Int) (s7 : Sl) :
    ∃ ρ', sFor (iRng rng1 (aCons (eC (.int 60)) aNil)) (tName 7) inG [S, s1, .ow (.lst (xs.map .int)), s3, s4, s5, .sh (.int r), s7] = some (.nx ρ') ∧
      ∃ (ys : List Int) (r' : Int) (s7' : Sl), ρ' = [S, s1, .ow (.lst (ys.map .int)), s3, s4, s5, .sh (.int r'), s7'] ∧ ys.length ≤ L + 60 := by
  have e : rng1 [.int 60] = some (rangeD 0 60) := range1_eval (n := 60) (by decide)
  have := forS_inv (t := tName 7) (b := inG) (fun k ρ => ∃ (ys : List Int) (r' : Int) (s7' : Sl), ρ = [S, s1, .ow (.lst (ys.map .int)), s3, s4, s5, .sh (.int r'), s7'] ∧ ys.length ≤ L + k) (rangeD 0 60) 0 _ ⟨xs, r, s7, rfl, hx⟩ fun j d ρ hd hI => by
    obtain ⟨hj, rfl⟩ := rangeD_get hd
    obtain ⟨ys, r', s7', rfl, hl⟩ := hI
    have hz : ys.length < sizeLine := by have := szl_big; omega
    by_cases hr : 0 < r'
    · refine ⟨_, _, rfl, .inl ?_, ys ++ [r' % 997], r' / 997, .sh (.int (0 + j)), rfl, by simp; omega⟩
      simp [inG, sIf, tB, binS, pkM, eVar, eC, dat, cmpD, Rz.rv, hr, sSeq, sExpr, mutM, isOb, obT, isDtn, aCons, aNil, frM, eCall, dats, intG, modD, shs, appG, hz, sSet, divD]
    · refine ⟨_, _, rfl, .inl ?_, ys, r', .sh (.int (0 + j)), rfl, by omega⟩
      simp [inG, sIf, tB, binS, pkM, eVar, eC, dat, cmpD, Rz.rv, hr, sNil]
  obtain ⟨ρ', e1, h1⟩ := this
  refine ⟨ρ', ?_, ?_⟩
  · unfold sFor iRng
    simp [aCons, aNil, eC, dats, dat, e, e1]
  · rw [rangeD_len] at h1
    simpa using h1
theorem pow18 : powD (.int 10) (.int 18) = some (.sh (.int 1000000000000000000)) := rfl
def outG : MS := (sSeq (sSet 5 (eCall absG (aCons (eCall intG (aCons (binS ixA (eVar 0) (eVar 4)) aNil)) aNil)))
    (sSeq (sSet 3 (binS modD (eCall intG (aCons (binS addD (binS addD (binS mulD (eVar 3) (eC (.int 48271))) (binS modD (eVar 5) (eC (.int 1000003)))) (eVar 4)) aNil)) (eC (.int 65537))))
    (sSeq (sSet 6 (eC (.int 0)))
    (sSeq (sIf (tB (binS (cmpD fun i j => decide (j ≤ i)) (eVar 5) (binS powD (eC (.int 10)) (eC (.int 18))))) (sSet 6 (cpM (eVar 5))) (sSeq (sExpr (mutM "list" appG (eVar 2) (aCons (frM (binS modD (eCall intG (aCons (eVar 5) aNil)) (eC (.int 997)))) aNil)))
    (sExpr (mutM "list" appG (eVar 2) (aCons (frM (binS modD (binS modD (eCall intG (aCons (binS addD (binS mulD (eVar 3) (eC (.int 69621))) (eC (.int 5))) aNil)) (eC (.int 65521))) (eC (.int 997)))) aNil)))))
    (sFor (iRng rng1 (aCons (eC (.int 60)) aNil)) (tName 7) inG)))))
def lastG : MS := (sSeq (sSet 3 (binS modD (eCall intG (aCons (binS addD (binS addD (binS mulD (eVar 3) (eC (.int 16807))) (eVar 4)) (eC (.int 1))) aNil)) (eC (.int 65537))))
    (sExpr (mutM "list" appG (eVar 2) (aCons (frM (binS modD (eCall intG (aCons (eVar 3) aNil)) (eC (.int 997)))) aNil))))
theorem drawsG_eq : drawsG = (sSeq (sSet 2 (eLst aNil)) (sSeq (sSet 3 (eC (.int 7))) (sSeq (sFor (iRng rng1 (aCons (eCall lenG (aCons (eVar 0) aNil)) aNil)) (tName 4) outG)
    (sSeq (sFor (iRng rng1 (aCons (eVar 1) aNil)) (tName 4) lastG) (sRet [] (eCut (eVar 2) oNo (oInt (eVar 1)))))))) := rfl
theorem mulA (i : Int) : mulD (.int i) (.int 48271) = some (.sh (.int (i * 48271))) := mul_big (by decide)
theorem mulB (i : Int) : mulD (.int i) (.int 69621) = some (.sh (.int (i * 69621))) := mul_big (by decide)
theorem mulC (i : Int) : mulD (.int i) (.int 16807) = some (.sh (.int (i * 16807))) := mul_big (by decide)
theorem outG_ok (ns : List Int) (j : Nat) (hj : j < ns.length) (ys : List Int) (hy : ys.length ≤ 64 * j) (hn : ns.length ≤ 63) (mx : Int) (s1 s5 s6 s7 : Sl) :
    ∃ (zs : List Int) (mx' : Int) (t5 t6 t7 : Sl), outG [.sh (.list (ns.map .int)), s1, .ow (.lst (ys.map .int)), .sh (.int mx), .sh (.int (0 + (j : Int))), s5, s6, s7] =
      some (.nx [.sh (.list (ns.map .int)), s1, .ow (.lst (zs.map .int)), .sh (.int mx'), .sh (.int (0 + (j : Int))), t5, t6, t7]) ∧ zs.length ≤ 64 * (j + 1) := by
  have e2 := atI_map ns j hj
  have hz : ys.length < sizeLine := by have := szl_big; omega
  have hz2 : ys.length + 1 < sizeLine := by have := szl_big; omega
  generalize hc : (if ns[j] < 0 then -ns[j] else ns[j]) = c
  by_cases hr : (1000000000000000000 : Int) ≤ c
  · obtain ⟨ρ', e, zs, r', s7', rfl, hl⟩ := inG_ok (.sh (.list (ns.map .int))) (s1) (.sh (.int ((mx * 48271 + c % 1000003 + (0 + (j : Int))) % 65537))) (.sh (.int (0 + (j : Int)))) (.sh (.int c)) (64 * j) (by omega) ys hy c s7
    refine ⟨zs, (mx * 48271 + c % 1000003 + (0 + (j : Int))) % 65537, .sh (.int c), .sh (.int r'), s7', ?_, by omega⟩
    unfold outG
    simp [sSeq, sSet, eCall, aCons, aNil, binS, pkM, eVar, dats, dat, ixA, plD, ixD, e2, intG, absG, hc, Rz.rv, eC, mulA, modD, addD, sIf, tB, cmpD, pow18, hr, cpM]
    simpa using e
  · obtain ⟨ρ', e, zs, r', s7', rfl, hl⟩ := inG_ok (.sh (.list (ns.map .int))) (s1) (.sh (.int ((mx * 48271 + c % 1000003 + (0 + (j : Int))) % 65537))) (.sh (.int (0 + (j : Int)))) (.sh (.int c)) (64 * j + 2) (by omega) (ys ++ [c % 997, ((mx * 48271 + c % 1000003 + (0 + (j : Int))) % 65537 * 69621 + 5) % 65521 % 997]) (by simp; omega) 0 s7
    refine ⟨zs, (mx * 48271 + c % 1000003 + (0 + (j : Int))) % 65537, .sh (.int c), .sh (.int r'), s7', ?_, by omega⟩
    unfold outG
    simp [sSeq, sSet, eCall, aCons, aNil, binS, pkM, eVar, dats, dat, ixA, plD, ixD, e2, intG, absG, hc, Rz.rv, eC, mulA, mulB, modD, addD, sIf, tB, cmpD, pow18, hr, cpM, sExpr, mutM, isOb, obT, isDtn, frM, shs, appG, hz, hz2]
    simpa using e
theorem draws_ok (ns : List Int) (hn : ns.length ≤ 63) (m : Nat) (hm : m ≤ 1000) : ∃ ds : List Int, ds.length = m ∧ drawsF [.sh (.list (ns.map .int)), .sh (.int (m : Int))] = some (.ow (.lst (ds.map .int)), [.sh (.list (ns.map .int)), .sh (.int (m : Int))]) := by
  obtain ⟨ρ1, e1, ys, mx, s4, s5, s6, s7, rfl, hy⟩ := forS_inv (t := tName 4) (b := outG) (fun k ρ => ∃ (ys : List Int) (mx : Int) (s4 s5 s6 s7 : Sl), ρ = [.sh (.list (ns.map .int)), .sh (.int (m : Int)), .ow (.lst (ys.map .int)), .sh (.int mx), s4, s5, s6, s7] ∧ ys.length ≤ 64 * k)
    (rangeD 0 ns.length) 0 [.sh (.list (ns.map .int)), .sh (.int (m : Int)), .ow (.lst []), .sh (.int 7), .no, .no, .no, .no] ⟨[], 7, .no, .no, .no, .no, rfl, by simp⟩ fun j d ρ hd hI => by
      obtain ⟨hj, rfl⟩ := rangeD_get hd
      obtain ⟨ys, mx, s4, s5, s6, s7, rfl, hy⟩ := hI
      obtain ⟨zs, mx', t5, t6, t7, e, hz⟩ := outG_ok ns j hj ys (by simpa using hy) hn mx (.sh (.int (m : Int))) s5 s6 s7
      exact ⟨_, _, rfl, .inl e, zs, mx', _, t5, t6, t7, rfl, by simpa using hz⟩
  rw [rangeD_len] at hy
  obtain ⟨ρ2, e2, zs, mx2, t4, t5, t6, t7, rfl, hz⟩ := forS_inv (t := tName 4) (b := lastG) (fun k ρ => ∃ (zs : List Int) (mx : Int) (s4 s5 s6 s7 : Sl), ρ = [.sh (.list (ns.map .int)), .sh (.int (m : Int)), .ow (.lst (zs.map .int)), .sh (.int mx), s4, s5, s6, s7] ∧ zs.length = ys.length + k)
    (rangeD 0 m) 0 _ ⟨ys, mx, s4, s5, s6, s7, rfl, rfl⟩ fun j d ρ hd hI => by
      obtain ⟨hj, rfl⟩ := rangeD_get hd
      obtain ⟨zs, mx, s4, s5, s6, s7, rfl, hz⟩ := hI
      have hz2 : zs.length < sizeLine := by have := szl_big; omega
      refine ⟨_, _, rfl, .inl ?_, zs ++ [(mx * 16807 + (0 + (j : Int)) + 1) % 65537 % 997], (mx * 16807 + (0 + (j : Int)) + 1) % 65537, .sh (.int (0 + (j : Int))), s5, s6, s7, rfl, by simp; omega⟩
      simp [lastG, sSeq, sSet, eCall, aCons, aNil, binS, pkM, eVar, dats, dat, intG, Rz.rv, eC, mulC, modD, addD, sExpr, mutM, isOb, obT, isDtn, frM, shs, appG, hz2]
  rw [rangeD_len] at hz
  have r1 : rng1 [.int (ns.length : Int)] = some (rangeD 0 ns.length) := range1_eval (by omega)
  have r2 : rng1 [.int (m : Int)] = some (rangeD 0 m) := range1_eval (by omega)
  have c1 : cutD (zs.map PyData.int) none (some (m : Int)) = (zs.take m).map .int := by
    unfold cutD
    rw [show HT.sIx (zs.map PyData.int).length (zs.map PyData.int).length (some (m : Int)) = min m (zs.map PyData.int).length from HT.sIx_nat _ _ m]
    rw [show HT.sIx (zs.map PyData.int).length 0 none = 0 from rfl, List.drop_zero, Nat.sub_zero, List.length_map, Nat.min_eq_left (by omega), List.map_take]
  have hl : (zs.take m).length = m := by rw [List.length_take]; omega
  generalize zs.take m = us at c1 hl
  have a1 : sSet 2 (eLst aNil) [.sh (.list (ns.map .int)), .sh (.int (m : Int)), .no, .no, .no, .no, .no, .no] = some (.nx [.sh (.list (ns.map .int)), .sh (.int (m : Int)), .ow (.lst []), .no, .no, .no, .no, .no]) := by simp [sSet, eLst, aNil, shs]
  have a2 : sSet 3 (eC (.int 7)) [.sh (.list (ns.map .int)), .sh (.int (m : Int)), .ow (.lst []), .no, .no, .no, .no, .no] = some (.nx [.sh (.list (ns.map .int)), .sh (.int (m : Int)), .ow (.lst []), .sh (.int 7), .no, .no, .no, .no]) := by simp [sSet, eC]
  have a3 : sFor (iRng rng1 (aCons (eCall lenG (aCons (eVar 0) aNil)) aNil)) (tName 4) outG [.sh (.list (ns.map .int)), .sh (.int (m : Int)), .ow (.lst []), .sh (.int 7), .no, .no, .no, .no] = _ := (sFor_eq (ds := rangeD 0 ns.length) (ρ1 := [.sh (.list (ns.map .int)), .sh (.int (m : Int)), .ow (.lst []), .sh (.int 7), .no, .no, .no, .no]) (iRng_eq (rs := [.sh (.int (ns.length : Int))]) (by simp [aCons, aNil, eCall, eVar, dats, dat, lenG, Rz.rv]) rfl r1)).trans e1
  have a4 : sFor (iRng rng1 (aCons (eVar 1) aNil)) (tName 4) lastG [.sh (.list (ns.map .int)), .sh (.int (m : Int)), .ow (.lst (ys.map .int)), .sh (.int mx), s4, s5, s6, s7] = _ := (sFor_eq (ds := rangeD 0 m) (ρ1 := [.sh (.list (ns.map .int)), .sh (.int (m : Int)), .ow (.lst (ys.map .int)), .sh (.int mx), s4, s5, s6, s7]) (iRng_eq (rs := [.sh (.int (m : Int))]) (by simp [aCons, aNil, eVar]) rfl r2)).trans e2
  have a5 : sRet [] (eCut (eVar 2) oNo (oInt (eVar 1))) [.sh (.list (ns.map .int)), .sh (.int (m : Int)), .ow (.lst (zs.map .int)), .sh (.int mx2), t4, t5, t6, t7] = some (.rt (.ow (.lst (us.map .int))) [.sh (.list (ns.map .int)), .sh (.int (m : Int)), .ow (.lst (zs.map .int)), .sh (.int mx2), t4, t5, t6, t7]) := by
    simp [sRet, eCut, pkM, eVar, oNo, oInt, dat, obD, cutG, c1, Rz.rv]
  refine ⟨us, hl, ?_⟩
  have a6 : drawsG [.sh (.list (ns.map .int)), .sh (.int (m : Int)), .no, .no, .no, .no, .no, .no] = some (.rt (.ow (.lst (us.map .int))) [.sh (.list (ns.map .int)), .sh (.int (m : Int)), .ow (.lst (zs.map .int)), .sh (.int mx2), t4, t5, t6, t7]) := by
    rw [drawsG_eq, sSeq_nx a1, sSeq_nx a2, sSeq_nx a3, sSeq_nx a4, a5]
  exact runF_eq rfl a6 rfl
end DL

set_option Elab.async false
set_option linter.all false
set_option autoImplicit false
set_option maxRecDepth 100000
namespace DL
open PySem PySem.Spec PyProof.Rows L2
/-! ### one step each -/
theorem sIf_t {t : MB} {g h : MS} {ρ ρ1 : Rho} (e : t ρ = some (true, ρ1)) : sIf t g h ρ = g ρ1 := by
  unfold sIf
  rw [e]
  rfl
theorem sIf_f {t : MB} {g h : MS} {ρ ρ1 : Rho} (e : t ρ = some (false, ρ1)) : sIf t g h ρ = h ρ1 := by
  unfold sIf
  rw [e]
  rfl
theorem pk_sh {f : M} {ρ ρ1 : Rho} {d : Dv} (e : f ρ = some (.sh d, ρ1)) : pkM f ρ = some (.sh d, ρ1) := by
  unfold pkM
  rw [e]
  rfl
theorem pk_ow {f : M} {ρ ρ1 : Rho} {ds : List Dv} (e : f ρ = some (.ow (.lst ds), ρ1)) : pkM f ρ = some (.sh (.list ds), ρ1) := by
  unfold pkM
  rw [e]
  rfl
theorem fr_sh {f : M} {ρ ρ1 : Rho} {d : Dv} (e : f ρ = some (.sh d, ρ1)) : frM f ρ = some (.sh d, ρ1) := by
  unfold frM
  rw [e]
  rfl
theorem fr_ow {f : M} {ρ ρ1 : Rho} {ds : List Dv} (e : f ρ = some (.ow (.lst ds), ρ1)) : frM f ρ = some (.sh (.list ds), ρ1) := by
  unfold frM
  rw [e]
  rfl
theorem bin_sh {g : Dv → Dv → Option Rz} {fa fb : M} {ρ ρ1 ρ2 : Rho} {d e : Dv} {z : Rz} (h1 : pkM fa ρ = some (.sh d, ρ1)) (h2 : pkM fb ρ1 = some (.sh e, ρ2)) (h3 : g d e = some z) : binS g fa fb ρ = some (z.rv, ρ2) := by
  unfold binS
  rw [h1]
  simp only [Option.bind_some]
  rw [h2]
  simp only [Option.bind_some, dat]
  rw [h3]
  rfl
theorem sSet_sh {i : Nat} {f : M} {ρ ρ1 : Rho} {d : Dv} (e : f ρ = some (.sh d, ρ1)) : sSet i f ρ = some (.nx (ρ1.set i (.sh d))) := by
  unfold sSet
  rw [e]
  rfl
theorem sSet_ow {i : Nat} {f : M} {ρ ρ1 : Rho} {o : Ob} (e : f ρ = some (.ow o, ρ1)) : sSet i f ρ = some (.nx (ρ1.set i (.ow o))) := by
  unfold sSet
  rw [e]
  rfl
theorem sRet_sh {ix : List Nat} {f : M} {ρ ρ1 : Rho} {d : Dv} (e : f ρ = some (.sh d, ρ1)) : sRet ix f ρ = some (.rt (.sh d) ρ1) := by
  unfold sRet
  rw [e]
  rfl
theorem sRet_ow {ix : List Nat} {f : M} {ρ ρ1 : Rho} {o : Ob} (e : f ρ = some (.ow o, ρ1)) : sRet ix f ρ = some (.rt (.ow o) ρ1) := by
  unfold sRet
  rw [e]
  rfl
theorem aCons_eq {f : M} {g : MA} {ρ ρ1 ρ2 : Rho} {r : Rv} {rs : List Rv} (e : f ρ = some (r, ρ1)) (h : g ρ1 = some (rs, ρ2)) : aCons f g ρ = some (r :: rs, ρ2) := by
  unfold aCons
  rw [e]
  simp only [Option.bind_some]
  rw [h]
  rfl
theorem eCall_sh {g : List Dv → Option Rz} {fa : MA} {ρ ρ1 : Rho} {rs : List Rv} {ds : List Dv} {z : Rz} (h1 : fa ρ = some (rs, ρ1)) (h2 : dats ρ1 rs = some ds) (h3 : g ds = some z) : eCall g fa ρ = some (z.rv, ρ1) := by
  unfold eCall
  rw [h1]
  simp only [Option.bind_some]
  rw [h2]
  simp only [Option.bind_some]
  rw [h3]
  rfl
theorem toSls_sh (ρ : Rho) : ∀ ds : List Dv, toSls ρ (ds.map .sh) = some (ds.map .sh)
  | [] => rfl
  | d :: ds => by
    show (toSl ρ (.sh d)).bind _ = _
    simp only [toSl, Option.bind_some, toSls_sh ρ ds]
    rfl
theorem als_sh : ∀ ds : List Dv, als (ds.map .sh) = []
  | [] => rfl
  | d :: ds => by simpa [als] using als_sh ds
theorem wback_sh (ρ : Rho) : ∀ (ds : List Dv) (ss : List Sl), wback ρ (ds.map .sh) ss = ρ
  | [], _ => by simp [wback]
  | d :: ds, [] => by simp [wback]
  | d :: ds, s :: ss => by simpa [wback] using wback_sh ρ ds ss
theorem eFn_sh {F : FnS} {ga : MA} {ρ ρ1 : Rho} {as : List Dv} {d : Dv} {bs : List Sl} (h1 : ga ρ = some (as.map .sh, ρ1)) (h2 : F (as.map .sh) = some (.sh d, bs)) : eFn F ga ρ = some (.sh d, ρ1) := by
  unfold eFn
  rw [h1]
  simp only [Option.bind_some, toSls_sh]
  rw [if_pos (by unfold alsOk; rw [als_sh]; rfl), h2]
  simp only [Option.bind_some, wback_sh]
theorem eFn_ow {F : FnS} {ga : MA} {ρ ρ1 : Rho} {as : List Dv} {o : Ob} {bs : List Sl} (h1 : ga ρ = some (as.map .sh, ρ1)) (h2 : F (as.map .sh) = some (.ow o, bs)) : eFn F ga ρ = some (.ow o, ρ1) := by
  unfold eFn
  rw [h1]
  simp only [Option.bind_some, toSls_sh]
  rw [if_pos (by unfold alsOk; rw [als_sh]; rfl), h2]
  simp only [Option.bind_some, wback_sh]
/-! ### list comprehensions with one name -/
theorem lcS1 {i : Nat} {c : MB} {fe : M} {ρ0 : Rho} (b : Dv → Bool) (e : Dv → Dv) : ∀ (ds acc : List Dv) (s : Sl), (∀ d ∈ ds, c (ρ0.set i (.sh d)) = some (b d, ρ0.set i (.sh d))) → (∀ d ∈ ds, b d = true → frM fe (ρ0.set i (.sh d)) = some (.sh (e d), ρ0.set i (.sh d))) →
    acc.length + ds.length ≤ sizeLine → ∃ s', lcS [i] (tName i) c fe ds acc (ρ0.set i s) = some (acc ++ (ds.filter b).map e, ρ0.set i s')
  | [], acc, s, _, _, _ => ⟨s, by simp [lcS]⟩
  | d :: ds, acc, s, hc, he, hl => by
    have h1 := hc d (List.mem_cons_self ..)
    have h2 := he d (List.mem_cons_self ..)
    rw [List.length_cons] at hl
    unfold lcS
    simp only [tName, wipeR, List.set_set, Option.bind_some, h1]
    cases hb : b d with
    | true =>
      rw [if_pos rfl, h2 hb]
      simp only [Option.bind_some]
      rw [if_pos (by omega)]
      obtain ⟨s', e'⟩ := lcS1 b e ds (acc ++ [e d]) (.sh d) (fun x hx => hc x (List.mem_cons_of_mem _ hx)) (fun x hx => he x (List.mem_cons_of_mem _ hx)) (by simp; omega)
      exact ⟨s', by rw [e', List.filter_cons_of_pos hb]; simp⟩
    | false =>
      rw [if_neg (by decide)]
      obtain ⟨s', e'⟩ := lcS1 b e ds acc (.sh d) (fun x hx => hc x (List.mem_cons_of_mem _ hx)) (fun x hx => he x (List.mem_cons_of_mem _ hx)) (by omega)
      exact ⟨s', by rw [e', List.filter_cons_of_neg (by simp [hb])]⟩
theorem set_back {α : Type} (l : List α) (i : Nat) (s s0 : α) (h : l[i]? = some s0) : (l.set i s).set i s0 = l := by
  rw [List.set_set]
  apply List.ext_getElem?
  intro j
  by_cases hj : i = j
  · subst hj
    rw [List.getElem?_set_self (List.getElem?_eq_some_iff.mp h).1, h]
  · rw [List.getElem?_set_ne hj]
theorem eLc1 {i : Nat} {fi : ML} {c : MB} {fe : M} {ρ : Rho} {s0 : Sl} {ds : List Dv} (b : Dv → Bool) (e : Dv → Dv) (hfi : fi ρ = some (ds, ρ)) (h0 : ρ[i]? = some s0) (hs : ∀ o, s0 ≠ .ow o) (hl : ds.length ≤ sizeLine)
    (hc : ∀ d ∈ ds, c (ρ.set i (.sh d)) = some (b d, ρ.set i (.sh d))) (he : ∀ d ∈ ds, b d = true → frM fe (ρ.set i (.sh d)) = some (.sh (e d), ρ.set i (.sh d))) :
    eLc [i] fi (tName i) c fe ρ = some (.ow (.lst ((ds.filter b).map e)), ρ) := by
  obtain ⟨s', h1⟩ := lcS1 b e ds [] s0 hc he (by simpa using hl)
  rw [show ρ.set i s0 = ρ from by
    have := set_back ρ i s0 s0 h0
    rwa [List.set_set] at this] at h1
  have hn : noOw ρ [i] = true := by
    unfold noOw
    cases s0 with
    | no => simp [h0]
    | sh d => simp [h0]
    | ow o => exact absurd rfl (hs o)
  unfold eLc
  rw [hfi]
  simp only [Option.bind_some]
  rw [if_pos hn, h1]
  simp only [Option.bind_some, putB, h0, List.nil_append]
  rw [set_back ρ i s' s0 h0]
/-! ### closed answers -/
mutual
def eqDv : Dv → Dv → Bool
  | .none, .none => true
  | .bool a, .bool b => a == b
  | .int a, .int b => decide (a = b)
  | .tuple xs, .tuple ys => eqDvs xs ys
  | .list xs, .list ys => eqDvs xs ys
  | _, _ => false
def eqDvs : List Dv → List Dv → Bool
  | [], [] => true
  | x :: xs, y :: ys => eqDv x y && eqDvs xs ys
  | _, _ => false
end
mutual
theorem eqDv_ok : ∀ (d e : Dv), eqDv d e = true → d = e
  | .none, e, h => by cases e <;> simp_all [eqDv]
  | .bool a, e, h => by cases e <;> simp_all [eqDv]
  | .int a, e, h => by cases e <;> simp_all [eqDv]
  | .str a, e, h => by cases e <;> simp_all [eqDv]
  | .dict a, e, h => by cases e <;> simp_all [eqDv]
  | .tuple xs, e, h => by
    cases e with
    | tuple ys => simp only [eqDv] at h; rw [eqDvs_ok xs ys h]
    | _ => simp [eqDv] at h
  | .list xs, e, h => by
    cases e with
    | list ys => simp only [eqDv] at h; rw [eqDvs_ok xs ys h]
    | _ => simp [eqDv] at h
theorem eqDvs_ok : ∀ (xs ys : List Dv), eqDvs xs ys = true → xs = ys
  | [], [], _ => rfl
  | x :: xs, y :: ys, h => by
    simp only [eqDvs, Bool.and_eq_true] at h
    rw [eqDv_ok x y h.1, eqDvs_ok xs ys h.2]
  | [], y :: ys, h => by simp [eqDvs] at h
  | x :: xs, [], h => by simp [eqDvs] at h
end
def eqSls : List Sl → List Dv → Bool
  | [], [] => true
  | .sh x :: xs, y :: ys => eqDv x y && eqSls xs ys
  | _, _ => false
theorem eqSls_ok : ∀ (xs : List Sl) (ys : List Dv), eqSls xs ys = true → xs = ys.map .sh
  | [], [], _ => rfl
  | .sh x :: xs, y :: ys, h => by
    simp only [eqSls, Bool.and_eq_true] at h
    rw [eqDv_ok x y h.1, eqSls_ok xs ys h.2]
    rfl
  | [], y :: ys, h => by simp [eqSls] at h
  | .sh x :: xs, [], h => by simp [eqSls] at h
  | .no :: xs, _, h => by simp [eqSls] at h
  | .ow _ :: xs, _, h => by simp [eqSls] at h
/-- F at shared data gives the data d -/
def gives (F : FnS) (as : List Dv) (d : Dv) : Bool := match F (as.map .sh) with
  | some (.sh e, bs) => eqDv e d && eqSls bs as
  | _ => false
theorem gives_ok {F : FnS} {as : List Dv} {d : Dv} (h : gives F as d = true) : F (as.map .sh) = some (.sh d, as.map .sh) := by
  unfold gives at h
  split at h
  · rename_i e bs he
    simp only [Bool.and_eq_true] at h
    rw [he, eqDv_ok _ _ h.1, eqSls_ok _ _ h.2]
  · cases h
/-! ### comprehensions that draw -/
theorem lcW {i : Nat} {fe : M} (R : Nat → Sl → Rho) (Pv : Dv → Prop) (hR : ∀ n s s', (R n s).set i s' = R n s') (he : ∀ n d, ∃ v, Pv v ∧ frM fe (R n (.sh d)) = some (.sh v, R (n + 1) (.sh d))) : ∀ (ds acc : List Dv) (n : Nat) (s : Sl), acc.length + ds.length ≤ sizeLine →
    ∃ vs n' s', vs.length = ds.length ∧ (∀ v ∈ vs, Pv v) ∧ lcS [i] (tName i) cYes fe ds acc (R n s) = some (acc ++ vs, R n' s')
  | [], acc, n, s, _ => ⟨[], n, s, rfl, by simp, by simp [lcS]⟩
  | d :: ds, acc, n, s, hl => by
    obtain ⟨v, hv, e1⟩ := he n d
    rw [List.length_cons] at hl
    obtain ⟨vs, n', s', h1, h2, h3⟩ := lcW R Pv hR he ds (acc ++ [v]) (n + 1) (.sh d) (by simp; omega)
    refine ⟨v :: vs, n', s', by simp [h1], fun x hx => ?_, ?_⟩
    · rcases List.mem_cons.mp hx with rfl | hx
      · exact hv
      · exact h2 x hx
    · unfold lcS
      simp only [tName, wipeR, hR, Option.bind_some, cYes, if_true, e1]
      rw [if_pos (by omega), h3]
      simp
theorem eLcW {i : Nat} {fi : ML} {fe : M} (R : Nat → Sl → Rho) (Pv : Dv → Prop) (hR : ∀ n s s', (R n s).set i s' = R n s') (he : ∀ n d, ∃ v, Pv v ∧ frM fe (R n (.sh d)) = some (.sh v, R (n + 1) (.sh d))) {ρ : Rho} {s0 : Sl} {ds : List Dv} (n : Nat) (hfi : fi ρ = some (ds, R n s0)) (h0 : (R n s0)[i]? = some s0) (hs : ∀ o, s0 ≠ .ow o) (hl : ds.length ≤ sizeLine) :
    ∃ vs n', vs.length = ds.length ∧ (∀ v ∈ vs, Pv v) ∧ eLc [i] fi (tName i) cYes fe ρ = some (.ow (.lst vs), R n' s0) := by
  obtain ⟨vs, n', s', h1, h2, h3⟩ := lcW R Pv hR he ds [] n s0 (by simpa using hl)
  refine ⟨vs, n', h1, h2, ?_⟩
  have hn : noOw (R n s0) [i] = true := by
    unfold noOw
    cases s0 with
    | no => simp [h0]
    | sh d => simp [h0]
    | ow o => exact absurd rfl (hs o)
  unfold eLc
  rw [hfi]
  simp only [Option.bind_some]
  rw [if_pos hn, h3]
  simp only [Option.bind_some, putB, h0, List.nil_append, hR]
/-! ### told as due -/
def alikeG (self : FnS) : MS :=
    (sSeq (sIf (tV (unS (isiD "tuple") (eVar 1))) (sSeq (sIf (tOr' (tNo (tV (unS (isiD "tuple") (eVar 0)))) (tB (binS neqD (eCall lenG (aCons (eVar 0) aNil)) (eCall lenG (aCons (eVar 1) aNil))))) (sRet [] (eC (.bool false))) sNil)
    (sRet [] (binS eqqD (eLc [2] (iRng rng1 (aCons (eCall lenG (aCons (eVar 1) aNil)) aNil)) (tName 2) (tNo (tV (eFn self (aCons (frM (binS ixA (eVar 0) (eVar 2))) (aCons (frM (binS ixA (eVar 1) (eVar 2))) aNil))))) (eVar 2)) (eLst aNil)))) sNil)
    (sSeq (sIf (tB (binS isND (eVar 1) (eC .none))) (sRet [] (binS isND (eVar 0) (eC .none))) sNil)
    (sSeq (sIf (tV (unS (isiD "bool") (eVar 1))) (sRet [] (eAnd (unS (isiD "bool") (eVar 0)) (binS eqqD (eVar 0) (eVar 1)))) sNil)
    (sSeq (sIf (tV (unS (isiD "int") (eVar 1))) (sRet [] (eAnd (unS (isiD "int") (eVar 0)) (eAnd (eNot (unS (isiD "bool") (eVar 0))) (binS eqqD (eVar 0) (eVar 1))))) sNil)
    (sRet [] (eAnd (unS (isiD "str") (eVar 0)) (binS eqqD (eVar 0) (eVar 1))))))))
def alikeF : Nat → FnS
  | 0 => runF 2 3 [] (fun _ => none)
  | n + 1 => runF 2 3 [] (alikeG (alikeF n))
mutual
/-- ints, truths, nothing and tuples of these, so deep -/
def plainN : Nat → Dv → Bool
  | _, .none => true
  | _, .bool _ => true
  | _, .int _ => true
  | 0, .tuple _ => false
  | n + 1, .tuple xs => decide (xs.length < 1000000) && plainNs n xs
  | _, _ => false
def plainNs : Nat → List Dv → Bool
  | _, [] => true
  | n, x :: xs => plainN n x && plainNs n xs
end
theorem plainNs_all : ∀ {n : Nat} {xs : List Dv}, plainNs n xs = true → ∀ d ∈ xs, plainN n d = true
  | n, x :: xs, h, d, hd => by
    simp only [plainNs, Bool.and_eq_true] at h
    rcases List.mem_cons.mp hd with rfl | hd
    · exact h.1
    · exact plainNs_all h.2 d hd
theorem nilEq : eqqD (.list []) (.list []) = some (.sh (.bool true)) := rfl
theorem szl_6 : 1000000 ≤ sizeLine := by decide +kernel
theorem alike_ok : ∀ (n : Nat) (d : Dv), plainN n d = true → alikeF (n + 1) [.sh d, .sh d] = some (.sh (.bool true), [.sh d, .sh d]) := by
  intro n
  induction n with
  | zero =>
    intro d h
    cases d with
    | tuple xs => simp [plainN] at h
    | str z => simp [plainN] at h
    | list z => simp [plainN] at h
    | dict z => simp [plainN] at h
    | none => exact runF_eq (fl := .rt (.sh (.bool true)) [.sh .none, .sh .none, .no]) rfl (by simp [alikeG, sSeq, sIf, tV, unS, pkM, eVar, isiD, tagD, isT, Rz.rv, dat, truD, sNil, tB, binS, eC, isND, isNone, sRet]) rfl
    | bool b => exact runF_eq (fl := .rt (.sh (.bool true)) [.sh (.bool b), .sh (.bool b), .no]) rfl (by cases b <;> rfl) rfl
    | int b => exact runF_eq (fl := .rt (.sh (.bool true)) [.sh (.int b), .sh (.int b), .no]) rfl (by simp [alikeG, sSeq, sIf, tV, unS, pkM, eVar, isiD, tagD, isT, Rz.rv, dat, truD, sNil, tB, binS, eC, isND, isNone, sRet, eAnd, eNot, eqqD, eqD]) rfl
  | succ n ih =>
    intro d h
    cases d with
    | str z => simp [plainN] at h
    | list z => simp [plainN] at h
    | dict z => simp [plainN] at h
    | none => exact runF_eq (fl := .rt (.sh (.bool true)) [.sh .none, .sh .none, .no]) rfl (by simp [alikeG, sSeq, sIf, tV, unS, pkM, eVar, isiD, tagD, isT, Rz.rv, dat, truD, sNil, tB, binS, eC, isND, isNone, sRet]) rfl
    | bool b => exact runF_eq (fl := .rt (.sh (.bool true)) [.sh (.bool b), .sh (.bool b), .no]) rfl (by cases b <;> rfl) rfl
    | int b => exact runF_eq (fl := .rt (.sh (.bool true)) [.sh (.int b), .sh (.int b), .no]) rfl (by simp [alikeG, sSeq, sIf, tV, unS, pkM, eVar, isiD, tagD, isT, Rz.rv, dat, truD, sNil, tB, binS, eC, isND, isNone, sRet, eAnd, eNot, eqqD, eqD]) rfl
    | tuple xs =>
      simp only [plainN, Bool.and_eq_true, decide_eq_true_eq] at h
      have hz := szl_6
      have r1 : rng1 [.int (xs.length : Int)] = some (rangeD 0 xs.length) := range1_eval (by omega)
      have a1 : eLc [2] (iRng rng1 (aCons (eCall lenG (aCons (eVar 1) aNil)) aNil)) (tName 2) (tNo (tV (eFn (alikeF (n + 1)) (aCons (frM (binS ixA (eVar 0) (eVar 2))) (aCons (frM (binS ixA (eVar 1) (eVar 2))) aNil))))) (eVar 2) [.sh (.tuple xs), .sh (.tuple xs), .no] = some (.ow (.lst []), [.sh (.tuple xs), .sh (.tuple xs), .no]) := by
        have := eLc1 (i := 2) (fi := iRng rng1 (aCons (eCall lenG (aCons (eVar 1) aNil)) aNil)) (c := tNo (tV (eFn (alikeF (n + 1)) (aCons (frM (binS ixA (eVar 0) (eVar 2))) (aCons (frM (binS ixA (eVar 1) (eVar 2))) aNil))))) (fe := eVar 2) (ρ := [.sh (.tuple xs), .sh (.tuple xs), .no]) (s0 := .no) (ds := rangeD 0 xs.length) (fun _ => false) id
          (iRng_eq (rs := [.sh (.int (xs.length : Int))]) (by simp [aCons, aNil, eCall, eVar, dats, dat, lenG, Rz.rv]) rfl r1) rfl (by intro o; simp) (by rw [rangeD_len]; omega) (fun d hd => by
            obtain ⟨j, hj⟩ := List.mem_iff_getElem?.mp hd
            obtain ⟨hj2, rfl⟩ := rangeD_get hj
            have e2 : atI xs (j : Int) = some xs[j] := atI_nat (List.getElem?_eq_getElem hj2)
            have e3 := ih xs[j] (plainNs_all h.2 _ (List.getElem_mem _))
            simp [tNo, tV, eFn, aCons, aNil, frM, binS, pkM, eVar, dat, ixA, ixD, e2, Rz.rv, toSls, toSl, alsOk, als, e3, wback, truD]) (fun d hd hb => nomatch hb)
        rw [show ∀ l : List Dv, l.filter (fun _ => false) = [] from fun l => by simp] at this
        exact this
      have a2 : alikeG (alikeF (n + 1)) [.sh (.tuple xs), .sh (.tuple xs), .no] = some (.rt (.sh (.bool true)) [.sh (.tuple xs), .sh (.tuple xs), .no]) := by
        have b1 : sIf (tOr' (tNo (tV (unS (isiD "tuple") (eVar 0)))) (tB (binS neqD (eCall lenG (aCons (eVar 0) aNil)) (eCall lenG (aCons (eVar 1) aNil))))) (sRet [] (eC (.bool false))) sNil [.sh (.tuple xs), .sh (.tuple xs), .no] = some (.nx [.sh (.tuple xs), .sh (.tuple xs), .no]) := by
          simp [sIf, tOr', tNo, tV, unS, pkM, eVar, isiD, tagD, isT, Rz.rv, dat, truD, tB, binS, neqD, eqD, eCall, aCons, aNil, dats, lenG, sNil]
        have b2 : sRet [] (binS eqqD (eLc [2] (iRng rng1 (aCons (eCall lenG (aCons (eVar 1) aNil)) aNil)) (tName 2) (tNo (tV (eFn (alikeF (n + 1)) (aCons (frM (binS ixA (eVar 0) (eVar 2))) (aCons (frM (binS ixA (eVar 1) (eVar 2))) aNil))))) (eVar 2)) (eLst aNil)) [.sh (.tuple xs), .sh (.tuple xs), .no] = some (.rt (.sh (.bool true)) [.sh (.tuple xs), .sh (.tuple xs), .no]) := by
          exact sRet_sh (bin_sh (pk_ow a1) (pk_ow (by simp [eLst, aNil, shs])) nilEq)
        unfold alikeG
        rw [sSeq_rt]
        rw [sIf_t (ρ1 := [.sh (.tuple xs), .sh (.tuple xs), .no]) (by simp [tV, unS, pkM, eVar, isiD, tagD, isT, Rz.rv, dat, truD])]
        rw [sSeq_nx b1, b2]
      exact runF_eq rfl a2 rfl
theorem alike_rw (n : Nat) (d : Dv) (h : plainN n d = true) : alikeF (n + 1) [.sh d, .sh d] = some (.sh (.bool true), [.sh d, .sh d]) := alike_ok n d h
end DL

set_option Elab.async false
set_option linter.all false
set_option autoImplicit false
set_option maxRecDepth 100000
set_option maxHeartbeats 1000000
namespace DL
open PySem PySem.Spec PyProof.Rows L2
/-! ### comprehensions of two clauses -/
def lcS2 (own vs1 : List Nat) (t : MT) (c : MB) (fi1 : ML) (t1 : MT) (c1 : MB) (fe : M) : List Dv → List Dv → Rho → Option (List Dv × Rho)
  | [], acc, ρ => some (acc, ρ)
  | d :: ds, acc, ρ => (t d (wipeR ρ own)).bind fun ρ1 => (c ρ1).bind fun x => if x.1 = true then (fi1 x.2).bind fun z => (lcS vs1 t1 c1 fe z.1 acc z.2).bind fun y => lcS2 own vs1 t c fi1 t1 c1 fe ds y.1 y.2
      else lcS2 own vs1 t c fi1 t1 c1 fe ds acc x.2
def eLc2 (own vs1 : List Nat) (fi : ML) (t : MT) (c : MB) (fi1 : ML) (t1 : MT) (c1 : MB) (fe : M) : M := fun ρ => (fi ρ).bind fun x => if noOw x.2 own = true then (lcS2 own vs1 t c fi1 t1 c1 fe x.1 [] x.2).bind fun y => some (.ow (.lst y.1), putB y.2 x.2 own) else none
section
variable {X : Cx} {ix : List Nat} {own tis tis1 vs1 : List Nat} {fi fi1 : ML} {t t1 : MT} {c c1 : MB} {fe : M}
theorem wipeR_sub (ρ : Rho) {vs own : List Nat} (h : ∀ i ∈ vs, i ∈ own) : wipeR (wipeR ρ vs) own = wipeR ρ own := by
  refine List.ext_getElem? fun j => ?_
  by_cases hj : j ∈ own
  · by_cases hlt : j < ρ.length
    · have h1 : j < (wipeR (wipeR ρ vs) own).length := by rw [wipeR_length, wipeR_length]; exact hlt
      have h2 : j < (wipeR ρ own).length := by rw [wipeR_length]; exact hlt
      have e1 := List.getElem?_eq_getElem h1
      have e2 := List.getElem?_eq_getElem h2
      rw [e1, e2, wipeR_in hj e1, wipeR_in hj e2]
    · rw [List.getElem?_eq_none (by rw [wipeR_length, wipeR_length]; omega), List.getElem?_eq_none (by rw [wipeR_length]; omega)]
  · rw [wipeR_out hj, wipeR_out hj, wipeR_out fun z => hj (h j z)]
theorem wipe_sub (σ : L2.St) {vs own : List Nat} (h : ∀ i ∈ vs, i ∈ own) : wipe (wipe σ vs) own = wipe σ own := by
  refine wipe_eq (is := own) (wipe_length _ _) fun j hj => wipe_out fun z => hj (h j z)
theorem nD_of {K : PySem.W.Frag} {Fr G H : Hp} {FX : Nat → Option V} {ρ : Rho} {σ : L2.St} {D : Addr} {u : HO} (R : RS K ix (upd Fr D u) FX G ρ σ H) : ∀ (i : Nat) (o' : Ob), ρ[i]? = some (.ow o') → σ[i]? ≠ some (some (.ref D)) := fun i o' z1 z2 => by
  obtain ⟨a, ea, _, fa, _⟩ := R.sl i _ z1
  rw [z2] at ea
  cases ea
  rw [upd_same] at fa
  cases fa
theorem lc2_ok {σ : L2.St} {H : Hp} {Q : VK} (ho : ∀ i ∈ own, i ∉ ix) (ht : ∀ i ∈ tis, i ∈ own) (hv : ∀ i ∈ vs1, i ∈ own) (ht1 : ∀ i ∈ tis1, i ∈ vs1) (h : TE' X.K ix (eLc2 own vs1 fi t c fi1 t1 c1 fe) σ H Q) :
    tLc2 (TI' X.K ix fi) (TG' X.K ix tis t) (TT' X.K ix c) (TI' X.K ix fi1) (TG' X.K ix tis1 t1) (TT' X.K ix c1) (TE' X.K ix (frM fe)) own vs1 σ H Q := by
  obtain ⟨Fr, FX, G, ρ, r, ρ', R, hf, k⟩ := h
  have ho1 : ∀ i ∈ vs1, i ∉ ix := fun i hi => ho i (hv i hi)
  unfold eLc2 at hf
  obtain ⟨⟨ds, ρ0⟩, h0, hf⟩ := Option.bind_eq_some_iff.mp hf
  simp only at hf
  split at hf
  rotate_left
  · cases hf
  rename_i hno
  obtain ⟨⟨accF, ρF⟩, h1, hf⟩ := Option.bind_eq_some_iff.mp hf
  cases hf
  refine ⟨Fr, FX, G, ρ, ds, ρ0, R, h0, fun J G0 H0 s0 R0 jk D hD => ?_⟩
  have gD := (R0.none_of hD).1
  have fD := (R0.none_of hD).2
  refine ⟨fun i m H => m = ds.length - i ∧ i ≤ ds.length ∧ ∃ G1 ρ1 acc accv, Sub G0 G1 ∧ H D = some (.lst accv) ∧ DpAll X.K G1 accv acc ∧ RS X.K ix (upd Fr D (.lst accv)) FX G1 (wipeR ρ1 own) (wipe σ own) H ∧ lcS2 own vs1 t c fi1 t1 c1 fe (ds.drop i) acc ρ1 = some (accF, ρF),
    ⟨ds.length, by simp, Nat.zero_le _, G0, ρ0, [], [], Sub.refl _, upd_same, .nil, ?_, h1⟩, ?_⟩
  · exact ((R0.wiped ho).newH hD).frame gD upd_same ((R0.wiped ho).notIn hD)
  rintro i m H1 ⟨rfl, hle, G1, ρ1, acc, accv, s1, hv', qa, R1, e1⟩
  have gD1 : G1 D = none := R1.gf D (by rw [upd_same]; simp)
  obtain ⟨j1, j2⟩ := jk i G1 H1 s1 R1.gh
  by_cases hlt : i < ds.length
  · have hd : ds[i]? = some ds[i] := List.getElem?_eq_getElem hlt
    obtain ⟨j3, j4⟩ := j1 _ hd
    rw [List.drop_eq_getElem_cons hlt] at e1
    unfold lcS2 at e1
    obtain ⟨ρ2, e2, e1⟩ := Option.bind_eq_some_iff.mp e1
    obtain ⟨⟨kb, ρ3⟩, e3, e1⟩ := Option.bind_eq_some_iff.mp e1
    refine .inr ⟨j3, fun H => ∃ G1 ρ1 acc accv, Sub G0 G1 ∧ H D = some (.lst accv) ∧ DpAll X.K G1 accv acc ∧ RS X.K ix (upd Fr D (.lst accv)) FX G1 (wipeR ρ1 own) (wipe σ own) H ∧ lcS2 own vs1 t c fi1 t1 c1 fe (ds.drop (i + 1)) acc ρ1 = some (accF, ρF), fun H' w => ⟨ds.length - (i + 1), by omega, rfl, hlt, w⟩, fun x H2 y => ?_⟩
    have key : ∃ G2, Sub G1 G2 ∧ RS X.K ix (upd Fr D (.lst accv)) FX G2 (wipeR ρ1 own) (wipe σ own) H2 ∧ Dp X.K G2 x ds[i] := by
      rcases j4 x H2 y with ⟨rfl, q⟩ | ⟨p, o, hp, rfl, q⟩
      · exact ⟨G1, Sub.refl _, R1, q⟩
      · exact ⟨_, sub_upd (R1.none_of hp).1, R1.newG hp, q⟩
    obtain ⟨G2, s2, R2, q⟩ := key
    refine ⟨_, FX, G2, _, _, ρ2, R2, q, e2, fun G3 σ3 H3 s3 n3 R3 => ?_⟩
    have hw : wipe σ3 own = wipe σ own := by
      have := wipe_eq (is := own) n3.1 fun j hj => n3.2 j fun z => hj (ht j z)
      rw [this, wipe_wipe]
    refine ⟨hw, _, FX, G3, ρ2, kb, ρ3, R3, e3, fun G4 H4 s4 R4 => ?_⟩
    cases kb with
    | false =>
      rw [if_neg Bool.false_ne_true]
      simp only [Bool.false_eq_true, if_false] at e1
      have W4 := R4.wiped (own := own) ho
      rw [hw] at W4
      exact ⟨G4, ρ3, acc, accv, ((s1.trans s2).trans s3).trans s4, R4.fh D _ upd_same, dpAll_mono ((s2.trans s3).trans s4) _ _ qa, W4, e1⟩
    | true =>
      rw [if_pos rfl]
      simp only [if_true] at e1
      obtain ⟨⟨es, ρ4⟩, e4, e1⟩ := Option.bind_eq_some_iff.mp e1
      obtain ⟨⟨accI, ρI⟩, e5, e1⟩ := Option.bind_eq_some_iff.mp e1
      simp only at e1 e5
      have s04 : Sub G0 G4 := ((s1.trans s2).trans s3).trans s4
      have q04 := dpAll_mono ((s2.trans s3).trans s4) _ _ qa
      refine ⟨_, FX, G4, ρ3, es, ρ4, R4, e4, fun J1 G5 H5 s5 R5 jk1 => ?_⟩
      refine ⟨fun j m H => m = es.length - j ∧ j ≤ es.length ∧ ∃ G6 ρ6 acc6 accv6, Sub G5 G6 ∧ H D = some (.lst accv6) ∧ DpAll X.K G6 accv6 acc6 ∧ RS X.K ix (upd Fr D (.lst accv6)) FX G6 (wipeR ρ6 vs1) (wipe σ3 vs1) H ∧ lcS vs1 t1 c1 fe (es.drop j) acc6 ρ6 = some (accI, ρI),
        ⟨es.length, by simp, Nat.zero_le _, G5, ρ4, acc, accv, Sub.refl _, R5.fh D _ upd_same, dpAll_mono s5 _ _ q04, R5.wiped ho1, e5⟩, ?_⟩
      rintro j m' H6 ⟨rfl, hle6, G6, ρ6, acc6, accv6, s6, hv6, qa6, R6, e6⟩
      have gD6 : G6 D = none := R6.gf D (by rw [upd_same]; simp)
      obtain ⟨i1, i2⟩ := jk1 j G6 H6 s6 R6.gh
      by_cases hlt6 : j < es.length
      · have hd6 : es[j]? = some es[j] := List.getElem?_eq_getElem hlt6
        obtain ⟨i3, i4⟩ := i1 _ hd6
        rw [List.drop_eq_getElem_cons hlt6] at e6
        unfold lcS at e6
        obtain ⟨ρ7, e7, e6⟩ := Option.bind_eq_some_iff.mp e6
        obtain ⟨⟨kb7, ρ8⟩, e8, e6⟩ := Option.bind_eq_some_iff.mp e6
        refine .inr ⟨i3, fun H => ∃ G6 ρ6 acc6 accv6, Sub G5 G6 ∧ H D = some (.lst accv6) ∧ DpAll X.K G6 accv6 acc6 ∧ RS X.K ix (upd Fr D (.lst accv6)) FX G6 (wipeR ρ6 vs1) (wipe σ3 vs1) H ∧ lcS vs1 t1 c1 fe (es.drop (j + 1)) acc6 ρ6 = some (accI, ρI), fun H' w => ⟨es.length - (j + 1), by omega, rfl, hlt6, w⟩, fun x6 H7 y6 => ?_⟩
        have key : ∃ G7, Sub G6 G7 ∧ RS X.K ix (upd Fr D (.lst accv6)) FX G7 (wipeR ρ6 vs1) (wipe σ3 vs1) H7 ∧ Dp X.K G7 x6 es[j] := by
          rcases i4 x6 H7 y6 with ⟨rfl, q⟩ | ⟨p, o, hp, rfl, q⟩
          · exact ⟨G6, Sub.refl _, R6, q⟩
          · exact ⟨_, sub_upd (R6.none_of hp).1, R6.newG hp, q⟩
        obtain ⟨G7, s7, R7, q7⟩ := key
        refine ⟨_, FX, G7, _, _, ρ7, R7, q7, e7, fun G8 σ8 H8 s8 n8 R8 => ?_⟩
        have hw8 : wipe σ8 vs1 = wipe σ3 vs1 := by
          have := wipe_eq (is := vs1) n8.1 fun j hj => n8.2 j fun z => hj (ht1 j z)
          rw [this, wipe_wipe]
        refine ⟨hw8, _, FX, G8, ρ7, kb7, ρ8, R8, e8, fun G9 H9 s9 R9 => ?_⟩
        cases kb7 with
        | false =>
          rw [if_neg Bool.false_ne_true]
          simp only [Bool.false_eq_true, if_false] at e6
          have W9 := R9.wiped (own := vs1) ho1
          rw [hw8] at W9
          exact ⟨G9, ρ8, acc6, accv6, ((s6.trans s7).trans s8).trans s9, R9.fh D _ upd_same, dpAll_mono ((s7.trans s8).trans s9) _ _ qa6, W9, e6⟩
        | true =>
          rw [if_pos rfl]
          simp only [if_true] at e6
          obtain ⟨⟨ra, ρa⟩, ea, e6⟩ := Option.bind_eq_some_iff.mp e6
          refine ⟨_, FX, G9, ρ8, ra, ρa, R9, ea, fun z Ga Ha sa Ra va => ?_⟩
          cases ra with
          | ow o => cases e6
          | al o => cases e6
          | sh da =>
            simp only at e6
            split at e6
            · rename_i hz
              have hDa : Ha D = some (.lst accv6) := Ra.fh D _ upd_same
              have gDa : Ga D = none := Ra.gf D (by rw [upd_same]; simp)
              refine ⟨accv6, hDa, by rw [dpAll_length qa6]; exact hz, ?_⟩
              have Wa := Ra.wiped (own := vs1) ho1
              rw [hw8] at Wa
              have nD := nD_of Wa
              have Wb := (Wa.unframe fD).out (u := .lst (accv6 ++ [z])) gDa fD nD
              have sb : Sub G6 Ga := ((s7.trans s8).trans s9).trans sa
              exact ⟨Ga, ρa, acc6 ++ [da], accv6 ++ [z], s6.trans sb, upd_same, dpAll_append (dpAll_mono sb _ _ qa6) (.cons va .nil), Wb.frame gDa upd_same nD, e6⟩
            · cases e6
      · have hj : j = es.length := by omega
        subst hj
        rw [List.drop_length] at e6
        unfold lcS at e6
        cases e6
        refine .inl ⟨i2 (Nat.le_refl _), ?_⟩
        have W6 := R6.wiped (own := own) ho
        rw [wipeR_sub _ hv, wipe_sub _ hv, hw] at W6
        exact ⟨G6, ρI, accI, accv6, (s04.trans s5).trans s6, hv6, qa6, W6, e1⟩
  · have hi : i = ds.length := by omega
    subst hi
    rw [List.drop_length] at e1
    unfold lcS2 at e1
    cases e1
    refine .inl ⟨j2 (Nat.le_refl _), ?_⟩
    have nD := nD_of R1
    have RZ := RS.unwiped R0 (R1.unframe fD) s1 hno
    refine k _ G1 H1 (s0.trans s1) RZ ⟨D, rfl, gD1, fD, ⟨accv, hv', qa⟩, fun i o' z1 z2 => ?_⟩
    by_cases hi : i ∈ own
    · have hl : ρ0.length = ρF.length := by
        have l1 := R0.len
        have l2 := R1.len
        rw [wipeR_length, wipe_length] at l2
        omega
      have e' := putB_in hl hi z1
      have := List.all_eq_true.mp hno i hi
      rw [e'] at this
      cases this
    · rw [putB_out hi] at z1
      exact nD i o' (by rw [wipeR_out hi]; exact z1) (by rw [wipe_out hi]; exact z2)
end
section
variable {X : Cx} {ix : List Nat} {tis tis1 : List Nat} {fi fi1 : ML} {t t1 : MT} {c c1 : MB} {fe : M} {pos : Pos}
theorem de_lc2 {elt tg iter tg1 iter1 : Expr} {ifs ifs1 : List Expr} {scope : Scope} {own : List (Str × Nat)} {vs1 : List Nat} (hc : X.calm = true) (hN : X.N.Nodup) (hi : PI X tg iter (TI' X.K ix fi)) (ok : BlkOk X.N X.env.scope scope own)
    (hg : ∀ (s : Shared) (H : Hp) (C : Addr) (cl : List (Str × Addr)) (fp : List Addr), PG (X.blk s H scope (compEnvC scope cl C X.env) fp) tg (TG' X.K ix tis t))
    (ht : ∀ (s : Shared) (H : Hp) (C : Addr) (cl : List (Str × Addr)) (fp : List Addr), PTs (X.blk s H scope (compEnvC scope cl C X.env) fp) ifs (TT' X.K ix c))
    (hi1 : ∀ (s : Shared) (H : Hp) (C : Addr) (cl : List (Str × Addr)) (fp : List Addr), PI (X.blk s H scope (compEnvC scope cl C X.env) fp) tg1 iter1 (TI' X.K ix fi1))
    (hg1 : ∀ (s : Shared) (H : Hp) (C : Addr) (cl : List (Str × Addr)) (fp : List Addr), PG (X.blk s H scope (compEnvC scope cl C X.env) fp) tg1 (TG' X.K ix tis1 t1))
    (ht1 : ∀ (s : Shared) (H : Hp) (C : Addr) (cl : List (Str × Addr)) (fp : List Addr), PTs (X.blk s H scope (compEnvC scope cl C X.env) fp) ifs1 (TT' X.K ix c1))
    (he : ∀ (s : Shared) (H : Hp) (C : Addr) (cl : List (Str × Addr)) (fp : List Addr), PE (X.blk s H scope (compEnvC scope cl C X.env) fp) elt (TE' X.K ix fe))
    (hv : ∀ i ∈ vs1, i ∈ own.map (·.2) := by decide) (ho : ∀ i ∈ own.map (·.2), i ∉ ix := by decide) (hti : ∀ i ∈ tis, i ∈ own.map (·.2) := by decide) (hti1 : ∀ i ∈ tis1, i ∈ vs1 := by decide) (hs : ∀ x, foldedSetIterable iter X.env x = pure x := by intro _; rfl) (hs1 : ∀ env x, foldedSetIterable iter1 env x = pure x := by intro _ _; rfl) :
    PE X (.ListComp elt [⟨tg, iter, ifs, 0⟩, ⟨tg1, iter1, ifs1, 0⟩] scope pos) (TE' X.K ix (eLc2 (own.map (·.2)) vs1 fi t c fi1 t1 c1 fe)) :=
  pe_imp (pe_lc2 hc hN hi ok hv hg ht hi1 hg1 ht1 (fun s H C cl fp => de_fr (he s H C cl fp)) hs hs1) fun _ _ _ h => lc2_ok ho hti hv hti1 h
theorem ds_setLc2 {i : Nat} {y : Str} {py spos : Pos} {elt tg iter tg1 iter1 : Expr} {ifs ifs1 : List Expr} {scope : Scope} {own : List (Str × Nat)} {vs1 : List Nat} (hc : X.calm = true) (hN : X.N.Nodup) (hy : X.N[i]? = some y) (hyl : X.env.scope.names.lookup y = some .local) (hix : i ∉ ix)
    (hsw : swapsWith (.ListComp elt [⟨tg, iter, ifs, 0⟩, ⟨tg1, iter1, ifs1, 0⟩] scope pos) (some (.Name y py)) spos.line X.env = pure true) (hi : PI X tg iter (TI' X.K ix fi)) (ok : BlkOk X.N X.env.scope scope own)
    (hg : ∀ (s : Shared) (H : Hp) (C : Addr) (cl : List (Str × Addr)) (fp : List Addr), PG (X.blk s H scope (compEnvC scope cl C X.env) fp) tg (TG' X.K ix tis t))
    (ht : ∀ (s : Shared) (H : Hp) (C : Addr) (cl : List (Str × Addr)) (fp : List Addr), PTs (X.blk s H scope (compEnvC scope cl C X.env) fp) ifs (TT' X.K ix c))
    (hi1 : ∀ (s : Shared) (H : Hp) (C : Addr) (cl : List (Str × Addr)) (fp : List Addr), PI (X.blk s H scope (compEnvC scope cl C X.env) fp) tg1 iter1 (TI' X.K ix fi1))
    (hg1 : ∀ (s : Shared) (H : Hp) (C : Addr) (cl : List (Str × Addr)) (fp : List Addr), PG (X.blk s H scope (compEnvC scope cl C X.env) fp) tg1 (TG' X.K ix tis1 t1))
    (ht1 : ∀ (s : Shared) (H : Hp) (C : Addr) (cl : List (Str × Addr)) (fp : List Addr), PTs (X.blk s H scope (compEnvC scope cl C X.env) fp) ifs1 (TT' X.K ix c1))
    (he : ∀ (s : Shared) (H : Hp) (C : Addr) (cl : List (Str × Addr)) (fp : List Addr), PE (X.blk s H scope (compEnvC scope cl C X.env) fp) elt (TE' X.K ix fe))
    (hv : ∀ i ∈ vs1, i ∈ own.map (·.2) := by decide) (ho : ∀ i ∈ own.map (·.2), i ∉ ix := by decide) (hti : ∀ i ∈ tis, i ∈ own.map (·.2) := by decide) (hti1 : ∀ i ∈ tis1, i ∈ vs1 := by decide) (hs : ∀ x, foldedSetIterable iter X.env x = pure x := by intro _; rfl) (hs1 : ∀ env x, foldedSetIterable iter1 env x = pure x := by intro _ _; rfl) :
    PS X (.Assign [.Name y py] (.ListComp elt [⟨tg, iter, ifs, 0⟩, ⟨tg1, iter1, ifs1, 0⟩] scope pos) spos) (TS' X.K ix (sSet i (eLc2 (own.map (·.2)) vs1 fi t c fi1 t1 c1 fe))) :=
  ps_imp (ps_setLc2 hc hN hy hyl hsw hi ok hv hg ht hi1 hg1 ht1 (fun s H C cl fp => de_fr (he s H C cl fp)) hs hs1) fun _ _ _ h => lc2_ok ho hti hv hti1 (asg_ok hix h)
end
end DL

set_option Elab.async false
set_option linter.all false
set_option autoImplicit false
set_option maxRecDepth 100000
set_option maxHeartbeats 1000000
namespace DL
open PySem PySem.Spec PyProof.Rows L2
/-! ### sorted -/
def isTup : Dv → Bool
  | .tuple (_ :: _) => true
  | _ => false
def noTup : Dv → Bool
  | .tuple _ => false
  | .none => false
  | _ => true
def okSo (ds : List Dv) : Bool := (ds.all isTup || ds.all noTup) && (ds.all fun d => ds.all fun e => PySem.W.alike d e) && (ds.all fun d => decide (d.depth ≤ 64)) && decide (ds.length ≤ sizeLine)
def sortD (ds : List Dv) : List Dv := ds.mergeSort (PySem.W.dataLe false fun d : Dv => d)
def sortG : List Dv → Option Rz
  | [.list ds] => if okSo ds = true then some (.ow (.lst (sortD ds))) else none
  | _ => none
theorem okSo_all {ds : List Dv} (h : okSo ds = true) : PySem.W.Sortable ds ∧ PySem.W.AllAlike ds ∧ (∀ d ∈ ds, d.depth ≤ 64) ∧ ds.length ≤ sizeLine := by
  unfold okSo at h
  simp only [Bool.and_eq_true, decide_eq_true_eq, Bool.or_eq_true] at h
  obtain ⟨⟨⟨h1, h2⟩, h3⟩, h4⟩ := h
  refine ⟨?_, fun d hd d' hd' => List.all_eq_true.mp (List.all_eq_true.mp h2 d hd) d' hd', fun d hd => of_decide_eq_true (List.all_eq_true.mp h3 d hd), h4⟩
  rcases h1 with h1 | h1
  · refine .inl fun d hd => ?_
    have := List.all_eq_true.mp h1 d hd
    unfold isTup at this
    split at this
    · exact ⟨_, _, rfl⟩
    · cases this
  · refine .inr fun d hd => ?_
    have := List.all_eq_true.mp h1 d hd
    refine ⟨fun e => ?_, fun xs e => ?_⟩ <;> (subst e; cases this)
theorem each_of {X : Cx} {pins : List (Addr × Obj)} {σ : L2.St} {H : Hp} {s : Shared} (I : Inv X pins σ H s) {G : Hp} (gh : Sub G H) : ∀ {ds : List Dv} {vs : List V} {us : List Value}, DpAll X.K G vs ds → Vals vs us →
    PySem.W.EachIs (fun u d => ∃ v, RelV v u ∧ Dp X.K G v d) us ds ∧ PySem.W.EachIs (fun u d => ∃ as, Reads s.heap u d as) us ds
  | [], _, _, h, r => by
    cases h
    cases r
    exact ⟨.nil, .nil⟩
  | d :: ds, _, _, h, r => by
    cases h with
    | cons h1 h2 =>
      cases r with
      | cons r1 r2 =>
        obtain ⟨a, b⟩ := each_of I gh h2 r2
        exact ⟨.cons ⟨_, r1, h1⟩ a, .cons (Dp.reads I d _ _ (dp_mono gh _ _ h1) r1) b⟩
theorem of_each {K : PySem.W.Frag} {G : Hp} : ∀ {us : List Value} {ds : List Dv}, PySem.W.EachIs (fun u d => ∃ v, RelV v u ∧ Dp K G v d) us ds → ∃ vs, Vals vs us ∧ DpAll K G vs ds
  | _, _, .nil => ⟨[], .nil, .nil⟩
  | _, _, .cons ⟨v, r, h⟩ t => by
    obtain ⟨vs, a, b⟩ := of_each t
    exact ⟨v :: vs, .cons r a, .cons h b⟩
theorem sorted_d {X : Cx} (hu : X.A.units + 200 < cLine) : CallD X (.builtin "sorted") sortG := by
  intro pins s σ H xs us Q I r h
  obtain ⟨G, ds, z, gh, vd, hz, q⟩ := h
  unfold sortG at hz
  split at hz
  rotate_left
  · cases hz
  rename_i es
  split at hz
  rotate_left
  · cases hz
  rename_i hok
  cases hz
  obtain ⟨h1, h2, h3, h4⟩ := okSo_all hok
  obtain ⟨v, rfl, hv⟩ := vds1 vd
  obtain ⟨a, vs, rfl, hs, p1⟩ := vd_list hv
  rw [Vals.ref1 r]
  obtain ⟨its, rv, pl, hz'⟩ := I.list hs
  obtain ⟨e1, e2⟩ := each_of I (sub_le gh) p1 rv
  refine PySem.W.sorted_data (enc := fun d : Dv => d) pl.isList e1 e2 (by rw [List.map_id']; exact h2) (by rw [List.map_id']; exact h1) h4 (fun b hb => by have := h3 b hb; omega) fun out ho ho2 => ?_
  obtain ⟨ws, rw', dw⟩ := of_each ho2
  obtain ⟨ep, he'⟩ := PyProof.Rows.sortedAll_at s.heap its out.toArray
  have hlen : ws.length ≤ sizeLine := by
    rw [rw'.length, ho]
    exact h4
  have hp := I.hok.fresh (Nat.le_succ s.heap.objs.size)
  exact ⟨.ref _, upd H (s.heap.objs.size + 1) (.lst ws), I.laid (t' := s.toks) (fun _ _ => PyProof.Rows.sortedAll_old) (Nat.le_succ _) ⟨hlen, out, ep, rw', he'⟩, rfl, res_lst q hp dw⟩
end DL

set_option Elab.async false
set_option linter.all false
set_option autoImplicit false
set_option maxRecDepth 100000
set_option maxHeartbeats 1000000
namespace DL
open PySem PySem.Spec PyProof.Rows L2
section
variable {X : Cx} {ix : List Nat} {a b c e : Expr} {ga : MA} {fo : M} {pos : Pos}
/-- three names at once, all shared -/
def sPar3 (i j l : Nat) (ga : MA) : MS := fun ρ => (ga ρ).bind fun x => match x.1 with
  | [.sh d, .sh e, .sh f] => some (.nx (((x.2.set i (.sh d)).set j (.sh e)).set l (.sh f)))
  | _ => none
theorem ds_par3 {i j l : Nat} {x y z : Str} {px py pz pt : Pos} {kt k2 pt2} (hc : X.calm = true) (hN : X.N.Nodup) (hi : X.N[i]? = some x) (hj : X.N[j]? = some y) (hl : X.N[l]? = some z) (hij : i ≠ j) (hil : i ≠ l) (hjl : j ≠ l) (hii : i ∉ ix) (hjj : j ∉ ix) (hll : l ∉ ix)
    (hx : X.env.scope.names.lookup x = some .local) (hy : X.env.scope.names.lookup y = some .local) (hz : X.env.scope.names.lookup z = some .local) (ha : PA X [a, b, c] (TA' X.K ix ga))
    (hw : swappedStores [.Tuple [.Name x px, .Name y py, .Name z pz] kt pt] (.Tuple [a, b, c] k2 pt2) X.env = pure (some [x, y, z]) := by rfl)
    (hs : swapsWithSole [.Tuple [.Name x px, .Name y py, .Name z pz] kt pt] (.Tuple [a, b, c] k2 pt2) pos.line X.env = pure false := by rfl) :
    PS X (.Assign [.Tuple [.Name x px, .Name y py, .Name z pz] kt pt] (.Tuple [a, b, c] k2 pt2) pos) (TS' X.K ix (sPar3 i j l ga)) :=
  ps_imp (ps_par3 hc hN hi hj hl hij hil hjl hx hy hz ha hw hs) fun D σ H ⟨Fr, FX, G, ρ, fl, R, hf, k⟩ => by
    unfold sPar3 at hf
    obtain ⟨⟨rs, ρ0⟩, h0, hf⟩ := Option.bind_eq_some_iff.mp hf
    refine ⟨Fr, FX, G, ρ, rs, ρ0, R, h0, fun vs G1 H1 s1 R1 v1 => ?_⟩
    simp only at hf
    split at hf
    · rename_i d e f
      cases hf
      cases vs with
      | nil => exact False.elim v1
      | cons u vs =>
        cases vs with
        | nil => exact False.elim v1.2.2
        | cons v vs =>
          cases vs with
          | nil => exact False.elim v1.2.2.2.2
          | cons w vs =>
            cases vs with
            | cons _ _ => exact False.elim v1.2.2.2.2.2.2
            | nil =>
              have q1 : Dp X.K G1 u d := v1.1
              have q2 : Dp X.K G1 v e := v1.2.2.1
              have q3 : Dp X.K G1 w f := v1.2.2.2.2.1
              have K1 := R1.set (v := u) (s := .sh d) hii ⟨u, rfl, q1⟩ (fun o a z => nomatch z)
              have K2 := K1.set (v := v) (s := .sh e) hjj ⟨v, rfl, q2⟩ (fun o a z => nomatch z)
              have K3 := K2.set (v := w) (s := .sh f) hll ⟨w, rfl, q3⟩ (fun o a z => nomatch z)
              exact ⟨u, v, w, rfl, k G1 _ H1 s1 K3⟩
    · cases hf
end
end DL

set_option Elab.async false
set_option linter.all false
set_option autoImplicit false
set_option maxRecDepth 100000
set_option maxHeartbeats 1000000
namespace DL
open PySem PySem.Spec PyProof.Rows L2
/-! ### len of a dict with tuple keys too -/
def lenA (ds : List Dv) : Option Rz := match ds with
  | [.dict kvs] => if plD kvs = true then some (.sh (.int kvs.length)) else if kvs.tail.length < 1000000 then some (.sh (.int kvs.tail.length)) else none
  | _ => lenG ds
theorem lenA_d {X : Cx} : CallD X (.builtin "len") lenA := by
  intro pins s σ H xs us Q I r h
  obtain ⟨G, ds, z, gh, vd, hz, q⟩ := h
  unfold lenA at hz
  split at hz
  · rename_i kvs
    by_cases hp : plD kvs = true
    · rw [if_pos hp] at hz
      refine len_d pins s σ H xs us Q I r ⟨G, [.dict kvs], z, gh, vd, ?_, q⟩
      unfold lenG
      simp only
      rw [if_pos hp]
      exact hz
    · rw [if_neg hp] at hz
      split at hz
      rotate_left
      · cases hz
      rename_i hlt
      cases hz
      obtain ⟨v, rfl, h1⟩ := vds1 vd
      obtain ⟨a, ps, rfl, h2, t⟩ := vd_dn h1 (by simpa using hp)
      rw [Vals.ref1 r]
      obtain ⟨xs, pr, hdk, hsys⟩ := tk_of I h2 (t.mono (sub_le gh))
      have hl : xs.length = kvs.tail.length := by rw [pr_len pr, tkv_len t]
      refine call_len_dictH hsys hdk (by omega) ?_
      rw [hl]
      exact ⟨.int kvs.tail.length, H, I.tok _, ⟨_, rfl⟩, res_int q⟩
  · exact len_d pins s σ H xs us Q I r ⟨G, ds, z, gh, vd, hz, q⟩
end DL

set_option Elab.async false
set_option linter.all false
set_option autoImplicit false
set_option maxRecDepth 100000
set_option maxHeartbeats 1000000
namespace DL
open PySem PySem.Spec PyProof.Rows L2
/-! ### is, also of truths -/
def isXD (d e : Dv) : Option Rz := match d, e with
  | .bool a, .bool b => some (.sh (.bool (decide (a = b))))
  | d, e => isND d e
def notXD (d e : Dv) : Option Rz := match d, e with
  | .bool a, .bool b => some (.sh (.bool (!decide (a = b))))
  | d, e => notND d e
section
variable {X : Cx}
theorem is_x : OpD X (compareOp .Is) isXD := by
  intro pins s σ H x y v u Q I rx ry h
  obtain ⟨G, d, e, z, gh, vx, vy, hz, q⟩ := h
  unfold isXD at hz
  split at hz
  · rename_i a b
    cases hz
    exact op_isBl pins s σ H x y v u Q I rx ry ⟨a, b, vd_bool vx, vd_bool vy, res_bl q⟩
  · exact is_d pins s σ H x y v u Q I rx ry ⟨G, d, e, z, gh, vx, vy, hz, q⟩
theorem isnot_x : OpD X (compareOp .IsNot) notXD := by
  intro pins s σ H x y v u Q I rx ry h
  obtain ⟨G, d, e, z, gh, vx, vy, hz, q⟩ := h
  unfold notXD at hz
  split at hz
  · rename_i a b
    cases hz
    exact op_notBl pins s σ H x y v u Q I rx ry ⟨a, b, vd_bool vx, vd_bool vy, res_bl q⟩
  · exact isnot_d pins s σ H x y v u Q I rx ry ⟨G, d, e, z, gh, vx, vy, hz, q⟩
end
section
variable {X : Cx} {ix : List Nat} {tis tis1 : List Nat} {fi fi1 : ML} {t t1 : MT} {c c1 : MB} {fe : M} {pos : Pos}
theorem ds_setLcP {i : Nat} {y : Str} {py spos : Pos} {elt tg iter : Expr} {ifs : List Expr} {scope : Scope} {own : List (Str × Nat)} (hc : X.calm = true) (hN : X.N.Nodup) (hy : X.N[i]? = some y) (hyl : X.env.scope.names.lookup y = some .local) (hix : i ∉ ix)
    (hsw : swapsWith (.ListComp elt [⟨tg, iter, ifs, 0⟩] scope pos) (some (.Name y py)) spos.line X.env = pure true) (hi : PI X tg iter (TI' X.K ix fi)) (ok : BlkOk X.N X.env.scope scope own)
    (hg : ∀ (s : Shared) (H : Hp) (C : Addr) (cl : List (Str × Addr)) (fp : List Addr), PG (X.blk s H scope (compEnvC scope cl C X.env) fp) tg (TG' X.K ix tis t))
    (ht : ∀ (s : Shared) (H : Hp) (C : Addr) (cl : List (Str × Addr)) (fp : List Addr), PTs (X.blk s H scope (compEnvC scope cl C X.env) fp) ifs (TT' X.K ix c))
    (he : ∀ (s : Shared) (H : Hp) (C : Addr) (cl : List (Str × Addr)) (fp : List Addr), PE (X.blk s H scope (compEnvC scope cl C X.env) fp) elt (TE' X.K ix fe))
    (ho : ∀ i ∈ own.map (·.2), i ∉ ix := by decide) (hti : ∀ i ∈ tis, i ∈ own.map (·.2) := by decide) (hs : ∀ x, foldedSetIterable iter X.env x = pure x := by intro _; rfl) :
    PS X (.Assign [.Name y py] (.ListComp elt [⟨tg, iter, ifs, 0⟩] scope pos) spos) (TS' X.K ix (sSet i (pkM (eLc (own.map (·.2)) fi t c fe)))) :=
  ps_imp (ps_setLc hc hN hy hyl hsw hi ok hg ht (fun s H C cl fp => de_fr (he s H C cl fp)) hs) fun _ _ _ h => lc_ok ho hti (pk_ok (asg_ok hix h))
theorem ds_setLc2P {i : Nat} {y : Str} {py spos : Pos} {elt tg iter tg1 iter1 : Expr} {ifs ifs1 : List Expr} {scope : Scope} {own : List (Str × Nat)} {vs1 : List Nat} (hc : X.calm = true) (hN : X.N.Nodup) (hy : X.N[i]? = some y) (hyl : X.env.scope.names.lookup y = some .local) (hix : i ∉ ix)
    (hsw : swapsWith (.ListComp elt [⟨tg, iter, ifs, 0⟩, ⟨tg1, iter1, ifs1, 0⟩] scope pos) (some (.Name y py)) spos.line X.env = pure true) (hi : PI X tg iter (TI' X.K ix fi)) (ok : BlkOk X.N X.env.scope scope own)
    (hg : ∀ (s : Shared) (H : Hp) (C : Addr) (cl : List (Str × Addr)) (fp : List Addr), PG (X.blk s H scope (compEnvC scope cl C X.env) fp) tg (TG' X.K ix tis t))
    (ht : ∀ (s : Shared) (H : Hp) (C : Addr) (cl : List (Str × Addr)) (fp : List Addr), PTs (X.blk s H scope (compEnvC scope cl C X.env) fp) ifs (TT' X.K ix c))
    (hi1 : ∀ (s : Shared) (H : Hp) (C : Addr) (cl : List (Str × Addr)) (fp : List Addr), PI (X.blk s H scope (compEnvC scope cl C X.env) fp) tg1 iter1 (TI' X.K ix fi1))
    (hg1 : ∀ (s : Shared) (H : Hp) (C : Addr) (cl : List (Str × Addr)) (fp : List Addr), PG (X.blk s H scope (compEnvC scope cl C X.env) fp) tg1 (TG' X.K ix tis1 t1))
    (ht1 : ∀ (s : Shared) (H : Hp) (C : Addr) (cl : List (Str × Addr)) (fp : List Addr), PTs (X.blk s H scope (compEnvC scope cl C X.env) fp) ifs1 (TT' X.K ix c1))
    (he : ∀ (s : Shared) (H : Hp) (C : Addr) (cl : List (Str × Addr)) (fp : List Addr), PE (X.blk s H scope (compEnvC scope cl C X.env) fp) elt (TE' X.K ix fe))
    (hv : ∀ i ∈ vs1, i ∈ own.map (·.2) := by decide) (ho : ∀ i ∈ own.map (·.2), i ∉ ix := by decide) (hti : ∀ i ∈ tis, i ∈ own.map (·.2) := by decide) (hti1 : ∀ i ∈ tis1, i ∈ vs1 := by decide) (hs : ∀ x, foldedSetIterable iter X.env x = pure x := by intro _; rfl) (hs1 : ∀ env x, foldedSetIterable iter1 env x = pure x := by intro _ _; rfl) :
    PS X (.Assign [.Name y py] (.ListComp elt [⟨tg, iter, ifs, 0⟩, ⟨tg1, iter1, ifs1, 0⟩] scope pos) spos) (TS' X.K ix (sSet i (pkM (eLc2 (own.map (·.2)) vs1 fi t c fi1 t1 c1 fe)))) :=
  ps_imp (ps_setLc2 hc hN hy hyl hsw hi ok hv hg ht hi1 hg1 ht1 (fun s H C cl fp => de_fr (he s H C cl fp)) hs hs1) fun _ _ _ h => lc2_ok ho hti hv hti1 (pk_ok (asg_ok hix h))
end
end DL

set_option Elab.async false
set_option linter.all false
set_option autoImplicit false
set_option maxRecDepth 100000
set_option maxHeartbeats 1000000
namespace DL
open PySem PySem.Spec PyProof.Rows L2
/-! ### for x in xs: d.setdefault(k, []).append(e), d a new dict with ints as keys: the lists are shared when the loop is over -/
def addK : List (Dv × List Dv) → Dv → Dv → List (Dv × List Dv)
  | [], k, d => [(k, [d])]
  | p :: r, k, d => if eqKey p.1 k = true then (p.1, p.2 ++ [d]) :: r else p :: addK r k d
def sdfL (j : Nat) (fk fe : M) : List Dv → List (Dv × List Dv) → Rho → Option (List (Dv × List Dv) × Rho)
  | [], kvs, ρ => some (kvs, ρ)
  | d :: ds, kvs, ρ => (pkM fk (ρ.set j (.sh d))).bind fun x => match x.1 with
    | .sh (.int k) => (frM fe x.2).bind fun y => (match y.1 with
      | .sh e => if kvs.length < 100000 ∧ (kvs.all fun p => decide (p.2.length < 100000)) = true then sdfL j fk fe ds (addK kvs (.int k) e) y.2 else none
      | _ => none)
    | _ => none
def shK (kvs : List (Dv × List Dv)) : List (Dv × Dv) := kvs.map fun p => (p.1, .list p.2)
def sSdf (i j : Nat) (fi : ML) (fk fe : M) : MS := fun ρ => (fi ρ).bind fun x => match x.2[i]? with
  | some (.ow (.dct [])) => (sdfL j fk fe x.1 [] (x.2.set i .no)).bind fun y => some (.nx ((y.2.set i (.ow (.dct (shK y.1)))).set j .no))
  | _ => none
section
variable {K : PySem.W.Frag} {ix : List Nat} {Fr Fr1 Fr2 G G' H H' : Hp} {FX : Nat → Option V} {ρ : Rho} {σ : L2.St}
theorem RS.reframe (R : RS K ix Fr1 FX G ρ σ H) (S : Addr → Prop) (hg : ∀ x, S x → G x = none) (hs : ∀ x, S x → ∀ (i : Nat) (o : Ob), ρ[i]? = some (.ow o) → σ[i]? ≠ some (some (.ref x))) (hH : ∀ x, ¬ S x → H' x = H x) (hF : ∀ x, ¬ S x → Fr2 x = Fr1 x) (hSF : ∀ x o, S x → Fr2 x = some o → H' x = some o) : RS K ix Fr2 FX G ρ σ H' := by
  refine ⟨fun a o e => ?_, fun a o e => ?_, fun a n => ?_, R.len, fun i s e => ?_, R.sep, R.fx⟩
  · rw [hH a fun z => by rw [hg a z] at e; cases e]
    exact R.gh a o e
  · by_cases z : S a
    · exact hSF a o z e
    · rw [hH a z]
      rw [hF a z] at e
      exact R.fh a o e
  · by_cases z : S a
    · exact hg a z
    · rw [hF a z] at n
      exact R.gf a n
  · have h := R.sl i s e
    cases s with
    | no => trivial
    | sh d => exact h
    | ow o =>
      obtain ⟨a, e1, g1, f1, c1⟩ := h
      have z : ¬ S a := fun z => hs a z i o e e1
      exact ⟨a, e1, g1, by rw [hF a z]; exact f1, c1.mono (Sub.refl _) (hH a z)⟩
end
/-- the lists of the dict, where they stand -/
abbrev Ent := Key × Addr × List V
def ksOf (ls : List Ent) : List (Key × V) := ls.map fun t => (t.1, V.ref t.2.1)
def frA (Fr : Hp) (a : Addr) (ls : List Ent) : Hp := fun x => if x = a then some (.dK (ksOf ls)) else match ls.find? (fun t => t.2.1 == x) with
  | some t => some (.lst t.2.2)
  | none => Fr x
inductive LK (K : PySem.W.Frag) (G : Hp) : List Ent → List (Dv × List Dv) → Prop
  | nil : LK K G [] []
  | cons {k : Key} {b : Addr} {vs : List V} {ds : List Dv} {r : List Ent} {s : List (Dv × List Dv)} : DpAll K G vs ds → LK K G r s → LK K G ((k, b, vs) :: r) ((keyD k, ds) :: s)
theorem LK.mono {K : PySem.W.Frag} {G G' : Hp} (su : Sub G G') : ∀ {ls : List Ent} {kvs : List (Dv × List Dv)}, LK K G ls kvs → LK K G' ls kvs
  | _, _, .nil => .nil
  | _, _, .cons h t => .cons (dpAll_mono su _ _ h) (t.mono su)
theorem LK.length {K : PySem.W.Frag} {G : Hp} : ∀ {ls : List Ent} {kvs : List (Dv × List Dv)}, LK K G ls kvs → ls.length = kvs.length
  | _, _, .nil => rfl
  | _, _, .cons _ t => by simp [t.length]
/-- the value that a key has -/
theorem lk_find {K : PySem.W.Frag} {G : Hp} (k : Key) (e : Dv) : ∀ {ls : List Ent} {kvs : List (Dv × List Dv)}, LK K G ls kvs →
    (valV (ksOf ls) k = none ∧ addK kvs (keyD k) e = kvs ++ [(keyD k, [e])]) ∨
    ∃ (l1 : List Ent) (b : Addr) (vs : List V) (l2 : List Ent) (ds : List Dv), ls = l1 ++ (k, b, vs) :: l2 ∧ valV (ksOf ls) k = some (.ref b) ∧ DpAll K G vs ds ∧ (keyD k, ds) ∈ kvs ∧
      (∀ (G' : Hp) (vs' : List V), Sub G G' → DpAll K G' vs' (ds ++ [e]) → LK K G' (l1 ++ (k, b, vs') :: l2) (addK kvs (keyD k) e))
  | _, _, .nil => .inl ⟨rfl, rfl⟩
  | _, _, .cons (k := k0) (b := b0) (vs := vs0) (ds := ds0) (r := r) (s := s) h t => by
    by_cases z : k0 = k
    · subst z
      refine .inr ⟨[], b0, vs0, r, ds0, rfl, valV_pos rfl, h, List.mem_cons_self .., fun G' vs' su q => ?_⟩
      unfold addK
      rw [eqKey_keyD, if_pos (by simp)]
      exact .cons q (t.mono su)
    · rcases lk_find k e t with ⟨h1, h2⟩ | ⟨l1, b, vs, l2, ds, e1, h1, h2, h3, h4⟩
      · refine .inl ⟨?_, ?_⟩
        · show valV ((k0, V.ref b0) :: ksOf r) k = none
          rw [valV_neg z]
          exact h1
        · unfold addK
          rw [eqKey_keyD, if_neg (by simp [z]), h2]
          rfl
      · refine .inr ⟨(k0, b0, vs0) :: l1, b, vs, l2, ds, by rw [e1]; rfl, ?_, h2, List.mem_cons_of_mem _ h3, fun G' vs' su q => ?_⟩
        · show valV ((k0, V.ref b0) :: ksOf r) k = some (.ref b)
          rw [valV_neg z]
          exact h1
        · unfold addK
          rw [eqKey_keyD, if_neg (by simp [z])]
          exact .cons (dpAll_mono su _ _ h) (h4 G' vs' su q)
theorem lk_snoc {K : PySem.W.Frag} {G : Hp} {k : Key} {b : Addr} {vs : List V} {ds : List Dv} (q : DpAll K G vs ds) : ∀ {ls : List Ent} {kvs : List (Dv × List Dv)}, LK K G ls kvs → LK K G (ls ++ [(k, b, vs)]) (kvs ++ [(keyD k, ds)])
  | _, _, .nil => .cons q .nil
  | _, _, .cons h t => .cons h (lk_snoc q t)
theorem find_mid {l1 l2 : List Ent} {k : Key} {b : Addr} {vs : List V} (nd : ((l1 ++ (k, b, vs) :: l2).map (·.2.1)).Nodup) : (l1 ++ (k, b, vs) :: l2).find? (fun t => t.2.1 == b) = some (k, b, vs) := by
  rw [List.map_append, List.map_cons] at nd
  have h1 : ∀ t ∈ l1, t.2.1 ≠ b := fun t ht e => by
    have := (List.nodup_append.mp nd).2.2 t.2.1 (List.mem_map.mpr ⟨t, ht, rfl⟩) b (List.mem_cons_self ..)
    exact this e
  rw [List.find?_append, List.find?_eq_none.mpr (fun t ht => by simpa using h1 t ht)]
  simp
theorem find_other {l1 l2 : List Ent} {k : Key} {b : Addr} {vs vs' : List V} {x : Addr} (hx : x ≠ b) : ((l1 ++ (k, b, vs) :: l2).find? (fun t => t.2.1 == x)) = ((l1 ++ (k, b, vs') :: l2).find? (fun t => t.2.1 == x)) := by
  rw [List.find?_append, List.find?_append]
  congr 1
  rw [List.find?_cons_of_neg (by simpa using fun e => hx e.symm), List.find?_cons_of_neg (by simpa using fun e => hx e.symm)]
theorem find_none {ls : List Ent} {x : Addr} : ls.find? (fun t => t.2.1 == x) = none ↔ x ∉ ls.map (·.2.1) := by
  rw [List.find?_eq_none]
  simp only [List.mem_map, not_exists, not_and, beq_iff_eq]
theorem ksOf_put {k : Key} {q : Addr} : ∀ {ls : List Ent}, valV (ksOf ls) k = none → putK (ksOf ls) k (.ref q) = ksOf (ls ++ [(k, q, [])])
  | ls, h => by
    have h2 : (ksOf ls).any (fun p => decide (p.1 = k)) = false := by
      induction ls with
      | nil => rfl
      | cons t ls ih =>
        obtain ⟨k0, b0, vs0⟩ := t
        by_cases z : k0 = k
        · rw [show ksOf ((k0, b0, vs0) :: ls) = (k0, V.ref b0) :: ksOf ls from rfl, valV_pos z] at h
          cases h
        · rw [show ksOf ((k0, b0, vs0) :: ls) = (k0, V.ref b0) :: ksOf ls from rfl, valV_neg z] at h
          show (decide (k0 = k) || (ksOf ls).any _) = false
          rw [ih h]
          simp [z]
    unfold putK
    rw [h2]
    simp [ksOf]
/-- what stands at an address of a list -/
theorem frA_b {Fr : Hp} {a : Addr} {l1 l2 : List Ent} {k : Key} {b : Addr} {vs : List V} (nd : ((l1 ++ (k, b, vs) :: l2).map (·.2.1)).Nodup) (ha : b ≠ a) : frA Fr a (l1 ++ (k, b, vs) :: l2) b = some (.lst vs) := by
  unfold frA
  rw [if_neg ha, find_mid nd]
theorem frA_a {Fr : Hp} {a : Addr} {ls : List Ent} : frA Fr a ls a = some (.dK (ksOf ls)) := if_pos rfl
theorem frA_o {Fr : Hp} {a : Addr} {ls : List Ent} {x : Addr} (h1 : x ≠ a) (h2 : x ∉ ls.map (·.2.1)) : frA Fr a ls x = Fr x := by
  unfold frA
  rw [if_neg h1, find_none.mpr h2]
theorem ksOf_set {l1 l2 : List Ent} {k : Key} {b : Addr} {vs vs' : List V} : ksOf (l1 ++ (k, b, vs') :: l2) = ksOf (l1 ++ (k, b, vs) :: l2) := by
  simp [ksOf]
end DL
namespace DL
open PySem PySem.Spec PyProof.Rows L2
theorem frA_f {Fr : Hp} {a x : Addr} {ls : List Ent} {t : Ent} (h : x ≠ a) (f : ls.find? (fun t => t.2.1 == x) = some t) : frA Fr a ls x = some (.lst t.2.2) := by
  unfold frA
  rw [if_neg h, f]
def shG (G : Hp) (ls : List Ent) : Hp := fun x => match ls.find? (fun t => t.2.1 == x) with
  | some t => some (.lst t.2.2)
  | none => G x
theorem shG_o {G : Hp} {ls : List Ent} {x : Addr} (h : x ∉ ls.map (·.2.1)) : shG G ls x = G x := by
  unfold shG
  rw [find_none.mpr h]
theorem find_in {ls : List Ent} {x : Addr} (h : x ∈ ls.map (·.2.1)) : ∃ t ∈ ls, t.2.1 = x ∧ ls.find? (fun t => t.2.1 == x) = some t := by
  cases e : ls.find? (fun t => t.2.1 == x) with
  | none => exact absurd h (find_none.mp e)
  | some t => exact ⟨t, List.mem_of_find?_eq_some e, by simpa using List.find?_some e, rfl⟩
theorem lk_dkv {K : PySem.W.Frag} {G1 G : Hp} (su : Sub G1 G) : ∀ {ls : List Ent} {kvs : List (Dv × List Dv)}, LK K G1 ls kvs → (∀ t ∈ ls, G t.2.1 = some (.lst t.2.2)) → DKV K G (ksOf ls) (shK kvs)
  | _, _, .nil, _ => .nil
  | _, _, .cons (b := b) (vs := vs) h t, hG => .cons (.lst (.inl (.inl (hG _ (List.mem_cons_self ..)))) (dpAll_mono su _ _ h)) (lk_dkv su t fun u hu => hG u (List.mem_cons_of_mem _ hu))
theorem nodup_find {ls : List Ent} (nd : (ls.map (·.2.1)).Nodup) {t : Ent} (h : t ∈ ls) : ls.find? (fun u => u.2.1 == t.2.1) = some t := by
  obtain ⟨l1, l2, rfl⟩ := List.append_of_mem h
  obtain ⟨k, b, vs⟩ := t
  exact find_mid nd
/-- the end of the loop: the lists are shared, the dict is the slot's -/
theorem sdf_end {K : PySem.W.Frag} {ix : List Nat} {Fr G1 H1 : Hp} {FX : Nat → Option V} {ρ1 : Rho} {σ1 : L2.St} {a : Addr} {i : Nat} {ls : List Ent} {kvs : List (Dv × List Dv)} (R1 : RS K ix (frA Fr a ls) FX G1 ρ1 σ1 H1) (hi : i < ρ1.length) (ea1 : σ1[i]? = some (some (.ref a))) (lk : LK K G1 ls kvs) (nd : (ls.map (·.2.1)).Nodup) (na : a ∉ ls.map (·.2.1)) (nf : ∀ b ∈ ls.map (·.2.1), Fr b = none) (fa : Fr a = none) :
    Sub G1 (shG G1 ls) ∧ RS K ix Fr FX (shG G1 ls) (ρ1.set i (.ow (.dct (shK kvs)))) σ1 H1 := by
  have gb : ∀ b ∈ ls.map (·.2.1), G1 b = none := fun b hb => R1.gf b (by
    obtain ⟨t, ht, e, f⟩ := find_in hb
    have hba : b ≠ a := fun z => by subst z; exact na hb
    rw [frA_f hba f]
    simp)
  have ga : G1 a = none := R1.gf a (by rw [frA_a]; simp)
  have le : ∀ x o, G1 x = some o → shG G1 ls x = some o := fun x o e => by
    rw [shG_o (fun z => by rw [gb x z] at e; cases e)]
    exact e
  have su : Sub G1 (shG G1 ls) := sub_le le
  have hb : ∀ t ∈ ls, shG G1 ls t.2.1 = some (.lst t.2.2) := fun t ht => by
    unfold shG
    rw [nodup_find nd ht]
  have hHb : ∀ t ∈ ls, H1 t.2.1 = some (.lst t.2.2) := fun t ht => R1.fh _ _ (frA_f (fun z => na (z ▸ List.mem_map.mpr ⟨t, ht, rfl⟩)) (nodup_find nd ht))
  refine ⟨su, ?_, ?_, ?_, by simp [R1.len], ?_, ?_, R1.fx⟩
  · intro x o e
    by_cases hx : x ∈ ls.map (·.2.1)
    · obtain ⟨t, ht, rfl⟩ := List.mem_map.mp hx
      rw [hb t ht] at e
      cases e
      exact hHb t ht
    · rw [shG_o hx] at e
      exact R1.gh x o e
  · intro x o e
    refine R1.fh x o ?_
    rw [frA_o (fun z => by rw [z, fa] at e; cases e) (fun z => by rw [nf x z] at e; cases e)]
    exact e
  · intro x n
    have hx : x ∉ ls.map (·.2.1) := fun z => n (nf x z)
    rw [shG_o hx]
    refine R1.gf x ?_
    have hxa : x ≠ a := fun z => by subst z; exact n fa
    rw [frA_o hxa hx]
    exact n
  · intro n s e
    by_cases hn : i = n
    · subst hn
      rw [List.getElem?_set_self hi] at e
      cases e
      exact ⟨a, ea1, by rw [shG_o na]; exact ga, fa, ksOf ls, R1.fh a _ frA_a, lk_dkv su lk hb⟩
    · rw [List.getElem?_set_ne hn] at e
      refine SlOk.mono (Fr := Fr) (H := H1) ?_ su ?_
      · have h := R1.sl n s e
        cases s with
        | no => trivial
        | sh d => exact h
        | ow o =>
          obtain ⟨b, e1, g1, f1, c1⟩ := h
          have hba : b ≠ a := fun z => by rw [z, frA_a] at f1; cases f1
          have hbl : b ∉ ls.map (·.2.1) := fun z => by
            obtain ⟨t, ht, e, f⟩ := find_in z
            rw [frA_f hba f] at f1
            cases f1
          rw [frA_o hba hbl] at f1
          exact ⟨b, e1, g1, f1, c1⟩
      · intro b o e1 es g1 f1
        subst es
        refine ⟨?_, rfl⟩
        obtain ⟨b', e1', g1', f1', c1'⟩ := R1.sl n _ e
        rw [e1] at e1'
        cases e1'
        have hbl : b ∉ ls.map (·.2.1) := fun z => by
          obtain ⟨t, ht, e, f⟩ := find_in z
          rw [frA_f (fun z => by rw [z, frA_a] at f1'; cases f1') f] at f1'
          cases f1'
        rw [shG_o hbl]
        exact g1
  · intro n l b o o' hne e1 e2 e3 e4
    have key : ∀ l o', (ρ1.set i (.ow (.dct (shK kvs))))[l]? = some (.ow o') → l ≠ i → σ1[l]? ≠ some (some (.ref a)) := fun l o' e hl e4 => by
      rw [List.getElem?_set_ne (fun z => hl z.symm)] at e
      obtain ⟨b', e1', g1', f1', c1'⟩ := R1.sl l _ e
      rw [e4] at e1'
      cases e1'
      rw [frA_a] at f1'
      cases f1'
    by_cases hn : n = i
    · subst hn
      rw [ea1] at e3
      cases e3
      exact key l o' e2 (fun z => hne z.symm) e4
    · by_cases hl : l = i
      · subst hl
        rw [ea1] at e4
        cases e4
        exact key n o e1 hn e3
      · rw [List.getElem?_set_ne (fun z => hn z.symm)] at e1
        rw [List.getElem?_set_ne (fun z => hl z.symm)] at e2
        exact R1.sep n l b o o' hne e1 e2 e3 e4
section
variable {X : Cx} {ix : List Nat} {fi : ML} {fk fe : M} {i j : Nat} {dn : Str} {tg iter ke le ae : Expr} {pn ap1 cp1 ap2 cp2 ep pos : Pos}
theorem ds_sdf (hp : PassesOwn (model X.prog X.w) X.A X.env X.xe) (hc : X.calm = true) (hij : i ≠ j) (hjx : j ∉ ix) (hi : PI X tg iter (TI' X.K ix fi)) (hg : PG X tg (gName j)) (hv : PE X (.Name dn pn) (tVar i)) (hk : PE X ke (TE' X.K ix fk)) (hl : PE X le (TE' X.K ix (eLst aNil))) (ha : PE X ae (TE' X.K ix fe))
    (m : M2 X (.Name dn pn) "setdefault" ap1 ke le cp1)
    (hb : ∀ (to : TE) (t : TA), PE X (.Call (.Attribute (.Name dn pn) "setdefault" ap1) [ke, le] [] cp1) to → PA X [ae] t → PE X (.Call (.Attribute (.Call (.Attribute (.Name dn pn) "setdefault" ap1) [ke, le] [] cp1) "append" ap2) [ae] [] cp2) (tBM X.K "list" (RMd X.K appG) to t))
    (hs : swapsWith (.Call (.Attribute (.Call (.Attribute (.Name dn pn) "setdefault" ap1) [ke, le] [] cp1) "append" ap2) [ae] [] cp2) none ep.line X.env = pure false)
    (hf : ∀ x, foldedSetIterable iter X.env x = pure x) (hst : starEach [ae] X.env = (false, eval ae X.env) :: starEach [] X.env) :
    PS X (.For tg iter [.Expr (.Call (.Attribute (.Call (.Attribute (.Name dn pn) "setdefault" ap1) [ke, le] [] cp1) "append" ap2) [ae] [] cp2) ep] [] pos) (TS' X.K ix (sSdf i j fi fk fe)) :=
  ps_imp (ps_for hp hc hi hg (pss_one (ps_expr (hb _ _ (pe_dsetd hv (de_pk hk) hl m) (da_cons (de_fr ha) da_nil hst)) hs)) hf) fun D σ H ⟨Fr, FX, G, ρ, fl, R, h0, k⟩ => by
    unfold sSdf at h0
    obtain ⟨⟨ds, ρ0⟩, h1, h0⟩ := Option.bind_eq_some_iff.mp h0
    simp only at h0
    split at h0
    rotate_left
    · cases h0
    rename_i hslot
    obtain ⟨⟨kvsF, ρF⟩, h2, h0⟩ := Option.bind_eq_some_iff.mp h0
    cases h0
    refine ⟨Fr, FX, G, ρ, ds, ρ0, R, h1, fun J G0 H0 s0 R0 jk => ?_⟩
    obtain ⟨a, ea, ga, fa, ks0, hH0, q0⟩ := R0.sl i _ hslot
    cases q0
    have R0' : RS X.K ix (frA Fr a []) FX G0 (ρ0.set i .no) σ H0 := by
      have R1 := R0.weak (i := i) (s := .no) trivial (fun o z => nomatch z)
      refine R1.reframe (fun x => x = a) (fun x z => z ▸ ga) (fun x z n o e1 e2 => ?_) (fun _ _ => rfl) (fun x z => frA_o z (by simp)) (fun x o z e => ?_)
      · subst z
        by_cases hn : i = n
        · subst hn
          have hlt : i < ρ0.length := (List.getElem?_eq_some_iff.mp hslot).1
          rw [List.getElem?_set_self hlt] at e1
          cases e1
        · rw [List.getElem?_set_ne hn] at e1
          exact R0.sep i n x _ _ hn hslot e1 ea e2
      · subst z
        rw [frA_a] at e
        cases e
        exact hH0
    have him : i < ρ0.length := (List.getElem?_eq_some_iff.mp hslot).1
    refine ⟨fun n m σ H => m = ds.length - n ∧ n ≤ ds.length ∧ ∃ G1 ρ1 kvs ls, Sub G0 G1 ∧ σ[i]? = some (some (.ref a)) ∧ ρ1.length = ρ0.length ∧ RS X.K ix (frA Fr a ls) FX G1 ρ1 σ H ∧ LK X.K G1 ls kvs ∧ (ls.map (·.2.1)).Nodup ∧ a ∉ ls.map (·.2.1) ∧ (∀ b ∈ ls.map (·.2.1), Fr b = none) ∧
      sdfL j fk fe (ds.drop n) kvs ρ1 = some (kvsF, ρF), ⟨ds.length, by simp, Nat.zero_le _, G0, ρ0.set i .no, [], [], Sub.refl _, ea, by simp, R0', .nil, by simp, by simp, by simp, h2⟩, ?_⟩
    rintro n m σ1 H1 ⟨rfl, hle, G1, ρ1, kvs, ls, s1, ea1, hlen, R1, lk, nd, na, nf, e1⟩
    obtain ⟨j1, j2⟩ := jk n G1 H1 s1 R1.gh
    by_cases hlt : n < ds.length
    rotate_left
    · refine .inl ⟨j2 (by omega), ?_⟩
      rw [List.drop_eq_nil_of_le (by omega)] at e1
      cases e1
      obtain ⟨su, R2⟩ := sdf_end R1 (by omega) ea1 lk nd na nf fa
      exact k _ _ _ ((s0.trans s1).trans su) (R2.weak (i := j) (s := .no) trivial (fun o z => nomatch z))
    have hd : ds[n]? = some ds[n] := List.getElem?_eq_getElem hlt
    obtain ⟨j3, j4⟩ := j1 _ hd
    rw [List.drop_eq_getElem_cons hlt] at e1
    unfold sdfL at e1
    obtain ⟨⟨r1, ρ2⟩, e2, e1⟩ := Option.bind_eq_some_iff.mp e1
    simp only at e1
    split at e1
    rotate_left
    · cases e1
    rename_i kk
    obtain ⟨⟨r2, ρ3⟩, e3, e1⟩ := Option.bind_eq_some_iff.mp e1
    simp only at e1
    split at e1
    rotate_left
    · cases e1
    rename_i e
    split at e1
    rotate_left
    · cases e1
    rename_i hsz
    refine .inr ⟨j3, fun σ H => ∃ G1 ρ1 kvs ls, Sub G0 G1 ∧ σ[i]? = some (some (.ref a)) ∧ ρ1.length = ρ0.length ∧ RS X.K ix (frA Fr a ls) FX G1 ρ1 σ H ∧ LK X.K G1 ls kvs ∧ (ls.map (·.2.1)).Nodup ∧ a ∉ ls.map (·.2.1) ∧ (∀ b ∈ ls.map (·.2.1), Fr b = none) ∧
      sdfL j fk fe (ds.drop (n + 1)) kvs ρ1 = some (kvsF, ρF), fun σ' H' w => ⟨ds.length - (n + 1), by omega, rfl, hlt, w⟩, fun x H2 y => ?_⟩
    have key : ∃ G2, Sub G1 G2 ∧ RS X.K ix (frA Fr a ls) FX G2 ρ1 σ1 H2 ∧ Dp X.K G2 x ds[n] := by
      rcases j4 x H2 y with ⟨rfl, q⟩ | ⟨p, o, hp, rfl, q⟩
      · exact ⟨G1, Sub.refl _, R1, q⟩
      · exact ⟨_, sub_upd (R1.none_of hp).1, R1.newG hp, q⟩
    obtain ⟨G2, s2, R2, q⟩ := key
    have R3 := R2.set (i := j) (v := x) (s := .sh ds[n]) hjx ⟨x, rfl, q⟩ (fun o a z => nomatch z)
    have ea3 : (σ1.set j (some x))[i]? = some (some (.ref a)) := by rw [List.getElem?_set_ne (fun z => hij z.symm)]; exact ea1
    have hlen3 : (σ1.set j (some x)).length = ρ0.length := by rw [List.length_set, ← R1.len, hlen]
    have harg : aCons (frM fe) aNil ρ2 = some ([.sh e], ρ3) := by
      unfold aCons
      rw [e3]
      rfl
    have fin : ∀ (G4 H4 : Hp) (l1 l2 : List Ent) (b : Addr) (vs : List V) (dsb : List Dv), Sub G0 G4 → RS X.K ix (frA Fr a (l1 ++ (.inl kk, b, vs) :: l2)) FX G4 ρ2 (σ1.set j (some x)) H4 → ((l1 ++ (.inl kk, b, vs) :: l2).map (·.2.1)).Nodup → a ∉ (l1 ++ (.inl kk, b, vs) :: l2).map (·.2.1) →
        (∀ b' ∈ (l1 ++ (.inl kk, b, vs) :: l2).map (·.2.1), Fr b' = none) → DpAll X.K G4 vs dsb → dsb.length < sizeLine → (∀ (G' : Hp) (vs' : List V), Sub G4 G' → DpAll X.K G' vs' (dsb ++ [e]) → LK X.K G' (l1 ++ (.inl kk, b, vs') :: l2) (addK kvs (.int kk) e)) →
        tyV X.K "list" (.ref b) H4 ∧ TA' X.K ix (aCons (frM fe) aNil) (σ1.set j (some x)) H4 fun xs H5 => RMd X.K appG (.ref b) xs H5 fun _ H6 => ∃ G1 ρ1 kvs ls, Sub G0 G1 ∧ (σ1.set j (some x))[i]? = some (some (.ref a)) ∧ ρ1.length = ρ0.length ∧ RS X.K ix (frA Fr a ls) FX G1 ρ1 (σ1.set j (some x)) H6 ∧ LK X.K G1 ls kvs ∧ (ls.map (·.2.1)).Nodup ∧ a ∉ ls.map (·.2.1) ∧ (∀ b ∈ ls.map (·.2.1), Fr b = none) ∧
      sdfL j fk fe (ds.drop (n + 1)) kvs ρ1 = some (kvsF, ρF) := by
      intro G4 H4 l1 l2 b vs dsb s4 R5 nd5 na5 nf5 q5 hz5 hlk
      have hba : b ≠ a := fun z => by subst z; exact na5 (by simp)
      have hH : H4 b = some (.lst vs) := R5.fh b _ (frA_b nd5 hba)
      refine ⟨.inl ⟨rfl, vs, .inl (.inl hH)⟩, frA Fr a (l1 ++ (.inl kk, b, vs) :: l2), FX, G4, ρ2, [.sh e], ρ3, R5, harg, fun vs2 G5 H5 s5 R6 v6 => ?_⟩
      have gb : G5 b = none := R6.gf b (by rw [frA_b nd5 hba]; simp)
      refine ⟨G5, b, .lst dsb, [e], .lst (dsb ++ [e]), .none, rfl, R6.gh, gb, ⟨vs, R6.fh b _ (frA_b nd5 hba), dpAll_mono s5 _ _ q5⟩, shs_dp v6 rfl, by unfold appG; simp only; rw [if_pos hz5], fun v' u' c' q' => ?_⟩
      obtain ⟨vs', hu', dq'⟩ := c'
      rw [upd_same] at hu'
      cases hu'
      have hmap : ∀ w : List V, (l1 ++ (Sum.inl kk, b, w) :: l2).map (·.2.1) = (l1 ++ (Sum.inl kk, b, vs) :: l2).map (·.2.1) := fun w => by simp
      have nd' : ((l1 ++ (Sum.inl kk, b, vs') :: l2).map (·.2.1)).Nodup := by rw [hmap]; exact nd5
      refine ⟨G5, ρ3, addK kvs (.int kk) e, l1 ++ (.inl kk, b, vs') :: l2, s4.trans s5, ea3, by rw [R6.len]; exact hlen3, ?_, hlk G5 vs' s5 dq', nd', by rw [hmap]; exact na5, by rw [hmap]; exact nf5, e1⟩
      refine R6.reframe (fun y => y = b) (fun y z => z ▸ gb) (fun y z m o w1 w2 => ?_) (fun y z => upd_ne z) (fun y z => ?_) (fun y o z w => ?_)
      · subst z
        obtain ⟨b', w3, _, w4, _⟩ := R6.sl m _ w1
        rw [w2] at w3
        cases w3
        rw [frA_b nd5 hba] at w4
        cases w4
      · by_cases hy : y = a
        · subst hy
          rw [frA_a, frA_a, ksOf_set (vs := vs)]
        · unfold frA
          rw [if_neg hy, if_neg hy, find_other (vs := vs') (vs' := vs) z]
      · subst z
        rw [frA_b nd' hba] at w
        cases w
        exact upd_same
    refine ⟨.ref a, ea3, a, rfl, .inl ⟨_, .inl (R3.fh a _ frA_a)⟩, frA Fr a ls, FX, G2, _, _, ρ2, R3, e2, fun y G3 H3 s3 R4 v4 => ?_⟩
    have hy : y = .int kk := by
      have v4' : Dp X.K G3 y (.int kk) := v4
      cases v4'
      rfl
    subst hy
    refine ⟨frA Fr a ls, FX, G3, ρ2, .ow (.lst []), ρ2, R4, rfl, fun z G4 H4 s4 R5 v5 => ?_⟩
    obtain ⟨q0, rfl, gq, fq, ⟨vsq, hq, dq⟩, nq⟩ := v5
    cases dq
    have su4 : Sub G1 G4 := (s2.trans s3).trans s4
    have lk4 := lk.mono su4
    have hszl := szl_big
    refine ⟨ksOf ls, .inl kk, R5.fh a _ frA_a, rfl, by rw [show (ksOf ls).length = ls.length from List.length_map .., lk.length]; omega, fun v hv => ?_, fun hn => ?_⟩
    · rcases lk_find (.inl kk) e lk4 with ⟨h1, _⟩ | ⟨l1, b, vs, l2, dsb, rfl, h1, h2, h3, h4⟩
      · rw [hv] at h1
        cases h1
      · rw [hv] at h1
        cases h1
        have h5 : dsb.length < 100000 := of_decide_eq_true (List.all_eq_true.mp hsz.2 _ h3)
        exact fin G4 H4 l1 l2 b vs dsb (s1.trans su4) R5 nd na nf h2 (by omega) h4
    · rcases lk_find (.inl kk) e lk4 with ⟨_, h2⟩ | ⟨l1, b, vs, l2, dsb, _, h1, _⟩
      rotate_left
      · rw [hn] at h1
        cases h1
      rw [ksOf_put hn]
      have hqa : q0 ≠ a := fun z => by subst z; rw [frA_a] at fq; cases fq
      have hql : q0 ∉ ls.map (·.2.1) := fun z => by
        obtain ⟨t, ht, _, f⟩ := find_in z
        rw [frA_f hqa f] at fq
        cases fq
      have fq' : Fr q0 = none := by rw [frA_o hqa hql] at fq; exact fq
      have nd' : ((ls ++ ([(.inl kk, q0, [])] : List Ent)).map (·.2.1)).Nodup := by
        rw [List.map_append]
        refine List.nodup_append.mpr ⟨nd, by simp, fun u hu w hw z => ?_⟩
        simp at hw
        subst hw
        subst z
        exact hql hu
      have na' : a ∉ (ls ++ ([(.inl kk, q0, [])] : List Ent)).map (·.2.1) := by
        rw [List.map_append, List.mem_append]
        rintro (z | z)
        · exact na z
        · simp at z
          exact hqa z.symm
      have nf' : ∀ b ∈ (ls ++ ([(.inl kk, q0, [])] : List Ent)).map (·.2.1), Fr b = none := fun b hb => by
        rw [List.map_append, List.mem_append] at hb
        rcases hb with hb | hb
        · exact nf b hb
        · simp at hb
          subst hb
          exact fq'
      refine fin G4 _ ls [] q0 [] [] (s1.trans su4) ?_ nd' na' nf' .nil (by simp; omega) (fun G' vs' su q => ?_)
      · refine R5.reframe (fun y => y = a ∨ y = q0) (fun y z => ?_) (fun y z m o w1 w2 => ?_) (fun y z => upd_ne fun w => z (.inl w)) (fun y z => ?_) (fun y o z w => ?_)
        · rcases z with rfl | rfl
          · exact R5.gf _ (by rw [frA_a]; simp)
          · exact gq
        · rcases z with rfl | rfl
          · obtain ⟨b', w3, _, w4, _⟩ := R5.sl m _ w1
            rw [w2] at w3
            cases w3
            rw [frA_a] at w4
            cases w4
          · exact nq m o w1 w2
        · have hya : y ≠ a := fun w => z (.inl w)
          have hyq : y ≠ q0 := fun w => z (.inr w)
          unfold frA
          rw [if_neg hya, if_neg hya, List.find?_append]
          rw [List.find?_cons_of_neg (by simpa using fun w => hyq w.symm)]
          simp
        · rcases z with rfl | rfl
          · rw [frA_a] at w
            cases w
            exact upd_same
          · rw [frA_b (l2 := []) nd' hqa] at w
            cases w
            rw [upd_ne hqa]
            exact hq
      · rw [show addK kvs (.int kk) e = kvs ++ [(keyD (.inl kk), [e])] from h2]
        exact lk_snoc (by simpa using q) (lk4.mono su)
end
end DL
namespace DL
open PySem PySem.Spec PyProof.Rows L2
/-! ### d.get(k, v), d a dict with ints or texts as keys -/
def isDct : Option Sl → Bool
  | some (.ow (.dct _)) => true
  | _ => false
def eDGet (fo fk fd : M) : M := fun ρ => (fo ρ).bind fun x => match x.1 with
  | .al i => if isDct x.2[i]? = true then (pkM fk x.2).bind fun y => (dat y.2 y.1).bind fun k => (frM fd y.2).bind fun z => (match z.1, z.2[i]? with
    | .sh d0, some (.ow (.dct kvs)) => if isKey k = true then some (.sh ((getD kvs k).getD d0), z.2) else none
    | _, _ => none) else none
  | _ => none
section
variable {X : Cx} {ix : List Nat} {o e f : Expr} {fo fk fd : M} {apos cpos : Pos}
theorem de_dget (hu : X.A.units + 1 < cLine) (ho : PE X o (TE' X.K ix fo)) (he : PE X e (TE' X.K ix fk)) (hf : PE X f (TE' X.K ix fd)) (m : M2 X o "get" apos e f cpos) : PE X (.Call (.Attribute o "get" apos) [e, f] [] cpos) (TE' X.K ix (eDGet fo fk fd)) :=
  pe_imp (pe_dget2 hu ho (de_pk he) (de_fr hf) m) fun σ H Q ⟨Fr, FX, G, ρ, r, ρ', R, h, k⟩ => by
    unfold eDGet at h
    obtain ⟨⟨r0, ρ0⟩, h0, h⟩ := Option.bind_eq_some_iff.mp h
    cases r0 with
    | sh d => cases h
    | ow d => cases h
    | al i =>
      simp only at h
      split at h
      rotate_left
      · cases h
      rename_i hd0
      obtain ⟨⟨r1, ρ1⟩, h1, h⟩ := Option.bind_eq_some_iff.mp h
      obtain ⟨kd, h2, h⟩ := Option.bind_eq_some_iff.mp h
      obtain ⟨⟨r2, ρ2⟩, h3, h⟩ := Option.bind_eq_some_iff.mp h
      simp only at h
      split at h
      rotate_left
      · cases h
      rename_i d0 kvs hs
      split at h
      rotate_left
      · cases h
      rename_i hk
      cases h
      refine ⟨Fr, FX, G, ρ, .al i, ρ0, R, h0, fun x G1 H1 s1 R1 v1 => ?_⟩
      have ev : σ[i]? = some (some x) := v1
      unfold isDct at hd0
      split at hd0
      rotate_left
      · cases hd0
      rename_i kvs0 hs0
      obtain ⟨a, ea, g1, f1, ks1, hv1, q1⟩ := R1.sl i _ hs0
      rw [ev] at ea
      cases ea
      refine ⟨a, rfl, .inl ⟨ks1, .inl hv1⟩, Fr, FX, G1, ρ0, r1, ρ1, R1, h1, fun y G2 H2 s2 R2 v2 => ?_⟩
      refine ⟨Fr, FX, G2, ρ1, .sh d0, ρ', R2, h3, fun z G3 H3 s3 R3 v3 => ?_⟩
      obtain ⟨a', ea', g3, f3, ks3, hv3, q3⟩ := R3.sl i _ hs
      rw [ev] at ea'
      cases ea'
      obtain ⟨k', rfl⟩ := isKey_of hk
      have hy := vd_key (dat_vd R2 v2 h2)
      subst hy
      refine ⟨valV ks3 k', DGet.k hv3, ?_⟩
      rcases dkv_get (k := k') q3 with ⟨d, v, e1, e2, e3⟩ | ⟨e1, e2⟩
      · rw [e2]
        rw [e1] at k
        exact k v G3 H3 ((s1.trans s2).trans s3) R3 e3
      · rw [e2]
        rw [e1] at k
        exact k z G3 H3 ((s1.trans s2).trans s3) R3 v3
end
end DL

set_option Elab.async false
set_option linter.all false
set_option autoImplicit false
set_option maxRecDepth 100000
set_option maxHeartbeats 1000000
/-! TL: plain typed functions over the readings of DL. A typed function gives `none` where its reading may not be said to end; where it gives something, the reading gives that. -/
namespace DL
open PySem PySem.Spec PyProof.Rows L2
/-! ### data of types -/
def eI : Int → Dv := PyData.int
def eB : Bool → Dv := PyData.bool
def eS : Str → Dv := PyData.str
def eA : Dv → Dv := fun d => d
def eN : Unit → Dv := fun _ => .none
section
variable {α β γ δ ε : Type}
def eT (e : α → Dv) : List α → Dv := fun xs => .tuple (xs.map e)
def eL (e : α → Dv) : List α → Dv := fun xs => .list (xs.map e)
def e2 (a : α → Dv) (b : β → Dv) : α × β → Dv := fun x => .tuple [a x.1, b x.2]
def e3 (a : α → Dv) (b : β → Dv) (c : γ → Dv) : α × β × γ → Dv := fun x => .tuple [a x.1, b x.2.1, c x.2.2]
def e4 (a : α → Dv) (b : β → Dv) (c : γ → Dv) (d : δ → Dv) : α × β × γ × δ → Dv := fun x => .tuple [a x.1, b x.2.1, c x.2.2.1, d x.2.2.2]
def eO (e : α → Dv) : Option α → Dv
  | none => .none
  | some a => e a
end
/-! ### inversion -/
theorem bnd {α β : Type} {x : Option α} {f : α → Option β} {r : β} (h : x.bind f = some r) : ∃ v, x = some v ∧ f v = some r := Option.bind_eq_some_iff.mp h
theorem ite_inv {α : Type} {c : Bool} {x y : Option α} {r : α} (h : (if c = true then x else y) = some r) : (c = true ∧ x = some r) ∨ (c = false ∧ y = some r) := by
  cases c
  · exact .inr ⟨rfl, h⟩
  · exact .inl ⟨rfl, h⟩
/-! ### blocks -/
def Wp (x : Option Fl) (Q : Fl → Prop) : Prop := ∃ fl, x = some fl ∧ Q fl
def QS (h : MS) (Q : Fl → Prop) : Fl → Prop := fun fl => match fl with
  | .nx ρ => Wp (h ρ) Q
  | .rt r ρ => Q (.rt r ρ)
  | .bk ρ => Q (.bk ρ)
  | .ct ρ => Q (.ct ρ)
section
variable {g h s : MS} {ρ ρ1 : Rho} {Q Q' : Fl → Prop} {f : M} {t : MB} {d : Dv}
theorem wp_mono (a : Wp (s ρ) Q') (k : ∀ fl, Q' fl → Q fl) : Wp (s ρ) Q := let ⟨fl, e, q⟩ := a; ⟨fl, e, k fl q⟩
theorem wp_seqW (a : Wp (g ρ) (QS h Q)) : Wp (sSeq g h ρ) Q := by
  obtain ⟨fl, e, q⟩ := a
  unfold sSeq
  rw [e]
  cases fl with
  | nx ρ => exact q
  | rt r ρ => exact ⟨_, rfl, q⟩
  | bk ρ => exact ⟨_, rfl, q⟩
  | ct ρ => exact ⟨_, rfl, q⟩
theorem wp_seq (a : g ρ = some (.nx ρ1)) (k : Wp (h ρ1) Q) : Wp (sSeq g h ρ) Q := wp_seqW ⟨_, a, k⟩
theorem wp_st (a : s ρ = some (.nx ρ1)) (q : Q (.nx ρ1)) : Wp (s ρ) Q := ⟨_, a, q⟩
theorem wp_nil (q : Q (.nx ρ)) : Wp (sNil ρ) Q := ⟨_, rfl, q⟩
theorem wp_brk (q : Q (.bk ρ)) : Wp (sBreak ρ) Q := ⟨_, rfl, q⟩
theorem wp_ct (q : Q (.ct ρ)) : Wp (sCont ρ) Q := ⟨_, rfl, q⟩
theorem wp_if_t {b : Bool} (a : t ρ = some (b, ρ1)) (hb : b = true) (k : Wp (g ρ1) Q) : Wp (sIf t g h ρ) Q := by
  unfold sIf
  rw [a, hb]
  exact k
theorem wp_if_f {b : Bool} (a : t ρ = some (b, ρ1)) (hb : b = false) (k : Wp (h ρ1) Q) : Wp (sIf t g h ρ) Q := by
  unfold sIf
  rw [a, hb]
  exact k
theorem wp_ret {ix : List Nat} (a : f ρ = some (.sh d, ρ1)) (q : Q (.rt (.sh d) ρ1)) : Wp (sRet ix f ρ) Q := by
  refine ⟨_, ?_, q⟩
  unfold sRet
  rw [a]
  rfl
theorem wp_retO {ix : List Nat} {o : Ob} (a : f ρ = some (.ow o, ρ1)) (q : Q (.rt (.ow o) ρ1)) : Wp (sRet ix f ρ) Q := by
  refine ⟨_, ?_, q⟩
  unfold sRet
  rw [a]
  rfl
theorem wp_retN {ix : List Nat} (q : Q (.rt (.sh .none) ρ)) : Wp (sRetN ρ) Q := ⟨_, rfl, q⟩
/-- an owned list of a slot is given back -/
theorem wp_retA {ix : List Nat} {i : Nat} {o : Ob} (a : f ρ = some (.al i, ρ1)) (e : ρ1[i]? = some (.ow o)) (hx : ix.contains i = false) (q : Q (.rt (.ow o) (ρ1.set i .no))) : Wp (sRet ix f ρ) Q := by
  refine ⟨_, ?_, q⟩
  unfold sRet
  rw [a]
  simp only [Option.bind_some, e]
  cases o with
  | lst ds => exact (if_neg (by rw [hx]; decide)).trans rfl
  | dct ds => rfl
  | dtn ds => rfl
/-! what a def gives back -/
def Rt (as : List Sl) (ix : List Nat) (rv : Rv) (as' : List Sl) : Fl → Prop := fun fl => match fl with
  | .nx ρ => rv = .sh .none ∧ outA 0 ix as ρ = as'
  | .rt r ρ => r = rv ∧ outA 0 ix as ρ = as'
  | _ => False
theorem run_wp {np N : Nat} {ix : List Nat} {g : MS} {as as' : List Sl} {rv : Rv} (h0 : okA 0 ix as = true) (hr : ∀ i, rv ≠ .al i) (h : Wp (g (as ++ List.replicate (N - np) .no)) (Rt as ix rv as')) : runF np N ix g as = some (rv, as') := by
  obtain ⟨fl, e, q⟩ := h
  refine runF_eq h0 e ?_
  cases fl with
  | nx ρ =>
    obtain ⟨rfl, rfl⟩ := q
    rfl
  | rt r ρ =>
    obtain ⟨rfl, rfl⟩ := q
    cases r with
    | al i => exact absurd rfl (hr i)
    | sh d => rfl
    | ow o => rfl
  | bk ρ => exact False.elim q
  | ct ρ => exact False.elim q
end
/-! ### values -/
section
variable {fa fb fc f : M} {ρ ρ1 ρ2 ρ3 : Rho} {a b c d z : Dv} {r r1 r2 : Rv} {o : Ob}
theorem ec (d : Dv) (ρ : Rho) : eC d ρ = some (.sh d, ρ) := rfl
theorem ev {i : Nat} (h : ρ[i]? = some (.sh d)) : eVar i ρ = some (.sh d, ρ) := by
  unfold eVar
  rw [h]
theorem eva {i : Nat} (h : ρ[i]? = some (.ow o)) : eVar i ρ = some (.al i, ρ) := by
  unfold eVar
  rw [h]
theorem pk_al {i : Nat} (h : f ρ = some (.al i, ρ1)) : pkM f ρ = some (.al i, ρ1) := by
  unfold pkM
  rw [h]
  rfl
theorem pk_s (h : f ρ = some (.sh d, ρ1)) : pkM f ρ = some (.sh d, ρ1) := by
  unfold pkM
  rw [h]
  rfl
theorem pk_o {ds : List Dv} (h : f ρ = some (.ow (.lst ds), ρ1)) : pkM f ρ = some (.sh (.list ds), ρ1) := by
  unfold pkM
  rw [h]
  rfl
theorem pk_d {ds : List (Dv × Dv)} (h : f ρ = some (.ow (.dct ds), ρ1)) : pkM f ρ = some (.ow (.dct ds), ρ1) := by
  unfold pkM
  rw [h]
  rfl
theorem pk_n {ds : List (Dv × Dv)} (h : f ρ = some (.ow (.dtn ds), ρ1)) : pkM f ρ = some (.ow (.dtn ds), ρ1) := by
  unfold pkM
  rw [h]
  rfl
theorem fr_s (h : f ρ = some (.sh d, ρ1)) : frM f ρ = some (.sh d, ρ1) := by
  unfold frM
  rw [h]
  rfl
theorem fr_o {ds : List Dv} (h : f ρ = some (.ow (.lst ds), ρ1)) : frM f ρ = some (.sh (.list ds), ρ1) := by
  unfold frM
  rw [h]
  rfl
theorem fr_al {ds : List Dv} {i : Nat} (h : f ρ = some (.al i, ρ1)) (e : ρ1[i]? = some (.ow (.lst ds))) : frM f ρ = some (.sh (.list ds), ρ1.set i (.sh (.list ds))) := by
  unfold frM
  rw [h]
  simp [e]
theorem cp_s (h : f ρ = some (.sh d, ρ1)) : cpM f ρ = some (.sh d, ρ1) := by
  unfold cpM
  rw [h]
  rfl
theorem cp_o (h : f ρ = some (.ow o, ρ1)) : cpM f ρ = some (.ow o, ρ1) := by
  unfold cpM
  rw [h]
  rfl
theorem cp_al {ds : List Dv} {i : Nat} (h : f ρ = some (.al i, ρ1)) (e : ρ1[i]? = some (.ow (.lst ds))) : cpM f ρ = some (.sh (.list ds), ρ1.set i (.sh (.list ds))) := by
  unfold cpM
  rw [h]
  simp [e]
theorem cp_ald {ds : List (Dv × Dv)} {i : Nat} (h : f ρ = some (.al i, ρ1)) (e : ρ1[i]? = some (.ow (.dct ds))) : cpM f ρ = some (.ow (.dct ds), ρ1.set i .no) := by
  unfold cpM
  rw [h]
  simp [e]
theorem cp_aln {ds : List (Dv × Dv)} {i : Nat} (h : f ρ = some (.al i, ρ1)) (e : ρ1[i]? = some (.ow (.dtn ds))) : cpM f ρ = some (.ow (.dtn ds), ρ1.set i .no) := by
  unfold cpM
  rw [h]
  simp [e]
/-! two operands -/
theorem bin_g {g : Dv → Dv → Option Rz} {z : Rz} (ha : pkM fa ρ = some (r1, ρ1)) (hb : pkM fb ρ1 = some (r2, ρ2)) (h1 : dat ρ2 r1 = some a) (h2 : dat ρ2 r2 = some b) (hg : g a b = some z) : binS g fa fb ρ = some (z.rv, ρ2) := by
  unfold binS
  rw [ha]
  simp only [Option.bind_some]
  rw [hb]
  simp only [Option.bind_some]
  rw [h1]
  simp only [Option.bind_some]
  rw [h2]
  simp only [Option.bind_some]
  rw [hg]
  rfl
theorem bin_s {g : Dv → Dv → Option Rz} (ha : fa ρ = some (.sh a, ρ1)) (hb : fb ρ1 = some (.sh b, ρ2)) (hg : g a b = some (.sh z)) : binS g fa fb ρ = some (.sh z, ρ2) := bin_g (pk_s ha) (pk_s hb) rfl rfl hg
theorem bin_gs {g : Dv → Dv → Option Rz} (ha : pkM fa ρ = some (r1, ρ1)) (hb : pkM fb ρ1 = some (r2, ρ2)) (h1 : dat ρ2 r1 = some a) (h2 : dat ρ2 r2 = some b) (hg : g a b = some (.sh z)) : binS g fa fb ρ = some (.sh z, ρ2) := bin_g ha hb h1 h2 hg
theorem bin_go {g : Dv → Dv → Option Rz} (ha : pkM fa ρ = some (r1, ρ1)) (hb : pkM fb ρ1 = some (r2, ρ2)) (h1 : dat ρ2 r1 = some a) (h2 : dat ρ2 r2 = some b) (hg : g a b = some (.ow o)) : binS g fa fb ρ = some (.ow o, ρ2) := bin_g ha hb h1 h2 hg
theorem un_gs {g : Dv → Option Rz} (ha : fa ρ = some (r1, ρ1)) (h1 : dat ρ1 r1 = some a) (hg : g a = some (.sh z)) : unS g fa ρ = some (.sh z, ρ1) := by
  unfold unS
  rw [ha]
  simp only [Option.bind_some]
  rw [h1]
  simp only [Option.bind_some]
  rw [hg]
  rfl
theorem un_go {g : Dv → Option Rz} (ha : fa ρ = some (r1, ρ1)) (h1 : dat ρ1 r1 = some a) (hg : g a = some (.ow o)) : unS g fa ρ = some (.ow o, ρ1) := by
  unfold unS
  rw [ha]
  simp only [Option.bind_some]
  rw [h1]
  simp only [Option.bind_some]
  rw [hg]
  rfl
/-! arguments -/
theorem an_ (ρ : Rho) : aNil ρ = some ([], ρ) := rfl
theorem ac_ {g : MA} {rs : List Rv} (ha : f ρ = some (r, ρ1)) (hb : g ρ1 = some (rs, ρ2)) : aCons f g ρ = some (r :: rs, ρ2) := by
  unfold aCons
  rw [ha]
  simp only [Option.bind_some]
  rw [hb]
  rfl
theorem call_s {g : List Dv → Option Rz} {ga : MA} {rs : List Rv} {ds : List Dv} (h1 : ga ρ = some (rs, ρ1)) (h2 : dats ρ1 rs = some ds) (h3 : g ds = some (.sh z)) : eCall g ga ρ = some (.sh z, ρ1) := by
  unfold eCall
  rw [h1]
  simp only [Option.bind_some]
  rw [h2]
  simp only [Option.bind_some]
  rw [h3]
  rfl
theorem call_o {g : List Dv → Option Rz} {ga : MA} {rs : List Rv} {ds : List Dv} (h1 : ga ρ = some (rs, ρ1)) (h2 : dats ρ1 rs = some ds) (h3 : g ds = some (.ow o)) : eCall g ga ρ = some (.ow o, ρ1) := by
  unfold eCall
  rw [h1]
  simp only [Option.bind_some]
  rw [h2]
  simp only [Option.bind_some]
  rw [h3]
  rfl
theorem fn_s {F : FnS} {ga : MA} {rs : List Rv} {as as' : List Sl} (h1 : ga ρ = some (rs, ρ1)) (h2 : toSls ρ1 rs = some as) (h3 : alsOk rs = true) (h4 : F as = some (.sh z, as')) (h5 : wback ρ1 rs as' = ρ2) : eFn F ga ρ = some (.sh z, ρ2) := by
  unfold eFn
  rw [h1]
  simp only [Option.bind_some]
  rw [h2]
  simp only [Option.bind_some]
  rw [if_pos h3, h4, ← h5]
  rfl
theorem fn_o {F : FnS} {ga : MA} {rs : List Rv} {as as' : List Sl} (h1 : ga ρ = some (rs, ρ1)) (h2 : toSls ρ1 rs = some as) (h3 : alsOk rs = true) (h4 : F as = some (.ow o, as')) (h5 : wback ρ1 rs as' = ρ2) : eFn F ga ρ = some (.ow o, ρ2) := by
  unfold eFn
  rw [h1]
  simp only [Option.bind_some]
  rw [h2]
  simp only [Option.bind_some]
  rw [if_pos h3, h4, ← h5]
  rfl
theorem tup_ {g : MA} {rs : List Rv} {ds : List Dv} (h : g ρ = some (rs, ρ1)) (e : shs rs = some ds) (hl : ds.length ≤ sizeLine) : eTup g ρ = some (.sh (.tuple ds), ρ1) := by
  unfold eTup
  rw [h]
  simp only [Option.bind_some]
  rw [e]
  simp only [Option.bind_some]
  rw [if_pos hl]
theorem lst_ {g : MA} {rs : List Rv} {ds : List Dv} (h : g ρ = some (rs, ρ1)) (e : shs rs = some ds) (hl : ds.length ≤ sizeLine) : eLst g ρ = some (.ow (.lst ds), ρ1) := by
  unfold eLst
  rw [h]
  simp only [Option.bind_some]
  rw [e]
  simp only [Option.bind_some]
  rw [if_pos hl]
theorem few {α : Type} {ds : List α} (h : ds.length ≤ 100000 := by simp) : ds.length ≤ sizeLine := Nat.le_trans h szl_big
/-! tests -/
variable {t u : MB} {k k' : Bool}
theorem tb_ (h : f ρ = some (.sh (.bool k), ρ1)) : tB f ρ = some (k, ρ1) := by
  unfold tB
  rw [h]
  rfl
theorem tv_ (h : pkM f ρ = some (r, ρ1)) (h1 : dat ρ1 r = some d) (h2 : truD d = some k) : tV f ρ = some (k, ρ1) := by
  unfold tV
  rw [h]
  simp only [Option.bind_some]
  rw [h1]
  simp only [Option.bind_some]
  rw [h2]
  rfl
theorem tno_ (h : t ρ = some (k, ρ1)) : tNo t ρ = some (!k, ρ1) := by
  unfold tNo
  rw [h]
  rfl
theorem tan_ (h : t ρ = some (k, ρ)) (h2 : u ρ = some (k', ρ)) : tAn t u ρ = some (k && k', ρ) := by
  unfold tAn
  rw [h]
  cases k
  · rfl
  · exact h2
theorem tor_ (h : t ρ = some (k, ρ)) (h2 : u ρ = some (k', ρ)) : tOr' t u ρ = some (k || k', ρ) := by
  unfold tOr'
  rw [h]
  cases k
  · exact h2
  · rfl
theorem tan_t (h : t ρ = some (k, ρ1)) (e : k = true) (h2 : u ρ1 = some (k', ρ2)) : tAn t u ρ = some (k', ρ2) := by
  subst e
  unfold tAn
  rw [h]
  exact h2
theorem tan_f (h : t ρ = some (k, ρ1)) (e : k = false) : tAn t u ρ = some (false, ρ1) := by
  subst e
  unfold tAn
  rw [h]
  rfl
theorem tor_f (h : t ρ = some (k, ρ1)) (e : k = false) (h2 : u ρ1 = some (k', ρ2)) : tOr' t u ρ = some (k', ρ2) := by
  subst e
  unfold tOr'
  rw [h]
  exact h2
theorem tor_t (h : t ρ = some (k, ρ1)) (e : k = true) : tOr' t u ρ = some (true, ρ1) := by
  subst e
  unfold tOr'
  rw [h]
  rfl
theorem eif_t (h : t ρ = some (k, ρ1)) (e : k = true) (h2 : fa ρ1 = some (r, ρ2)) : eIf t fa fb ρ = some (r, ρ2) := by
  subst e
  unfold eIf
  rw [h]
  exact h2
theorem eif_f (h : t ρ = some (k, ρ1)) (e : k = false) (h2 : fb ρ1 = some (r, ρ2)) : eIf t fa fb ρ = some (r, ρ2) := by
  subst e
  unfold eIf
  rw [h]
  exact h2
theorem eif_ {x y : Dv} (h : t ρ = some (k, ρ)) (h1 : fa ρ = some (.sh x, ρ)) (h2 : fb ρ = some (.sh y, ρ)) : eIf t fa fb ρ = some (.sh (if k = true then x else y), ρ) := by
  cases k
  · exact eif_f h rfl h2
  · exact eif_t h rfl h1
theorem enot_ (h : pkM f ρ = some (r, ρ1)) (h1 : dat ρ1 r = some d) (h2 : truD d = some k) : eNot f ρ = some (.sh (.bool (!k)), ρ1) := by
  unfold eNot
  rw [tv_ h h1 h2]
  rfl
theorem eand_t (h : pkM fa ρ = some (r1, ρ1)) (h1 : dat ρ1 r1 = some d) (h2 : truD d = some k) (e : k = true) (h3 : fb ρ1 = some (r, ρ2)) : eAnd fa fb ρ = some (r, ρ2) := by
  subst e
  unfold eAnd
  rw [h]
  simp only [Option.bind_some]
  rw [h1]
  simp only [Option.bind_some]
  rw [h2]
  exact h3
theorem eand_f (h : pkM fa ρ = some (r1, ρ1)) (h1 : dat ρ1 r1 = some d) (h2 : truD d = some k) (e : k = false) : eAnd fa fb ρ = some (r1, ρ1) := by
  subst e
  unfold eAnd
  rw [h]
  simp only [Option.bind_some]
  rw [h1]
  simp only [Option.bind_some]
  rw [h2]
  rfl
theorem eor_f (h : pkM fa ρ = some (r1, ρ1)) (h1 : dat ρ1 r1 = some d) (h2 : truD d = some k) (e : k = false) (h3 : fb ρ1 = some (r, ρ2)) : eOr fa fb ρ = some (r, ρ2) := by
  subst e
  unfold eOr
  rw [h]
  simp only [Option.bind_some]
  rw [h1]
  simp only [Option.bind_some]
  rw [h2]
  exact h3
theorem eor_t (h : pkM fa ρ = some (r1, ρ1)) (h1 : dat ρ1 r1 = some d) (h2 : truD d = some k) (e : k = true) : eOr fa fb ρ = some (r1, ρ1) := by
  subst e
  unfold eOr
  rw [h]
  simp only [Option.bind_some]
  rw [h1]
  simp only [Option.bind_some]
  rw [h2]
  rfl
theorem eand_b {x y : Bool} (h : fa ρ = some (.sh (.bool x), ρ)) (h3 : fb ρ = some (.sh (.bool y), ρ)) : eAnd fa fb ρ = some (.sh (.bool (x && y)), ρ) := by
  cases x
  · exact eand_f (pk_s h) rfl rfl rfl
  · exact eand_t (pk_s h) rfl rfl rfl h3
theorem eor_b {x y : Bool} (h : fa ρ = some (.sh (.bool x), ρ)) (h3 : fb ρ = some (.sh (.bool y), ρ)) : eOr fa fb ρ = some (.sh (.bool (x || y)), ρ) := by
  cases x
  · exact eor_f (pk_s h) rfl rfl rfl h3
  · exact eor_t (pk_s h) rfl rfl rfl
/-! statements -/
theorem set_s {i : Nat} (h : f ρ = some (.sh d, ρ1)) : sSet i f ρ = some (.nx (ρ1.set i (.sh d))) := by
  unfold sSet
  rw [h]
  rfl
theorem set_o {i : Nat} (h : f ρ = some (.ow o, ρ1)) : sSet i f ρ = some (.nx (ρ1.set i (.ow o))) := by
  unfold sSet
  rw [h]
  rfl
theorem asg_ {m : MT} (h : frM f ρ = some (.sh d, ρ1)) (h2 : m d ρ1 = some ρ2) : sAsg f m ρ = some (.nx ρ2) := by
  unfold sAsg
  rw [h]
  simp only [Option.bind_some]
  rw [h2]
  rfl
theorem expr_ (h : f ρ = some (r, ρ1)) : sExpr f ρ = some (.nx ρ1) := by
  unfold sExpr
  rw [h]
  rfl
theorem par_ {i j : Nat} {ga : MA} (h : ga ρ = some ([r1, r2], ρ1)) (h1 : setR ρ1 i r1 = some ρ2) (h2 : setR ρ2 j r2 = some ρ3) : sPar i j ga ρ = some (.nx ρ3) := by
  unfold sPar
  rw [h]
  simp only [Option.bind_some]
  rw [h1]
  simp only [Option.bind_some]
  rw [h2]
  rfl
theorem par3_ {i j l : Nat} {ga : MA} (h : ga ρ = some ([.sh a, .sh b, .sh c], ρ1)) : sPar3 i j l ga ρ = some (.nx (((ρ1.set i (.sh a)).set j (.sh b)).set l (.sh c))) := by
  unfold sPar3
  rw [h]
  rfl
theorem aug_ {i : Nat} {g : Dv → Dv → Option Rz} (h0 : ρ[i]? = some (.sh a)) (h : pkM f ρ = some (r, ρ1)) (h1 : dat ρ1 r = some b) (h2 : g a b = some (.sh z)) : sAug i g f ρ = some (.nx (ρ1.set i (.sh z))) := by
  unfold sAug
  rw [h0]
  simp only [h, Option.bind_some, h1, h2]
/-! o[k] op= v -/
theorem augS_ {g : Dv → Dv → Option Rz} {fo fi fe : M} {j : Nat} {ri re : Rv} {k d0 d1 : Dv} {ob ob' : Ob} (ho : fo ρ = some (.al j, ρ)) (hi : pkM fi ρ = some (ri, ρ)) (hk : dat ρ ri = some k) (hkk : isKey k = true) (hj : ρ[j]? = some (.ow ob)) (hg : getOb ob k = some d0)
    (he : pkM fe ρ = some (re, ρ1)) (h1 : dat ρ1 re = some d1) (h2 : g d0 d1 = some (.sh d)) (hj1 : ρ1[j]? = some (.ow ob)) (h3 : setOb ob k d = some ob') : sAugS g fo fi fe ρ = some (.nx (ρ1.set j (.ow ob'))) := by
  unfold sAugS
  rw [ho]
  simp only [Option.bind_some]
  rw [hi]
  simp only [Option.bind_some]
  rw [hk]
  simp only [Option.bind_some]
  rw [if_pos hkk, hj]
  simp only
  rw [hg]
  simp only [Option.bind_some]
  rw [he]
  simp only [Option.bind_some]
  rw [h1]
  simp only [Option.bind_some]
  rw [h2]
  simp only [Option.bind_some]
  rw [hj1]
  simp only
  rw [h3]
  rfl
/-! o[k] = v, as a target -/
theorem tsub_ {fo fi : M} {j : Nat} {ri : Rv} {k : Dv} {ob ob' : Ob} (ho : fo ρ = some (.al j, ρ)) (hi : pkM fi ρ = some (ri, ρ1)) (hk : dat ρ1 ri = some k) (hj : ρ1[j]? = some (.ow ob)) (h3 : setOb ob k d = some ob') : tSub fo fi d ρ = some (ρ1.set j (.ow ob')) := by
  unfold tSub
  rw [ho]
  simp only [Option.bind_some]
  rw [hi]
  simp only [Option.bind_some]
  rw [hk]
  simp only [Option.bind_some]
  rw [hj]
  simp only
  rw [h3]
  rfl
theorem app_ {fo : M} {ga : MA} {j : Nat} {xs : List Dv} (ho : fo ρ = some (.al j, ρ)) (hi : isOb "list" ρ[j]? = true) (ha : ga ρ = some ([.sh d], ρ1)) (hj : ρ1[j]? = some (.ow (.lst xs))) (hl : xs.length < sizeLine) : mutM "list" appG fo ga ρ = some (.sh .none, ρ1.set j (.ow (.lst (xs ++ [d])))) := by
  unfold mutM
  rw [ho]
  simp only [Option.bind_some]
  rw [if_pos hi, ha]
  simp only [Option.bind_some, shs, Option.map_some]
  rw [hj]
  simp only [appG]
  rw [if_pos hl]
  rfl
end
end DL

set_option Elab.async false
set_option linter.all false
set_option autoImplicit false
set_option maxRecDepth 100000
set_option maxHeartbeats 1000000
namespace DL
open PySem PySem.Spec PyProof.Rows L2
section
variable {α β γ σ τ r : Type}
/-! ### loops and comprehensions of typed functions -/
inductive Fo (σ r : Type) where
  | nx (s : σ) | bk (s : σ) | rt (x : r)
def mapO (f : α → Option β) : List α → Option (List β)
  | [] => some []
  | x :: xs => (f x).bind fun y => (mapO f xs).bind fun ys => some (y :: ys)
def lcO (f : α → Option (Option β)) : List α → Option (List β)
  | [] => some []
  | x :: xs => (f x).bind fun y => (lcO f xs).bind fun ys => some (match y with | none => ys | some y => y :: ys)
def lcwO (f : α → σ → Option (Option β × σ)) : List α → σ → Option (List β × σ)
  | [], s => some ([], s)
  | x :: xs, s => (f x s).bind fun y => (lcwO f xs y.2).bind fun ys => some (match y.1 with | none => ys | some y => (y :: ys.1, ys.2))
def catO (f : α → Option (List β)) : List α → Option (List β)
  | [] => some []
  | x :: xs => (f x).bind fun y => (catO f xs).bind fun ys => some (y ++ ys)
def szO (x : Option (List β)) : Option (List β) := x.bind fun ys => if ys.length ≤ sizeLine then some ys else none
def szwO (x : Option (List β × σ)) : Option (List β × σ) := x.bind fun ys => if ys.1.length ≤ sizeLine then some ys else none
def foldO (f : α → σ → Option σ) : List α → σ → Option σ
  | [], s => some s
  | x :: xs, s => (f x s).bind fun s1 => foldO f xs s1
def forO (f : α → σ → Option (Fo σ r)) : List α → σ → Option (Fo σ r)
  | [], s => some (.nx s)
  | x :: xs, s => (f x s).bind fun o => match o with
    | .nx s1 => forO f xs s1
    | .bk s1 => some (.nx s1)
    | .rt y => some (.rt y)
def forB (f : α → σ → Option (Fo σ r)) (xs : List α) (s : σ) (k : σ → Option τ) (kr : r → Option τ) : Option τ := (forO f xs s).bind fun o => match o with
  | .nx s => k s
  | .bk s => k s
  | .rt x => kr x
def whileO (c : σ → Option Bool) (f : σ → Option (Fo σ r)) : Nat → σ → Option (Fo σ r)
  | 0, _ => none
  | n + 1, s => (c s).bind fun b => if b = true then (f s).bind fun o => (match o with
    | .nx s1 => whileO c f n s1
    | .bk s1 => some (.nx s1)
    | .rt y => some (.rt y)) else some (.nx s)
def whileB (c : σ → Option Bool) (f : σ → Option (Fo σ r)) (n : Nat) (s : σ) (k : σ → Option τ) (kr : r → Option τ) : Option τ := (whileO c f n s).bind fun o => match o with
  | .nx s => k s
  | .bk s => k s
  | .rt x => kr x
theorem forO_nb {f : α → σ → Option (Fo σ r)} {s' : σ} : ∀ {xs : List α} {s : σ}, forO f xs s ≠ some (.bk s')
  | [], s => by simp [forO]
  | x :: xs, s => by
    unfold forO
    intro h
    obtain ⟨o, h1, h⟩ := bnd h
    cases o with
    | nx s1 => exact forO_nb h
    | bk s1 => cases h
    | rt y => cases h
/-! their readings -/
/-- what a loop's body ends with -/
def Pb (R : σ → Rho → Prop) (Qr : r → Fl → Prop) : Fo σ r → Fl → Prop
  | .nx s, fl => ∃ ρ, (fl = .nx ρ ∨ fl = .ct ρ) ∧ R s ρ
  | .bk s, fl => ∃ ρ, fl = .bk ρ ∧ R s ρ
  | .rt x, fl => ∃ rv ρ, fl = .rt rv ρ ∧ Qr x fl
theorem forS_o {t : MT} {b : MS} {e : α → Dv} {R : σ → Rho → Prop} {Qr : r → Fl → Prop} {f : α → σ → Option (Fo σ r)} : ∀ {xs : List α} {s : σ} {o : Fo σ r} {ρ : Rho},
    (∀ x s o ρ, x ∈ xs → R s ρ → f x s = some o → ∃ ρ2, t (e x) ρ = some ρ2 ∧ Wp (b ρ2) (Pb R Qr o)) → R s ρ → forO f xs s = some o →
    ∃ fl, forS t b (xs.map e) ρ = some fl ∧ (match o with | .nx s' => ∃ ρ', fl = .nx ρ' ∧ R s' ρ' | .bk _ => False | .rt x => ∃ rv ρ', fl = .rt rv ρ' ∧ Qr x fl)
  | [], s, o, ρ, _, h0, h => by
    simp only [forO, Option.some.injEq] at h
    subst h
    exact ⟨_, rfl, ρ, rfl, h0⟩
  | x :: xs, s, o, ρ, hb, h0, h => by
    unfold forO at h
    obtain ⟨o1, h1, h⟩ := bnd h
    obtain ⟨ρ2, e1, fl, e2, q⟩ := hb x s o1 ρ (List.mem_cons_self ..) h0 h1
    have hb' := fun y s o ρ (hy : y ∈ xs) => hb y s o ρ (List.mem_cons_of_mem _ hy)
    rw [List.map_cons]
    unfold forS
    rw [e1]
    simp only [Option.bind_some]
    rw [e2]
    cases o1 with
    | nx s1 =>
      obtain ⟨ρ3, rfl | rfl, hR⟩ := q
      · exact forS_o hb' hR h
      · exact forS_o hb' hR h
    | bk s1 =>
      obtain ⟨ρ3, rfl, hR⟩ := q
      cases h
      exact ⟨_, rfl, ρ3, rfl, hR⟩
    | rt y =>
      obtain ⟨rv, ρ3, rfl, hQ⟩ := q
      cases h
      exact ⟨_, rfl, rv, ρ3, rfl, hQ⟩
theorem wp_for {fi : ML} {t : MT} {b : MS} {xs : List α} {e : α → Dv} {R : σ → Rho → Prop} {Qr : r → Fl → Prop} {f : α → σ → Option (Fo σ r)} {s0 : σ} {k : σ → Option τ} {kr : r → Option τ} {v : τ} {ρ ρ1 : Rho} {Q : Fl → Prop}
    (hi : fi ρ = some (xs.map e, ρ1)) (h0 : R s0 ρ1) (hb : ∀ x s o ρ, x ∈ xs → R s ρ → f x s = some o → ∃ ρ2, t (e x) ρ = some ρ2 ∧ Wp (b ρ2) (Pb R Qr o)) (h : forB f xs s0 k kr = some v)
    (k1 : ∀ s ρ', R s ρ' → k s = some v → Q (.nx ρ')) (k2 : ∀ x rv ρ', kr x = some v → Qr x (.rt rv ρ') → Q (.rt rv ρ')) : Wp (sFor fi t b ρ) Q := by
  unfold forB at h
  obtain ⟨o, h1, h⟩ := bnd h
  obtain ⟨fl, e1, q⟩ := forS_o hb h0 h1
  unfold sFor
  rw [hi]
  refine ⟨fl, e1, ?_⟩
  cases o with
  | nx s =>
    obtain ⟨ρ', rfl, hR⟩ := q
    exact k1 s ρ' hR h
  | bk s => exact False.elim q
  | rt x =>
    obtain ⟨rv, ρ', rfl, hQ⟩ := q
    exact k2 x rv ρ' h hQ
theorem forS_f {t : MT} {b : MS} {e : α → Dv} {R : σ → Rho → Prop} {f : α → σ → Option σ} : ∀ {xs : List α} {s v : σ} {ρ : Rho},
    (∀ x s s' ρ, x ∈ xs → R s ρ → f x s = some s' → ∃ ρ2, t (e x) ρ = some ρ2 ∧ Wp (b ρ2) (fun fl => ∃ ρ', (fl = .nx ρ' ∨ fl = .ct ρ') ∧ R s' ρ')) → R s ρ → foldO f xs s = some v →
    ∃ ρ', forS t b (xs.map e) ρ = some (.nx ρ') ∧ R v ρ'
  | [], s, o, ρ, _, h0, h => by
    simp only [foldO, Option.some.injEq] at h
    subst h
    exact ⟨_, rfl, h0⟩
  | x :: xs, s, o, ρ, hb, h0, h => by
    unfold foldO at h
    obtain ⟨o1, h1, h⟩ := bnd h
    obtain ⟨ρ2, e1, fl, e2, ρ3, q, hR⟩ := hb x s o1 ρ (List.mem_cons_self ..) h0 h1
    have hb' := fun y s o ρ (hy : y ∈ xs) => hb y s o ρ (List.mem_cons_of_mem _ hy)
    rw [List.map_cons]
    unfold forS
    rw [e1]
    simp only [Option.bind_some]
    rw [e2]
    rcases q with rfl | rfl
    · exact forS_f hb' hR h
    · exact forS_f hb' hR h
theorem wp_fold {fi : ML} {t : MT} {b : MS} {xs : List α} {e : α → Dv} {R : σ → Rho → Prop} {f : α → σ → Option σ} {s0 : σ} {k : σ → Option τ} {v : τ} {ρ ρ1 : Rho} {Q : Fl → Prop}
    (hi : fi ρ = some (xs.map e, ρ1)) (h0 : R s0 ρ1) (hb : ∀ x s s' ρ, x ∈ xs → R s ρ → f x s = some s' → ∃ ρ2, t (e x) ρ = some ρ2 ∧ Wp (b ρ2) (fun fl => ∃ ρ', (fl = .nx ρ' ∨ fl = .ct ρ') ∧ R s' ρ')) (h : (foldO f xs s0).bind k = some v)
    (k1 : ∀ s ρ', R s ρ' → k s = some v → Q (.nx ρ')) : Wp (sFor fi t b ρ) Q := by
  obtain ⟨o, h1, h⟩ := bnd h
  obtain ⟨ρ', e1, q⟩ := forS_f hb h0 h1
  unfold sFor
  rw [hi]
  exact ⟨_, e1, k1 o ρ' q h⟩
theorem whileS_o {c : MB} {b : MS} {R : σ → Rho → Prop} {Qr : r → Fl → Prop} {cT : σ → Option Bool} {f : σ → Option (Fo σ r)} (hc : ∀ s ρ k, R s ρ → cT s = some k → ∃ ρ', c ρ = some (k, ρ') ∧ R s ρ')
    (hb : ∀ s o ρ, R s ρ → cT s = some true → f s = some o → Wp (b ρ) (Pb R Qr o)) : ∀ {n : Nat} {s : σ} {o : Fo σ r} {ρ : Rho}, R s ρ → whileO cT f n s = some o →
    ∃ fl, whileS c b n ρ = some fl ∧ (match o with | .nx s' => ∃ ρ', fl = .nx ρ' ∧ R s' ρ' | .bk _ => False | .rt x => ∃ rv ρ', fl = .rt rv ρ' ∧ Qr x fl)
  | 0, s, o, ρ, _, h => by cases h
  | n + 1, s, o, ρ, h0, h => by
    unfold whileO at h
    obtain ⟨k, h1, h⟩ := bnd h
    obtain ⟨ρ1, e1, R1⟩ := hc s ρ k h0 h1
    unfold whileS
    rw [e1]
    simp only [Option.bind_some]
    cases k with
    | false =>
      cases h
      exact ⟨_, rfl, ρ1, rfl, R1⟩
    | true =>
      simp only [if_true] at h ⊢
      obtain ⟨o1, h2, h⟩ := bnd h
      obtain ⟨fl, e2, q⟩ := hb s o1 ρ1 R1 h1 h2
      rw [e2]
      cases o1 with
      | nx s1 =>
        obtain ⟨ρ3, rfl | rfl, hR⟩ := q
        · exact whileS_o hc hb hR h
        · exact whileS_o hc hb hR h
      | bk s1 =>
        obtain ⟨ρ3, rfl, hR⟩ := q
        cases h
        exact ⟨_, rfl, ρ3, rfl, hR⟩
      | rt y =>
        obtain ⟨rv, ρ3, rfl, hQ⟩ := q
        cases h
        exact ⟨_, rfl, rv, ρ3, rfl, hQ⟩
theorem wp_while {c : MB} {b : MS} {R : σ → Rho → Prop} {Qr : r → Fl → Prop} {cT : σ → Option Bool} {f : σ → Option (Fo σ r)} {n : Nat} {s0 : σ} {k : σ → Option τ} {kr : r → Option τ} {v : τ} {ρ : Rho} {Q : Fl → Prop}
    (h0 : R s0 ρ) (hc : ∀ s ρ k, R s ρ → cT s = some k → ∃ ρ', c ρ = some (k, ρ') ∧ R s ρ') (hb : ∀ s o ρ, R s ρ → cT s = some true → f s = some o → Wp (b ρ) (Pb R Qr o)) (h : whileB cT f n s0 k kr = some v)
    (k1 : ∀ s ρ', R s ρ' → k s = some v → Q (.nx ρ')) (k2 : ∀ x rv ρ', kr x = some v → Qr x (.rt rv ρ') → Q (.rt rv ρ')) : Wp (whileS c b n ρ) Q := by
  unfold whileB at h
  obtain ⟨o, h1, h⟩ := bnd h
  obtain ⟨fl, e1, q⟩ := whileS_o hc hb h0 h1
  refine ⟨fl, e1, ?_⟩
  cases o with
  | nx s =>
    obtain ⟨ρ', rfl, hR⟩ := q
    exact k1 s ρ' hR h
  | bk s => exact False.elim q
  | rt x =>
    obtain ⟨rv, ρ', rfl, hQ⟩ := q
    exact k2 x rv ρ' h hQ
theorem wp_join {g : MS} {R : σ → Rho → Prop} {x : Option σ} {k : σ → Option τ} {v : τ} {ρ : Rho} {Q : Fl → Prop} (a : ∀ s, x = some s → Wp (g ρ) (fun fl => ∃ ρ', fl = .nx ρ' ∧ R s ρ')) (h : x.bind k = some v) (k1 : ∀ s ρ', R s ρ' → k s = some v → Q (.nx ρ')) : Wp (g ρ) Q := by
  obtain ⟨s, h1, h⟩ := bnd h
  exact wp_mono (a s h1) fun fl ⟨ρ', e, hR⟩ => e ▸ k1 s ρ' hR h
/-! comprehensions -/
theorem putB_wipe {own : List Nat} {ρ ρ1 B : Rho} (h : wipeR ρ own = wipeR B own) (h2 : own.map (fun i => B[i]?) = own.map (fun i => ρ1[i]?)) : putB ρ ρ1 own = B := by
  have hl : ρ.length = B.length := by rw [← wipeR_length ρ own, h, wipeR_length]
  refine List.ext_getElem? fun j => ?_
  by_cases hj : j ∈ own
  · have e : B[j]? = ρ1[j]? := by
      have : ∀ (l : List Nat), l.map (fun i => B[i]?) = l.map (fun i => ρ1[i]?) → j ∈ l → B[j]? = ρ1[j]? := by
        intro l
        induction l with
        | nil => intro _ h; cases h
        | cons i l ih =>
          intro e h
          rw [List.map_cons, List.map_cons, List.cons.injEq] at e
          rcases List.mem_cons.mp h with rfl | h
          · exact e.1
          · exact ih e.2 h
      exact this own h2 hj
    rw [e]
    have : ∀ (l : List Nat), j ∈ l → (ρ1[j]? ≠ none → (putB ρ ρ1 l)[j]? = ρ1[j]? ∨ ρ.length ≤ j) := by
      intro l
      induction l with
      | nil => intro h; cases h
      | cons i l ih =>
        intro hm hn
        unfold putB
        by_cases hi : i = j
        · subst hi
          cases e2 : ρ1[i]? with
          | none => exact absurd e2 hn
          | some s =>
            simp only
            by_cases hlt : i < ρ.length
            · left
              rw [List.getElem?_set_self (by rw [putB_length]; exact hlt)]
            · right; omega
        · have hm' : j ∈ l := by
            rcases List.mem_cons.mp hm with h | h
            · exact absurd h.symm hi
            · exact h
          have := ih hm' hn
          split
          · rw [List.getElem?_set_ne hi]; exact this
          · exact this
    by_cases hn : ρ1[j]? = none
    · rw [hn] at e
      rw [hn]
      have : B.length ≤ j := by simpa using e
      rw [List.getElem?_eq_none]
      rw [putB_length]; omega
    · rcases this own hj hn with h | h
      · exact h
      · have : B[j]? = none := by rw [List.getElem?_eq_none]; omega
        rw [e] at this
        exact absurd this hn
  · rw [putB_out hj]
    have e1 := wipeR_out (ρ := ρ) hj
    have e2 := wipeR_out (ρ := B) hj
    rw [← e1, h, e2]
theorem lcS_o {own : List Nat} {t : MT} {c : MB} {fe : M} {e : α → Dv} {e' : β → Dv} {f : α → Option (Option β)} {W : Rho} : ∀ {xs : List α} {ys : List β} {acc : List Dv} {ρ : Rho},
    (∀ x r, x ∈ xs → f x = some r → ∃ ρ2, t (e x) W = some ρ2 ∧ (match r with
      | none => ∃ ρ3, c ρ2 = some (false, ρ3) ∧ wipeR ρ3 own = W
      | some y => ∃ ρ3 ρ4, c ρ2 = some (true, ρ3) ∧ frM fe ρ3 = some (.sh (e' y), ρ4) ∧ wipeR ρ4 own = W)) →
    wipeR ρ own = W → lcO f xs = some ys → acc.length + ys.length ≤ sizeLine → ∃ ρ', lcS own t c fe (xs.map e) acc ρ = some (acc ++ ys.map e', ρ') ∧ wipeR ρ' own = W
  | [], ys, acc, ρ, _, hw, h, _ => by
    simp only [lcO, Option.some.injEq] at h
    subst h
    exact ⟨ρ, by simp [lcS], hw⟩
  | x :: xs, ys, acc, ρ, hb, hw, h, hl => by
    unfold lcO at h
    obtain ⟨y, h1, h⟩ := bnd h
    obtain ⟨zs, h2, h⟩ := bnd h
    obtain ⟨ρ2, e1, q⟩ := hb x y (List.mem_cons_self ..) h1
    have hb' := fun y r (hy : y ∈ xs) => hb y r (List.mem_cons_of_mem _ hy)
    rw [List.map_cons]
    unfold lcS
    rw [hw, e1]
    simp only [Option.bind_some]
    cases y with
    | none =>
      obtain ⟨ρ3, e2, w2⟩ := q
      cases h
      rw [e2]
      exact lcS_o hb' w2 h2 hl
    | some y =>
      obtain ⟨ρ3, ρ4, e2, e3, w2⟩ := q
      cases h
      rw [List.length_cons] at hl
      rw [e2]
      simp only [Option.bind_some, if_true]
      rw [e3]
      simp only [Option.bind_some]
      rw [if_pos (by omega)]
      obtain ⟨ρ', e4, w4⟩ := lcS_o (acc := acc ++ [e' y]) hb' w2 h2 (by simp; omega)
      exact ⟨ρ', by rw [e4]; simp, w4⟩
theorem szO_inv {x : Option (List β)} {ys : List β} (h : szO x = some ys) : x = some ys ∧ ys.length ≤ sizeLine := by
  unfold szO at h
  obtain ⟨zs, h1, h⟩ := bnd h
  split at h
  · cases h; exact ⟨h1, by assumption⟩
  · cases h
theorem lc_ {own : List Nat} {fi : ML} {t : MT} {c : MB} {fe : M} {e : α → Dv} {e' : β → Dv} {f : α → Option (Option β)} {W : Rho} {xs : List α} {ys : List β} {ρ ρ1 : Rho} (hi : fi ρ = some (xs.map e, ρ1)) (hn : noOw ρ1 own = true) (hw : wipeR ρ1 own = W)
    (hb : ∀ x r, x ∈ xs → f x = some r → ∃ ρ2, t (e x) W = some ρ2 ∧ (match r with
      | none => ∃ ρ3, c ρ2 = some (false, ρ3) ∧ wipeR ρ3 own = W
      | some y => ∃ ρ3 ρ4, c ρ2 = some (true, ρ3) ∧ frM fe ρ3 = some (.sh (e' y), ρ4) ∧ wipeR ρ4 own = W))
    (h : szO (lcO f xs) = some ys) : eLc own fi t c fe ρ = some (.ow (.lst (ys.map e')), ρ1) := by
  obtain ⟨h1, h2⟩ := szO_inv h
  obtain ⟨ρ', e1, w⟩ := lcS_o (acc := []) (ρ := ρ1) hb hw h1 (by simpa using h2)
  unfold eLc
  rw [hi]
  simp only [Option.bind_some]
  rw [if_pos hn, e1]
  simp only [Option.bind_some, List.nil_append]
  rw [putB_wipe (B := ρ1) (w.trans hw.symm) rfl]
theorem mapO_lc {f : α → Option β} : ∀ {xs : List α} {ys : List β}, mapO f xs = some ys → lcO (fun x => (f x).map some) xs = some ys
  | [], _, h => h
  | x :: xs, ys, h => by
    unfold mapO at h
    obtain ⟨y, h1, h⟩ := bnd h
    obtain ⟨zs, h2, h⟩ := bnd h
    unfold lcO
    rw [h1, mapO_lc h2]
    exact h
/-- without a condition -/
theorem lm_ {own : List Nat} {fi : ML} {t : MT} {fe : M} {e : α → Dv} {e' : β → Dv} {f : α → Option β} {W : Rho} {xs : List α} {ys : List β} {ρ ρ1 : Rho} (hi : fi ρ = some (xs.map e, ρ1)) (hn : noOw ρ1 own = true) (hw : wipeR ρ1 own = W)
    (hb : ∀ x y, x ∈ xs → f x = some y → ∃ ρ2 ρ4, t (e x) W = some ρ2 ∧ frM fe ρ2 = some (.sh (e' y), ρ4) ∧ wipeR ρ4 own = W)
    (h : szO (mapO f xs) = some ys) : eLc own fi t cYes fe ρ = some (.ow (.lst (ys.map e')), ρ1) := by
  obtain ⟨h1, h2⟩ := szO_inv h
  refine lc_ (f := fun x => (f x).map some) hi hn hw (fun x r hx hr => ?_) (show szO (lcO _ xs) = some ys by unfold szO; rw [mapO_lc h1]; exact if_pos h2)
  obtain ⟨y, hy, rfl⟩ := Option.map_eq_some_iff.mp hr
  obtain ⟨ρ2, ρ4, a, b, c⟩ := hb x y hx hy
  exact ⟨ρ2, a, ρ2, ρ4, rfl, b, c⟩
/-! with a state -/
theorem lcS_w {own : List Nat} {t : MT} {c : MB} {fe : M} {e : α → Dv} {e' : β → Dv} {f : α → σ → Option (Option β × σ)} {W : σ → Rho} : ∀ {xs : List α} {ys : List β} {s s' : σ} {acc : List Dv} {ρ : Rho},
    (∀ x s r, x ∈ xs → f x s = some r → ∃ ρ2, t (e x) (W s) = some ρ2 ∧ (match r.1 with
      | none => ∃ ρ3, c ρ2 = some (false, ρ3) ∧ wipeR ρ3 own = W r.2
      | some y => ∃ ρ3 ρ4, c ρ2 = some (true, ρ3) ∧ frM fe ρ3 = some (.sh (e' y), ρ4) ∧ wipeR ρ4 own = W r.2)) →
    wipeR ρ own = W s → lcwO f xs s = some (ys, s') → acc.length + ys.length ≤ sizeLine → ∃ ρ', lcS own t c fe (xs.map e) acc ρ = some (acc ++ ys.map e', ρ') ∧ wipeR ρ' own = W s'
  | [], ys, s, s', acc, ρ, _, hw, h, _ => by
    simp only [lcwO, Option.some.injEq, Prod.mk.injEq] at h
    obtain ⟨rfl, rfl⟩ := h
    exact ⟨ρ, by simp [lcS], hw⟩
  | x :: xs, ys, s, s', acc, ρ, hb, hw, h, hl => by
    unfold lcwO at h
    obtain ⟨⟨y, s1⟩, h1, h⟩ := bnd h
    obtain ⟨⟨zs, s2⟩, h2, h⟩ := bnd h
    obtain ⟨ρ2, e1, q⟩ := hb x s _ (List.mem_cons_self ..) h1
    have hb' := fun y s r (hy : y ∈ xs) => hb y s r (List.mem_cons_of_mem _ hy)
    rw [List.map_cons]
    unfold lcS
    rw [hw, e1]
    simp only [Option.bind_some]
    cases y with
    | none =>
      obtain ⟨ρ3, e2, w2⟩ := q
      cases h
      rw [e2]
      exact lcS_w hb' w2 h2 hl
    | some y =>
      obtain ⟨ρ3, ρ4, e2, e3, w2⟩ := q
      cases h
      have hl : acc.length + (zs.length + 1) ≤ sizeLine := hl
      rw [e2]
      simp only [Option.bind_some, if_true]
      rw [e3]
      simp only [Option.bind_some]
      rw [if_pos (by omega)]
      obtain ⟨ρ', e4, w4⟩ := lcS_w (acc := acc ++ [e' y]) hb' w2 h2 (by simp; omega)
      exact ⟨ρ', by rw [e4]; simp, w4⟩
theorem lcw_ {own : List Nat} {fi : ML} {t : MT} {c : MB} {fe : M} {e : α → Dv} {e' : β → Dv} {f : α → σ → Option (Option β × σ)} {W : σ → Rho} {B : σ → Rho} {xs : List α} {ys : List β} {s s' : σ} {ρ ρ1 : Rho} (hi : fi ρ = some (xs.map e, ρ1)) (hn : noOw ρ1 own = true) (hw : wipeR ρ1 own = W s)
    (hb : ∀ x s r, x ∈ xs → f x s = some r → ∃ ρ2, t (e x) (W s) = some ρ2 ∧ (match r.1 with
      | none => ∃ ρ3, c ρ2 = some (false, ρ3) ∧ wipeR ρ3 own = W r.2
      | some y => ∃ ρ3 ρ4, c ρ2 = some (true, ρ3) ∧ frM fe ρ3 = some (.sh (e' y), ρ4) ∧ wipeR ρ4 own = W r.2))
    (hB1 : ∀ s, W s = wipeR (B s) own) (hB2 : ∀ s, own.map (fun i => (B s)[i]?) = own.map (fun i => ρ1[i]?))
    (h : szwO (lcwO f xs s) = some (ys, s')) : eLc own fi t c fe ρ = some (.ow (.lst (ys.map e')), B s') := by
  unfold szwO at h
  obtain ⟨⟨zs, s2⟩, h1, h⟩ := bnd h
  simp only at h
  split at h
  rotate_left
  · cases h
  rename_i h2
  cases h
  obtain ⟨ρ', e1, w⟩ := lcS_w (acc := []) (ρ := ρ1) hb hw h1 (by simpa using h2)
  unfold eLc
  rw [hi]
  simp only [Option.bind_some]
  rw [if_pos hn, e1]
  simp only [Option.bind_some, List.nil_append]
  rw [putB_wipe (B := B s') (w.trans (hB1 s')) (hB2 s')]
/-! two clauses -/
theorem catO_len_le {f : α → Option (List β)} : ∀ {xs : List α} {ys : List β}, catO f xs = some ys → ∀ x ∈ xs, ∃ zs, f x = some zs
  | [], _, _, x, hx => by cases hx
  | x :: xs, ys, h, y, hy => by
    unfold catO at h
    obtain ⟨a, h1, h⟩ := bnd h
    obtain ⟨b, h2, h⟩ := bnd h
    rcases List.mem_cons.mp hy with rfl | hy
    · exact ⟨a, h1⟩
    · exact catO_len_le h2 y hy
theorem lcS2_o {own vs1 : List Nat} {t t1 : MT} {c c1 : MB} {fi1 : ML} {fe : M} {e : α → Dv} {e' : β → Dv} {f : α → Option (List β)} {W : Rho} : ∀ {xs : List α} {ys : List β} {acc : List Dv} {ρ : Rho},
    (∀ x zs acc, x ∈ xs → f x = some zs → acc.length + zs.length ≤ sizeLine → ∃ ρ2, t (e x) W = some ρ2 ∧ ((∃ ρ3, c ρ2 = some (false, ρ3) ∧ zs = [] ∧ wipeR ρ3 own = W) ∨
      ∃ ρ3 ρ4 ρ5 ds, c ρ2 = some (true, ρ3) ∧ fi1 ρ3 = some (ds, ρ4) ∧ lcS vs1 t1 c1 fe ds acc ρ4 = some (acc ++ zs.map e', ρ5) ∧ wipeR ρ5 own = W)) →
    wipeR ρ own = W → catO f xs = some ys → acc.length + ys.length ≤ sizeLine → ∃ ρ', lcS2 own vs1 t c fi1 t1 c1 fe (xs.map e) acc ρ = some (acc ++ ys.map e', ρ') ∧ wipeR ρ' own = W
  | [], ys, acc, ρ, _, hw, h, _ => by
    simp only [catO, Option.some.injEq] at h
    subst h
    exact ⟨ρ, by simp [lcS2], hw⟩
  | x :: xs, ys, acc, ρ, hb, hw, h, hl => by
    unfold catO at h
    obtain ⟨y, h1, h⟩ := bnd h
    obtain ⟨zs, h2, h⟩ := bnd h
    cases h
    rw [List.length_append] at hl
    obtain ⟨ρ2, e1, q⟩ := hb x y acc (List.mem_cons_self ..) h1 (by omega)
    have hb' := fun y zs acc (hy : y ∈ xs) => hb y zs acc (List.mem_cons_of_mem _ hy)
    rw [List.map_cons]
    unfold lcS2
    rw [hw, e1]
    simp only [Option.bind_some]
    rcases q with ⟨ρ3, e2, rfl, w⟩ | ⟨ρ3, ρ4, ρ5, ds, e2, e3, e4, w⟩
    · rw [e2]
      exact lcS2_o hb' w h2 (by simpa using hl)
    · rw [e2]
      simp only [Option.bind_some, if_true]
      rw [e3]
      simp only [Option.bind_some]
      rw [e4]
      simp only [Option.bind_some]
      obtain ⟨ρ', e5, w5⟩ := lcS2_o (acc := acc ++ y.map e') hb' w h2 (by simp; omega)
      exact ⟨ρ', by rw [e5]; simp, w5⟩
def Inn (own vs1 : List Nat) (c : MB) (fi1 : ML) (t1 : MT) (c1 : MB) (fe : M) (e' : β → Dv) (W ρ2 : Rho) (zs : List β) : Prop := ∀ acc : List Dv, acc.length + zs.length ≤ sizeLine → ((∃ ρ3, c ρ2 = some (false, ρ3) ∧ zs = [] ∧ wipeR ρ3 own = W) ∨
      ∃ ρ3 ρ4 ρ5 ds, c ρ2 = some (true, ρ3) ∧ fi1 ρ3 = some (ds, ρ4) ∧ lcS vs1 t1 c1 fe ds acc ρ4 = some (acc ++ zs.map e', ρ5) ∧ wipeR ρ5 own = W)
section
variable {own vs1 : List Nat} {c c1 : MB} {fi fi1 : ML} {t t1 : MT} {fe : M} {e : α → Dv} {e1 : γ → Dv} {e' : β → Dv} {W W1 ρ ρ1 ρ2 ρ3 ρ4 : Rho} {zs : List β} {ys : List γ}
theorem inn_f (hc : c ρ2 = some (false, ρ3)) (hw : wipeR ρ3 own = W) : Inn own vs1 c fi1 t1 c1 fe e' W ρ2 [] := fun _ _ => .inl ⟨ρ3, hc, rfl, hw⟩
theorem inn_t {f : γ → Option (Option β)} (hc : c ρ2 = some (true, ρ3)) (hi : fi1 ρ3 = some (ys.map e1, ρ4)) (hs : ∀ i ∈ vs1, i ∈ own) (hw1 : wipeR ρ4 vs1 = W1) (hw : wipeR W1 own = W) (h : lcO f ys = some zs)
    (hb : ∀ y r, y ∈ ys → f y = some r → ∃ ρ5, t1 (e1 y) W1 = some ρ5 ∧ (match r with
          | none => ∃ ρ6, c1 ρ5 = some (false, ρ6) ∧ wipeR ρ6 vs1 = W1
          | some z => ∃ ρ6 ρ7, c1 ρ5 = some (true, ρ6) ∧ frM fe ρ6 = some (.sh (e' z), ρ7) ∧ wipeR ρ7 vs1 = W1)) : Inn own vs1 c fi1 t1 c1 fe e' W ρ2 zs := fun acc hl => by
  obtain ⟨ρ5, c1', c2'⟩ := lcS_o (own := vs1) (acc := acc) (ρ := ρ4) (W := W1) (e' := e') hb hw1 h hl
  refine .inr ⟨ρ3, ρ4, ρ5, _, hc, hi, c1', ?_⟩
  rw [← hw, ← c2', wipeR_sub _ hs]
theorem inn_m {f : γ → Option β} (hc : c ρ2 = some (true, ρ3)) (hi : fi1 ρ3 = some (ys.map e1, ρ4)) (hs : ∀ i ∈ vs1, i ∈ own) (hw1 : wipeR ρ4 vs1 = W1) (hw : wipeR W1 own = W) (h : mapO f ys = some zs)
    (hb : ∀ y z, y ∈ ys → f y = some z → ∃ ρ5 ρ7, t1 (e1 y) W1 = some ρ5 ∧ frM fe ρ5 = some (.sh (e' z), ρ7) ∧ wipeR ρ7 vs1 = W1) : Inn own vs1 c fi1 t1 cYes fe e' W ρ2 zs :=
  inn_t (f := fun x => (f x).map some) hc hi hs hw1 hw (mapO_lc h) fun y r hy hr => by
    obtain ⟨z, hz, rfl⟩ := Option.map_eq_some_iff.mp hr
    obtain ⟨ρ5, ρ7, a, b, d⟩ := hb y z hy hz
    exact ⟨ρ5, a, ρ5, ρ7, rfl, b, d⟩
theorem lc2_ {xs : List α} {F : α → Option (List β)} (hi : fi ρ = some (xs.map e, ρ1)) (hn : noOw ρ1 own = true) (hw : wipeR ρ1 own = W)
    (hb : ∀ x zs, x ∈ xs → F x = some zs → ∃ ρ2, t (e x) W = some ρ2 ∧ Inn own vs1 c fi1 t1 c1 fe e' W ρ2 zs)
    (h : szO (catO F xs) = some zs) : eLc2 own vs1 fi t c fi1 t1 c1 fe ρ = some (.ow (.lst (zs.map e')), ρ1) := by
  obtain ⟨h1, h2⟩ := szO_inv h
  obtain ⟨ρ', e0, w⟩ := lcS2_o (own := own) (vs1 := vs1) (t := t) (t1 := t1) (c := c) (c1 := c1) (fi1 := fi1) (fe := fe) (e := e) (e' := e') (f := F) (W := W) (acc := []) (ρ := ρ1) (fun x zs acc hx hz hl => by
    obtain ⟨ρ2, a1, a2⟩ := hb x zs hx hz
    exact ⟨ρ2, a1, a2 acc hl⟩) hw h1 (by simpa using h2)
  unfold eLc2
  rw [hi]
  simp only [Option.bind_some]
  rw [if_pos hn, e0]
  simp only [Option.bind_some, List.nil_append]
  rw [putB_wipe (B := ρ1) (w.trans hw.symm) rfl]
end
end
end DL

set_option Elab.async false
set_option linter.all false
set_option autoImplicit false
set_option maxRecDepth 100000
set_option maxHeartbeats 1000000
namespace DL
open PySem PySem.Spec PyProof.Rows L2
/-! ### data of types: equal, less -/
class EqE {α : Type} (e : α → Dv) where
  eq : α → α → Bool
  dep : Nat
  lay : ∀ a, (e a).canLay0 = true
  hd : ∀ a, (e a).depth ≤ dep
  eqv : ∀ a b, PyData.eqv (e a) (e b) = eq a b
  iff : ∀ a b, eq a b = true ↔ a = b
def eqE {α : Type} (e : α → Dv) [EqE e] (a b : α) : Bool := EqE.eq e a b
class OrdE {α : Type} (e : α → Dv) extends EqE e where
  lt : α → α → Bool
  alike : ∀ a b, PySem.W.alike (e a) (e b) = true
  notNone : ∀ a, e a ≠ .none
  ltEq : ∀ a b, PySem.W.dataLt (e a) (e b) = lt a b
  ok : α → Bool
  kind : (∀ a, noTup (e a) = true) ∨ (∀ a, ok a = true → isTup (e a) = true)
  tot : ∀ a b, lt a b = false → lt b a = false → a = b
def ltE {α : Type} (e : α → Dv) [OrdE e] (a b : α) : Bool := OrdE.lt e a b
section
variable {α β γ δ : Type} {e : α → Dv} {ea : α → Dv} {eb : β → Dv} {ecc : γ → Dv} {ed : δ → Dv}
theorem eqE_iff [EqE e] {a b : α} : eqE e a b = true ↔ a = b := EqE.iff a b
theorem eqE_self [EqE e] (a : α) : eqE e a a = true := eqE_iff.mpr rfl
theorem eqE_ne [EqE e] {a b : α} : eqE e a b = false ↔ a ≠ b := by
  rw [← Bool.not_eq_true, eqE_iff]
theorem layAll [EqE e] : ∀ xs : List α, PyData.canLayAll0 (xs.map e) = true
  | [] => rfl
  | x :: xs => by
    rw [List.map_cons, PyData.canLayAll0, EqE.lay x, layAll xs]
    rfl
theorem depAll [EqE e] : ∀ xs : List α, PyData.depthAll (xs.map e) ≤ EqE.dep e
  | [] => by simp [PyData.depthAll]
  | x :: xs => by
    have := depAll xs
    have := EqE.hd (e := e) x
    simp only [List.map_cons, PyData.depthAll]
    omega
def eqLs (f : α → α → Bool) : List α → List α → Bool
  | [], [] => true
  | x :: xs, y :: ys => f x y && eqLs f xs ys
  | _, _ => false
theorem eqvAll_ls [EqE e] : ∀ xs ys : List α, PyData.eqvAll (xs.map e) (ys.map e) = eqLs (EqE.eq e) xs ys
  | [], [] => rfl
  | [], _ :: _ => rfl
  | _ :: _, [] => rfl
  | x :: xs, y :: ys => by
    rw [List.map_cons, List.map_cons, PyData.eqvAll, EqE.eqv, eqvAll_ls xs ys]
    rfl
theorem eqLs_iff [EqE e] : ∀ xs ys : List α, eqLs (EqE.eq e) xs ys = true ↔ xs = ys
  | [], [] => by simp [eqLs]
  | [], _ :: _ => by simp [eqLs]
  | _ :: _, [] => by simp [eqLs]
  | x :: xs, y :: ys => by simp [eqLs, EqE.iff, eqLs_iff xs ys]
instance : EqE eI where
  eq a b := decide (a = b)
  dep := 0
  lay _ := rfl
  hd a := by simp [eI, PyData.depth]
  eqv a b := by
    show (a == b) = _
    exact Bool.eq_iff_iff.mpr (by simp)
  iff a b := by simp
instance : EqE eB where
  eq a b := a == b
  dep := 0
  lay _ := rfl
  hd a := by simp [eB, PyData.depth]
  eqv a b := rfl
  iff a b := by simp
instance : EqE eN where
  eq _ _ := true
  dep := 0
  lay _ := rfl
  hd a := by simp [eN, PyData.depth]
  eqv a b := rfl
  iff a b := by simp
instance [EqE e] : EqE (eT e) where
  eq := eqLs (EqE.eq e)
  dep := EqE.dep e + 1
  lay xs := layAll xs
  hd xs := by
    have := depAll (e := e) xs
    simp only [eT, PyData.depth]
    omega
  eqv xs ys := by
    show PyData.eqvAll _ _ = _
    exact eqvAll_ls xs ys
  iff := eqLs_iff
instance [EqE e] : EqE (eL e) where
  eq := eqLs (EqE.eq e)
  dep := EqE.dep e + 1
  lay xs := layAll xs
  hd xs := by
    have := depAll (e := e) xs
    simp only [eL, PyData.depth]
    omega
  eqv xs ys := by
    show PyData.eqvAll _ _ = _
    exact eqvAll_ls xs ys
  iff := eqLs_iff
instance [EqE ea] [EqE eb] : EqE (e2 ea eb) where
  eq x y := EqE.eq ea x.1 y.1 && EqE.eq eb x.2 y.2
  dep := max (EqE.dep ea) (EqE.dep eb) + 1
  lay x := by
    show PyData.canLayAll0 [ea x.1, eb x.2] = true
    simp [PyData.canLayAll0, EqE.lay]
  hd x := by
    have := EqE.hd (e := ea) x.1
    have := EqE.hd (e := eb) x.2
    simp only [e2, PyData.depth, PyData.depthAll]
    omega
  eqv x y := by
    show PyData.eqvAll _ _ = _
    simp [PyData.eqvAll, EqE.eqv]
  iff x y := by
    obtain ⟨x1, x2⟩ := x
    obtain ⟨y1, y2⟩ := y
    simp [EqE.iff]
instance [EqE ea] [EqE eb] [EqE ecc] : EqE (e3 ea eb ecc) where
  eq x y := EqE.eq ea x.1 y.1 && (EqE.eq eb x.2.1 y.2.1 && EqE.eq ecc x.2.2 y.2.2)
  dep := max (EqE.dep ea) (max (EqE.dep eb) (EqE.dep ecc)) + 1
  lay x := by
    show PyData.canLayAll0 [_, _, _] = true
    simp [PyData.canLayAll0, EqE.lay]
  hd x := by
    have := EqE.hd (e := ea) x.1
    have := EqE.hd (e := eb) x.2.1
    have := EqE.hd (e := ecc) x.2.2
    simp only [e3, PyData.depth, PyData.depthAll]
    omega
  eqv x y := by
    show PyData.eqvAll _ _ = _
    simp [PyData.eqvAll, EqE.eqv]
  iff x y := by
    obtain ⟨x1, x2, x3⟩ := x
    obtain ⟨y1, y2, y3⟩ := y
    simp [EqE.iff]
instance [EqE ea] [EqE eb] [EqE ecc] [EqE ed] : EqE (e4 ea eb ecc ed) where
  eq x y := EqE.eq ea x.1 y.1 && (EqE.eq eb x.2.1 y.2.1 && (EqE.eq ecc x.2.2.1 y.2.2.1 && EqE.eq ed x.2.2.2 y.2.2.2))
  dep := max (EqE.dep ea) (max (EqE.dep eb) (max (EqE.dep ecc) (EqE.dep ed))) + 1
  lay x := by
    show PyData.canLayAll0 [_, _, _, _] = true
    simp [PyData.canLayAll0, EqE.lay]
  hd x := by
    have := EqE.hd (e := ea) x.1
    have := EqE.hd (e := eb) x.2.1
    have := EqE.hd (e := ecc) x.2.2.1
    have := EqE.hd (e := ed) x.2.2.2
    simp only [e4, PyData.depth, PyData.depthAll]
    omega
  eqv x y := by
    show PyData.eqvAll _ _ = _
    simp [PyData.eqvAll, EqE.eqv]
  iff x y := by
    obtain ⟨x1, x2, x3, x4⟩ := x
    obtain ⟨y1, y2, y3, y4⟩ := y
    simp [EqE.iff]
theorem shaped_e [EqE e] (h : EqE.dep e ≤ 64) (a : α) : SeqAt.shaped (e a) = true := by
  unfold SeqAt.shaped
  rw [EqE.lay a, decide_eq_true (Nat.le_trans (EqE.hd a) h)]
  rfl
theorem eqD_e [EqE e] (h : EqE.dep e ≤ 64) (a b : α) : eqD (e a) (e b) = some (eqE e a b) := by
  have h1 := shaped_e h a
  have h2 := shaped_e h b
  have h3 := EqE.eqv (e := e) a b
  unfold eqD
  split
  · rename_i i j e1 e2
    rw [e1, e2] at h3
    refine congrArg some ?_
    unfold eqE
    rw [← h3]
    exact Bool.eq_iff_iff.mpr (by simp [PyData.eqv])
  · rename_i i j e1 e2
    rw [e1, e2] at h3
    refine congrArg some ?_
    unfold eqE
    rw [← h3]
    exact Bool.eq_iff_iff.mpr (by simp [PyData.eqv])
  · rw [if_pos ⟨h1, h2⟩, h3]
    rfl
theorem eq_e [EqE e] (a b : α) (h : EqE.dep e ≤ 64 := by decide) : eqqD (e a) (e b) = some (.sh (.bool (eqE e a b))) := by
  unfold eqqD
  rw [eqD_e h]
  rfl
theorem ne_e [EqE e] (a b : α) (h : EqE.dep e ≤ 64 := by decide) : neqD (e a) (e b) = some (.sh (.bool (!eqE e a b))) := by
  unfold neqD
  rw [eqD_e h]
  rfl
/-! option -/
instance [OrdE e] : EqE (eO e) where
  eq x y := match x, y with
    | none, none => true
    | some a, some b => EqE.eq e a b
    | _, _ => false
  dep := EqE.dep e
  lay x := by
    cases x with
    | none => rfl
    | some a => exact EqE.lay a
  hd x := by
    cases x with
    | none => simp [eO, PyData.depth]
    | some a => exact EqE.hd a
  eqv x y := by
    cases x with
    | none =>
      cases y with
      | none => rfl
      | some b =>
        have := OrdE.notNone (e := e) b
        show PyData.eqv .none (e b) = false
        cases h : e b <;> first | exact absurd h this | rfl
    | some a =>
      cases y with
      | none =>
        have := OrdE.notNone (e := e) a
        show PyData.eqv (e a) .none = false
        cases h : e a <;> first | exact absurd h this | rfl
      | some b => exact EqE.eqv a b
  iff x y := by
    cases x <;> cases y <;> simp [EqE.iff]
theorem isN_e [OrdE e] (x : Option α) : isNone (eO e x) = x.isNone := by
  cases x with
  | none => rfl
  | some a =>
    have := OrdE.notNone (e := e) a
    show isNone (e a) = false
    cases h : e a <;> first | exact absurd h this | rfl
theorem isnd_e [OrdE e] (x : Option α) : isND (eO e x) .none = some (.sh (.bool x.isNone)) := by
  show some (Rz.sh (.bool (isNone (eO e x)))) = _
  rw [isN_e]
theorem notnd_e [OrdE e] (x : Option α) : notND (eO e x) .none = some (.sh (.bool (!x.isNone))) := by
  show some (Rz.sh (.bool (!isNone (eO e x)))) = _
  rw [isN_e]
theorem isnd_s [OrdE e] (x : α) : isND (e x) .none = some (.sh (.bool false)) := isnd_e (some x)
theorem notnd_s [OrdE e] (x : α) : notND (e x) .none = some (.sh (.bool true)) := notnd_e (some x)
theorem isnd_a (x : Dv) : isND x .none = some (.sh (.bool (isNone x))) := rfl
theorem notnd_a (x : Dv) : notND x .none = some (.sh (.bool (!isNone x))) := rfl
/-! in -/
theorem any_e [EqE e] (xs : List α) (a : α) : (xs.map e).any (fun z => PyData.eqv z (e a)) = xs.any fun z => eqE e z a := by
  rw [List.any_map]
  congr 1
  funext z
  exact EqE.eqv z a
theorem shapedL_e [EqE e] (h : EqE.dep e + 1 ≤ 64) (xs : List α) : SeqAt.shaped (.list (xs.map e)) = true := by
  unfold SeqAt.shaped
  have := depAll (e := e) xs
  rw [show (PyData.list (xs.map e)).canLay0 = true from layAll xs, decide_eq_true (by simp only [PyData.depth]; omega)]
  rfl
theorem shapedT_e [EqE e] (h : EqE.dep e + 1 ≤ 64) (xs : List α) : SeqAt.shaped (.tuple (xs.map e)) = true := by
  unfold SeqAt.shaped
  have := depAll (e := e) xs
  rw [show (PyData.tuple (xs.map e)).canLay0 = true from layAll xs, decide_eq_true (by simp only [PyData.depth]; omega)]
  rfl
def inE {α : Type} (e : α → Dv) [EqE e] (a : α) (xs : List α) : Bool := xs.any fun z => eqE e z a
theorem inE_iff [EqE e] {a : α} {xs : List α} : inE e a xs = true ↔ a ∈ xs := by
  unfold inE
  rw [List.any_eq_true]
  constructor
  · rintro ⟨z, hz, h⟩
    rw [eqE_iff.mp h] at hz
    exact hz
  · exact fun h => ⟨a, h, eqE_self a⟩
theorem inl_e [EqE e] (a : α) (xs : List α) (h : EqE.dep e + 1 ≤ 64 := by decide) : inAD (e a) (.list (xs.map e)) = some (.sh (.bool (inE e a xs))) := by
  unfold inAD inA inSeq
  simp only
  rw [if_pos ⟨shaped_e (by omega) a, shapedL_e h xs⟩, any_e]
  rfl
theorem int_e [EqE e] (a : α) (xs : List α) (h : EqE.dep e + 1 ≤ 64 := by decide) : inAD (e a) (.tuple (xs.map e)) = some (.sh (.bool (inE e a xs))) := by
  unfold inAD inA inSeq
  simp only
  rw [if_pos ⟨shaped_e (by omega) a, shapedT_e h xs⟩, any_e]
  rfl
theorem ninl_e [EqE e] (a : α) (xs : List α) (h : EqE.dep e + 1 ≤ 64 := by decide) : ninAD (e a) (.list (xs.map e)) = some (.sh (.bool (!inE e a xs))) := by
  unfold ninAD inA inSeq
  simp only
  rw [if_pos ⟨shaped_e (by omega) a, shapedL_e h xs⟩, any_e]
  rfl
theorem nint_e [EqE e] (a : α) (xs : List α) (h : EqE.dep e + 1 ≤ 64 := by decide) : ninAD (e a) (.tuple (xs.map e)) = some (.sh (.bool (!inE e a xs))) := by
  unfold ninAD inA inSeq
  simp only
  rw [if_pos ⟨shaped_e (by omega) a, shapedT_e h xs⟩, any_e]
  rfl
/-! less -/
def lsLt (q f : α → α → Bool) : List α → List α → Bool
  | [], [] => false
  | [], _ :: _ => true
  | _ :: _, [] => false
  | x :: xs, y :: ys => if q x y = true then lsLt q f xs ys else f x y
theorem alikeAll_e [OrdE e] : ∀ xs ys : List α, PySem.W.alikeAll (xs.map e) (ys.map e) = true
  | [], _ => by rw [List.map_nil, PySem.W.alikeAll]
  | _ :: _, [] => by rw [List.map_nil, List.map_cons, PySem.W.alikeAll]
  | x :: xs, y :: ys => by
    rw [List.map_cons, List.map_cons, PySem.W.alikeAll, OrdE.alike x y, alikeAll_e xs ys]
    rfl
theorem lexAll_e [OrdE e] : ∀ xs ys : List α, PyProof.Rows.lexLt itemOrd (PySem.W.keyToksAll (xs.map e)) (PySem.W.keyToksAll (ys.map e)) = lsLt (EqE.eq e) (OrdE.lt e) xs ys
  | [], [] => lex_irrefl _
  | [], y :: ys => by
    rw [List.map_nil, List.map_cons, PySem.W.toks_all_cons]
    simp only [PySem.W.keyToksAll]
    rw [lex_diff (O := itemOrd) (by simp)]
    rfl
  | x :: xs, [] => by
    rw [List.map_nil, List.map_cons, PySem.W.toks_all_cons]
    simp only [PySem.W.keyToksAll]
    rw [lex_diff (O := itemOrd) (by simp)]
    rfl
  | x :: xs, y :: ys => by
    rw [List.map_cons, List.map_cons, lsLt]
    by_cases h : EqE.eq e x y = true
    · rw [if_pos h, PySem.W.dataLt_all_yes (OrdE.alike x y) (by rw [EqE.eqv]; exact h), lexAll_e xs ys]
    · rw [if_neg h, PySem.W.dataLt_all_no (OrdE.alike x y) (by rw [EqE.eqv]; simpa using h)]
      exact OrdE.ltEq x y
instance : OrdE eI where
  lt a b := decide (a < b)
  alike a b := by show PySem.W.alike (.int a) (.int b) = true; simp only [PySem.W.alike]
  notNone a := fun h => by cases h
  ltEq a b := PySem.W.dataLt_int a b
  ok _ := true
  kind := .inl fun a => rfl
  tot a b h1 h2 := by
    simp at h1 h2
    omega
instance : OrdE eB where
  lt a b := !a && b
  alike a b := by show PySem.W.alike (.bool a) (.bool b) = true; simp only [PySem.W.alike]
  notNone a := fun h => by cases h
  ltEq a b := by
    refine (PySem.W.dataLt_bool a b).trans ?_
    cases a <;> cases b <;> rfl
  ok _ := true
  kind := .inl fun a => rfl
  tot a b h1 h2 := by cases a <;> cases b <;> simp_all
theorem ls_tot [OrdE e] : ∀ xs ys : List α, lsLt (EqE.eq e) (OrdE.lt e) xs ys = false → lsLt (EqE.eq e) (OrdE.lt e) ys xs = false → xs = ys
  | [], [], _, _ => rfl
  | [], _ :: _, h, _ => by cases h
  | _ :: _, [], _, h => by cases h
  | x :: xs, y :: ys, h1, h2 => by
    unfold lsLt at h1 h2
    by_cases h : x = y
    · subst h
      rw [if_pos ((EqE.iff x x).mpr rfl)] at h1 h2
      rw [ls_tot xs ys h1 h2]
    · rw [if_neg (fun z => h ((EqE.iff _ _).mp z))] at h1
      rw [if_neg (fun z => h ((EqE.iff _ _).mp z).symm)] at h2
      exact absurd (OrdE.tot x y h1 h2) h
instance [OrdE e] : OrdE (eT e) where
  lt := lsLt (EqE.eq e) (OrdE.lt e)
  alike xs ys := by show PySem.W.alike (.tuple _) (.tuple _) = true; simp only [PySem.W.alike]; exact alikeAll_e xs ys
  notNone a := fun h => by cases h
  ltEq xs ys := (PySem.W.dataLt_tuple _ _).trans (lexAll_e xs ys)
  ok xs := !xs.isEmpty
  kind := .inr fun xs h => by cases xs with
    | nil => cases h
    | cons x xs => rfl
  tot := ls_tot
instance [OrdE e] : OrdE (eL e) where
  lt := lsLt (EqE.eq e) (OrdE.lt e)
  alike xs ys := by show PySem.W.alike (.list _) (.list _) = true; simp only [PySem.W.alike]; exact alikeAll_e xs ys
  notNone a := fun h => by cases h
  ltEq xs ys := (PySem.W.dataLt_list _ _).trans (lexAll_e xs ys)
  ok _ := true
  kind := .inl fun a => rfl
  tot := ls_tot
theorem lt_pair {x y x' y' : Dv} {xs ys : List Dv} (h : PySem.W.alike x x' = true) : PyProof.Rows.lexLt itemOrd (PySem.W.keyToksAll (x :: xs)) (PySem.W.keyToksAll (x' :: ys)) = if PyData.eqv x x' = true then PyProof.Rows.lexLt itemOrd (PySem.W.keyToksAll xs) (PySem.W.keyToksAll ys) else PySem.W.dataLt x x' := PySem.W.dataLt_cons h xs ys
theorem lex_nil : PyProof.Rows.lexLt itemOrd (PySem.W.keyToksAll []) (PySem.W.keyToksAll []) = false := lex_irrefl _
theorem or_tot [OrdE e] {a b : α} {f g : Bool} (h1 : (if EqE.eq e a b = true then f else OrdE.lt e a b) = false) (h2 : (if EqE.eq e b a = true then g else OrdE.lt e b a) = false) : a = b ∧ f = false ∧ g = false := by
  by_cases h : a = b
  · subst h
    rw [if_pos ((EqE.iff a a).mpr rfl)] at h1 h2
    exact ⟨rfl, h1, h2⟩
  · rw [if_neg (fun z => h ((EqE.iff _ _).mp z))] at h1
    rw [if_neg (fun z => h ((EqE.iff _ _).mp z).symm)] at h2
    exact absurd (OrdE.tot a b h1 h2) h
theorem lt_irr [OrdE e] (a : α) : OrdE.lt e a a = false := by
  rw [← OrdE.ltEq]
  exact lex_irrefl _
theorem lt_last [OrdE e] (a b : α) : (if EqE.eq e a b = true then false else OrdE.lt e a b) = OrdE.lt e a b := by
  split
  · rename_i h
    rw [(EqE.iff a b).mp h, lt_irr]
  · rfl
instance [OrdE ea] [OrdE eb] : OrdE (e2 ea eb) where
  lt x y := if EqE.eq ea x.1 y.1 = true then OrdE.lt eb x.2 y.2 else OrdE.lt ea x.1 y.1
  alike x y := by
    show PySem.W.alike (.tuple _) (.tuple _) = true
    simp [PySem.W.alike, PySem.W.alikeAll, OrdE.alike]
  notNone a := fun h => by cases h
  ltEq x y := by
    refine (PySem.W.dataLt_tuple _ _).trans ?_
    rw [PySem.W.dataLt_cons (OrdE.alike x.1 y.1), PySem.W.dataLt_cons (OrdE.alike x.2 y.2), lex_nil, EqE.eqv, EqE.eqv, OrdE.ltEq, OrdE.ltEq, lt_last]
  ok _ := true
  kind := .inr fun _ _ => rfl
  tot x y h1 h2 := by
    obtain ⟨x1, x2⟩ := x
    obtain ⟨y1, y2⟩ := y
    obtain ⟨rfl, h3, h4⟩ := or_tot h1 h2
    obtain rfl := OrdE.tot _ _ h3 h4
    rfl
instance [OrdE ea] [OrdE eb] [OrdE ecc] : OrdE (e3 ea eb ecc) where
  lt x y := if EqE.eq ea x.1 y.1 = true then (if EqE.eq eb x.2.1 y.2.1 = true then OrdE.lt ecc x.2.2 y.2.2 else OrdE.lt eb x.2.1 y.2.1) else OrdE.lt ea x.1 y.1
  alike x y := by
    show PySem.W.alike (.tuple _) (.tuple _) = true
    simp [PySem.W.alike, PySem.W.alikeAll, OrdE.alike]
  notNone a := fun h => by cases h
  ltEq x y := by
    refine (PySem.W.dataLt_tuple _ _).trans ?_
    rw [PySem.W.dataLt_cons (OrdE.alike x.1 y.1), PySem.W.dataLt_cons (OrdE.alike x.2.1 y.2.1), PySem.W.dataLt_cons (OrdE.alike x.2.2 y.2.2), lex_nil, EqE.eqv, EqE.eqv, EqE.eqv, OrdE.ltEq, OrdE.ltEq, OrdE.ltEq, lt_last]
  ok _ := true
  kind := .inr fun _ _ => rfl
  tot x y h1 h2 := by
    obtain ⟨x1, x2, x3⟩ := x
    obtain ⟨y1, y2, y3⟩ := y
    obtain ⟨rfl, h3, h4⟩ := or_tot h1 h2
    obtain ⟨rfl, h5, h6⟩ := or_tot h3 h4
    obtain rfl := OrdE.tot _ _ h5 h6
    rfl
instance [OrdE ea] [OrdE eb] [OrdE ecc] [OrdE ed] : OrdE (e4 ea eb ecc ed) where
  lt x y := if EqE.eq ea x.1 y.1 = true then (if EqE.eq eb x.2.1 y.2.1 = true then (if EqE.eq ecc x.2.2.1 y.2.2.1 = true then OrdE.lt ed x.2.2.2 y.2.2.2 else OrdE.lt ecc x.2.2.1 y.2.2.1) else OrdE.lt eb x.2.1 y.2.1) else OrdE.lt ea x.1 y.1
  alike x y := by
    show PySem.W.alike (.tuple _) (.tuple _) = true
    simp [PySem.W.alike, PySem.W.alikeAll, OrdE.alike]
  notNone a := fun h => by cases h
  ltEq x y := by
    refine (PySem.W.dataLt_tuple _ _).trans ?_
    rw [PySem.W.dataLt_cons (OrdE.alike x.1 y.1), PySem.W.dataLt_cons (OrdE.alike x.2.1 y.2.1), PySem.W.dataLt_cons (OrdE.alike x.2.2.1 y.2.2.1), PySem.W.dataLt_cons (OrdE.alike x.2.2.2 y.2.2.2), lex_nil, EqE.eqv, EqE.eqv, EqE.eqv, EqE.eqv, OrdE.ltEq, OrdE.ltEq, OrdE.ltEq, OrdE.ltEq, lt_last]
  ok _ := true
  kind := .inr fun _ _ => rfl
  tot x y h1 h2 := by
    obtain ⟨x1, x2, x3, x4⟩ := x
    obtain ⟨y1, y2, y3, y4⟩ := y
    obtain ⟨rfl, h3, h4⟩ := or_tot h1 h2
    obtain ⟨rfl, h5, h6⟩ := or_tot h3 h4
    obtain ⟨rfl, h7, h8⟩ := or_tot h5 h6
    obtain rfl := OrdE.tot _ _ h7 h8
    rfl
/-! min, max -/
def minE {α : Type} (e : α → Dv) [OrdE e] (x : α) (xs : List α) : α := xs.foldl (fun a y => if ltE e y a = true then y else a) x
def maxE {α : Type} (e : α → Dv) [OrdE e] (x : α) (xs : List α) : α := xs.foldl (fun a y => if ltE e a y = true then y else a) x
def minO {α : Type} (e : α → Dv) [OrdE e] : List α → Option α
  | [] => none
  | x :: xs => some (minE e x xs)
def maxO {α : Type} (e : α → Dv) [OrdE e] : List α → Option α
  | [] => none
  | x :: xs => some (maxE e x xs)
theorem minD_e [OrdE e] (x : α) : ∀ xs : List α, PySem.W.minD (e x) (xs.map e) = e (minE e x xs) := fun xs => by
  unfold PySem.W.minD minE
  induction xs generalizing x with
  | nil => rfl
  | cons y ys ih =>
    rw [List.map_cons, List.foldl_cons, List.foldl_cons, ← ih]
    (try dsimp only)
    rw [OrdE.ltEq y x]
    unfold ltE
    cases OrdE.lt e y x <;> rfl
theorem maxD_e [OrdE e] (x : α) : ∀ xs : List α, PySem.W.maxD (e x) (xs.map e) = e (maxE e x xs) := fun xs => by
  unfold PySem.W.maxD maxE
  induction xs generalizing x with
  | nil => rfl
  | cons y ys ih =>
    rw [List.map_cons, List.foldl_cons, List.foldl_cons, ← ih]
    (try dsimp only)
    rw [OrdE.ltEq x y]
    unfold ltE
    cases OrdE.lt e x y <;> rfl
theorem notN [OrdE e] (x : α) : isNone (e x) = false := by
  have := OrdE.notNone (e := e) x
  cases h : e x <;> first | exact absurd h this | rfl
theorem okAl_e [OrdE e] (xs : List α) (h : EqE.dep e ≤ 64) : okAl (xs.map e) = true := by
  unfold okAl
  simp only [Bool.and_eq_true, List.all_eq_true, decide_eq_true_eq, List.mem_map]
  refine ⟨⟨?_, ?_⟩, Nat.le_trans (depAll xs) h⟩
  · rintro _ ⟨a, _, rfl⟩ _ ⟨b, _, rfl⟩
    exact OrdE.alike a b
  · rintro _ ⟨a, _, rfl⟩
    rw [notN]
    rfl
theorem minL_e [OrdE e] {xs : List α} {v : α} (h : minO e xs = some v) (hd : EqE.dep e ≤ 64 := by decide) : minG [.list (xs.map e)] = some (.sh (e v)) := by
  cases xs with
  | nil => cases h
  | cons x xs =>
    cases h
    show (if okAl (List.map e (x :: xs)) = true then _ else _) = _
    rw [if_pos (okAl_e _ hd), minD_e]
theorem minT_e [OrdE e] {xs : List α} {v : α} (h : minO e xs = some v) (hd : EqE.dep e ≤ 64 := by decide) : minG [.tuple (xs.map e)] = some (.sh (e v)) := by
  cases xs with
  | nil => cases h
  | cons x xs =>
    cases h
    show (if okAl (List.map e (x :: xs)) = true then _ else _) = _
    rw [if_pos (okAl_e _ hd), minD_e]
theorem maxL_e [OrdE e] {xs : List α} {v : α} (h : maxO e xs = some v) (hd : EqE.dep e ≤ 64 := by decide) : maxG [.list (xs.map e)] = some (.sh (e v)) := by
  cases xs with
  | nil => cases h
  | cons x xs =>
    cases h
    show (if okAl (List.map e (x :: xs)) = true then _ else _) = _
    rw [if_pos (okAl_e _ hd), maxD_e]
theorem maxT_e [OrdE e] {xs : List α} {v : α} (h : maxO e xs = some v) (hd : EqE.dep e ≤ 64 := by decide) : maxG [.tuple (xs.map e)] = some (.sh (e v)) := by
  cases xs with
  | nil => cases h
  | cons x xs =>
    cases h
    show (if okAl (List.map e (x :: xs)) = true then _ else _) = _
    rw [if_pos (okAl_e _ hd), maxD_e]
/-! sorted -/
def insE (lt : α → α → Bool) (x : α) : List α → List α
  | [] => [x]
  | y :: ys => if lt y x = true then y :: insE lt x ys else x :: y :: ys
def isort (lt : α → α → Bool) : List α → List α
  | [] => []
  | x :: xs => insE lt x (isort lt xs)
theorem ins_perm (lt : α → α → Bool) (x : α) : ∀ ys : List α, List.Perm (insE lt x ys) (x :: ys)
  | [] => .refl _
  | y :: ys => by
    unfold insE
    split
    · exact ((ins_perm lt x ys).cons y).trans (List.Perm.swap x y ys)
    · exact .refl _
theorem isort_perm (lt : α → α → Bool) : ∀ xs : List α, List.Perm (isort lt xs) xs
  | [] => .refl _
  | x :: xs => (ins_perm lt x _).trans ((isort_perm lt xs).cons x)
theorem lt_tr [OrdE e] {a b c : α} (h1 : OrdE.lt e b a = false) (h2 : OrdE.lt e c b = false) : OrdE.lt e c a = false := by
  rw [← OrdE.ltEq] at h1 h2 ⊢
  exact KeyOrd.kle_trans (O := listOrd itemOrd) h1 h2
theorem lt_as [OrdE e] {a b : α} (h : OrdE.lt e a b = true) : OrdE.lt e b a = false := by
  rw [← OrdE.ltEq] at h ⊢
  cases h2 : PySem.W.dataLt (e b) (e a) with
  | false => rfl
  | true =>
    have := lex_trans (O := itemOrd) _ _ _ h h2
    rw [lex_irrefl] at this
    cases this
theorem ins_sorted [OrdE e] (x : α) : ∀ {ys : List α}, ys.Pairwise (fun a b => OrdE.lt e b a = false) → (insE (OrdE.lt e) x ys).Pairwise (fun a b => OrdE.lt e b a = false)
  | [], _ => by simp [insE]
  | y :: ys, h => by
    obtain ⟨h1, h2⟩ := List.pairwise_cons.mp h
    unfold insE
    split
    · rename_i hlt
      refine List.pairwise_cons.mpr ⟨fun z hz => ?_, ins_sorted x h2⟩
      rcases List.mem_cons.mp ((ins_perm _ x ys).mem_iff.mp hz) with rfl | hz
      · exact lt_as hlt
      · exact h1 z hz
    · rename_i hlt
      have hlt : OrdE.lt e y x = false := by simpa using hlt
      refine List.pairwise_cons.mpr ⟨fun z hz => ?_, h⟩
      rcases List.mem_cons.mp hz with rfl | hz
      · exact hlt
      · exact lt_tr hlt (h1 z hz)
theorem isort_sorted [OrdE e] : ∀ xs : List α, (isort (OrdE.lt e) xs).Pairwise (fun a b => OrdE.lt e b a = false)
  | [] => .nil
  | x :: xs => ins_sorted x (isort_sorted xs)
theorem sortD_e [OrdE e] (xs : List α) : sortD (xs.map e) = (isort (OrdE.lt e) xs).map e := by
  have T := PySem.W.sortLe_total (listOrd itemOrd) false fun d : Dv => PySem.W.keyToks d
  have h1 : (sortD (xs.map e)).Pairwise (fun a b => PySem.W.dataLe false (fun d : Dv => d) a b = true) := List.pairwise_mergeSort (fun a b c => T.trans a b c) (fun a b => Bool.or_eq_true _ _ ▸ T.total a b) _
  have h2 : ((isort (OrdE.lt e) xs).map e).Pairwise (fun a b => PySem.W.dataLe false (fun d : Dv => d) a b = true) := by
    rw [List.pairwise_map]
    refine (isort_sorted xs).imp fun {a b} h => ?_
    show (!PySem.W.dataLt (e b) (e a)) = true
    rw [OrdE.ltEq, h]
    rfl
  have p1 : List.Perm (sortD (xs.map e)) ((isort (OrdE.lt e) xs).map e) := (List.mergeSort_perm _ _).trans ((isort_perm _ xs).symm.map e)
  refine p1.eq_of_pairwise (fun a b ha hb h3 h4 => ?_) h1 h2
  obtain ⟨x, _, rfl⟩ := List.mem_map.mp (((List.mergeSort_perm _ _).mem_iff).mp ha)
  obtain ⟨y, _, rfl⟩ := List.mem_map.mp hb
  have h3 : (!PySem.W.dataLt (e y) (e x)) = true := h3
  have h4 : (!PySem.W.dataLt (e x) (e y)) = true := h4
  rw [OrdE.ltEq, Bool.not_eq_true'] at h3 h4
  rw [OrdE.tot x y h4 h3]
theorem okSo_e [OrdE e] (xs : List α) (h : EqE.dep e ≤ 64) (h2 : xs.all (OrdE.ok e) = true) (hl : xs.length ≤ sizeLine) : okSo (xs.map e) = true := by
  unfold okSo
  simp only [Bool.and_eq_true, Bool.or_eq_true, List.all_eq_true, decide_eq_true_eq, List.mem_map, List.length_map]
  refine ⟨⟨⟨?_, ?_⟩, ?_⟩, hl⟩
  · rcases OrdE.kind (e := e) with k | k
    · right
      rintro _ ⟨a, _, rfl⟩
      exact k a
    · left
      rintro _ ⟨a, ha, rfl⟩
      exact k a (List.all_eq_true.mp h2 a ha)
  · rintro _ ⟨a, _, rfl⟩ _ ⟨b, _, rfl⟩
    exact OrdE.alike a b
  · rintro _ ⟨a, _, rfl⟩
    exact Nat.le_trans (EqE.hd a) h
def sortO {α : Type} (e : α → Dv) [OrdE e] (xs : List α) : Option (List α) := if xs.all (OrdE.ok e) = true ∧ xs.length ≤ sizeLine then some (isort (OrdE.lt e) xs) else none
theorem sort_e [OrdE e] {xs ys : List α} (h : sortO e xs = some ys) (hd : EqE.dep e ≤ 64 := by decide) : sortG [.list (xs.map e)] = some (.ow (.lst (ys.map e))) := by
  unfold sortO at h
  split at h
  · rename_i hc
    cases h
    unfold sortG
    simp only
    rw [if_pos (okSo_e xs hd hc.1 hc.2), sortD_e]
  · cases h
end
end DL

set_option Elab.async false
set_option linter.all false
set_option autoImplicit false
set_option maxRecDepth 100000
set_option maxHeartbeats 1000000
namespace DL
open PySem PySem.Spec PyProof.Rows L2
/-! ### typed operators -/
section intS
theorem add_i (a b : Int) : addD (eI a) (eI b) = some (.sh (eI (a + b))) := rfl
theorem sub_i (a b : Int) : subD (eI a) (eI b) = some (.sh (eI (a - b))) := rfl
theorem iadd_i (a b : Int) : iaddD (eI a) (eI b) = some (.sh (eI (a + b))) := rfl
theorem neg_i (a : Int) : negD (eI a) = some (.sh (eI (-a))) := rfl
theorem bit_i (g : Int → Int → Int) (a b : Int) : bitD g (eI a) (eI b) = some (.sh (eI (g a b))) := rfl
theorem cmp_i (g : Int → Int → Bool) (a b : Int) : cmpD g (eI a) (eI b) = some (.sh (eB (g a b))) := rfl
def fits (a : Int) : Prop := -(18446744073709551616) < a ∧ a < 18446744073709551616
instance (a : Int) : Decidable (fits a) := by unfold fits; infer_instance
def mulO (a b : Int) : Option Int := if fits a ∨ fits b then some (a * b) else none
theorem mul_t {a b v : Int} (h : mulO a b = some v) : mulD (eI a) (eI b) = some (.sh (eI v)) := by
  unfold mulO at h
  split at h
  · rename_i hc
    cases h
    exact if_pos hc
  · cases h
theorem mul_l (a b : Int) (h : fits a := by decide) : mulD (eI a) (eI b) = some (.sh (eI (a * b))) := if_pos (.inl h)
theorem mul_r (a b : Int) (h : fits b := by decide) : mulD (eI a) (eI b) = some (.sh (eI (a * b))) := if_pos (.inr h)
theorem mulO_l {a : Int} (b : Int) (h : fits a) : mulO a b = some (a * b) := if_pos (.inl h)
theorem mulO_r (a : Int) {b : Int} (h : fits b) : mulO a b = some (a * b) := if_pos (.inr h)
theorem fits_of {a : Int} (h1 : -1000000000000 ≤ a) (h2 : a ≤ 1000000000000) : fits a := ⟨by omega, by omega⟩
def divO (a b : Int) : Option Int := if 0 < b ∧ b < 1073741824 then some (a / b) else none
theorem div_t {a b v : Int} (h : divO a b = some v) : divD (eI a) (eI b) = some (.sh (eI v)) := by
  unfold divO at h
  split at h
  · rename_i hc
    cases h
    exact if_pos hc
  · cases h
theorem div_l (a b : Int) (h : 0 < b ∧ b < 1073741824 := by decide) : divD (eI a) (eI b) = some (.sh (eI (a / b))) := if_pos h
def modO (a b : Int) : Option Int := if 0 < b then some (a % b) else none
theorem mod_t {a b v : Int} (h : modO a b = some v) : modD (eI a) (eI b) = some (.sh (eI v)) := by
  unfold modO at h
  split at h
  · rename_i hc
    cases h
    exact if_pos hc
  · cases h
theorem mod_l (a b : Int) (h : 0 < b := by decide) : modD (eI a) (eI b) = some (.sh (eI (a % b))) := if_pos h
theorem modO_p (a : Int) {b : Int} (h : 0 < b) : modO a b = some (a % b) := if_pos h
def powO (a b : Int) : Option Int := if 0 ≤ b ∧ b ≤ 1000000 ∧ a.natAbs < 18446744073709551616 then some (a ^ b.toNat) else none
theorem pow_t {a b v : Int} (h : powO a b = some v) : powD (eI a) (eI b) = some (.sh (eI v)) := by
  unfold powO at h
  split at h
  · rename_i hc
    cases h
    exact if_pos hc
  · cases h
def shlO (a b : Int) : Option Int := if 0 ≤ b ∧ b ≤ 1000000 ∧ a.natAbs < 18446744073709551616 then some (a * 2 ^ b.toNat) else none
theorem shl_t {a b v : Int} (h : shlO a b = some v) : shlD (eI a) (eI b) = some (.sh (eI v)) := by
  unfold shlO at h
  split at h
  · rename_i hc
    cases h
    exact if_pos hc
  · cases h
def shrO (a b : Int) : Option Int := if 0 ≤ b then some (a / 2 ^ b.toNat) else none
theorem shr_t {a b v : Int} (h : shrO a b = some v) : shrD (eI a) (eI b) = some (.sh (eI v)) := by
  unfold shrO at h
  split at h
  · rename_i hc
    cases h
    exact if_pos hc
  · cases h
theorem shr_l (a b : Int) (h : 0 ≤ b := by decide) : shrD (eI a) (eI b) = some (.sh (eI (a / 2 ^ b.toNat))) := if_pos h
theorem abs_i (a : Int) : absG [eI a] = some (.sh (eI (if a < 0 then -a else a))) := rfl
theorem int_i (a : Int) : intG [eI a] = some (.sh (eI a)) := rfl
theorem int_b (a : Bool) : intG [eB a] = some (.sh (eI (if a = true then 1 else 0))) := rfl
theorem max2_i (a b : Int) : max2G [eI a, eI b] = some (.sh (eI (if b > a then b else a))) := rfl
theorem min2_i (a b : Int) : min2G [eI a, eI b] = some (.sh (eI (if b < a then b else a))) := rfl
theorem eq_s (a b : Str) : eqqD (eS a) (eS b) = some (.sh (eB (decide (a = b)))) := rfl
theorem ne_s (a b : Str) : neqD (eS a) (eS b) = some (.sh (eB (!decide (a = b)))) := rfl
theorem eq_a {a b : Dv} {v : Bool} (h : eqD a b = some v) : eqqD a b = some (.sh (eB v)) := by
  unfold eqqD
  rw [h]
  rfl
theorem ne_a {a b : Dv} {v : Bool} (h : eqD a b = some v) : neqD a b = some (.sh (eB (!v))) := by
  unfold neqD
  rw [h]
  rfl
end intS
/-! ### lists -/
section
variable {α β : Type} {e : α → Dv}
def rangeI (lo : Int) (n : Nat) : List Int := (List.range n).map fun i => lo + (i : Nat)
def rangeC (lo : Int) (n : Nat) : List Int := (List.range n).map fun i => lo + (i : Nat) * -1
theorem rangeI_e (lo : Int) (n : Nat) : rangeD lo n = (rangeI lo n).map eI := by
  unfold rangeD rangeI
  rw [List.map_map]
  rfl
theorem rangeC_e (lo : Int) (n : Nat) : rangeDC lo (-1) n = (rangeC lo n).map eI := by
  unfold rangeDC rangeC
  rw [List.map_map]
  rfl
def rngO1 (n : Int) : Option (List Int) := if bnd62 n = true then some (rangeI 0 n.toNat) else none
def rngO2 (i j : Int) : Option (List Int) := if bnd62 i = true ∧ bnd62 j = true then some (rangeI i (j - i).toNat) else none
def rngO3 (i j : Int) : Option (List Int) := if bnd62 i = true ∧ bnd62 j = true then some (rangeC i (i - j).toNat) else none
theorem rng1_t {n : Int} {xs : List Int} (h : rngO1 n = some xs) : rng1 [eI n] = some (xs.map eI) := by
  unfold rngO1 at h
  split at h
  · rename_i hc
    cases h
    show (if bnd62 n = true then _ else _) = _
    rw [if_pos hc, rangeI_e]
  · cases h
theorem rng1_l (n : Int) (h : bnd62 n = true := by decide) : rng1 [eI n] = some ((rangeI 0 n.toNat).map eI) := rng1_t (if_pos h)
theorem rng2_t {i j : Int} {xs : List Int} (h : rngO2 i j = some xs) : rng2 [eI i, eI j] = some (xs.map eI) := by
  unfold rngO2 at h
  split at h
  · rename_i hc
    cases h
    show (if bnd62 i = true ∧ bnd62 j = true then _ else _) = _
    rw [if_pos hc, rangeI_e]
  · cases h
theorem rng3_t {i j : Int} {xs : List Int} (h : rngO3 i j = some xs) : rng3 [eI i, eI j, eI (-1)] = some (xs.map eI) := by
  unfold rngO3 at h
  split at h
  · rename_i hc
    cases h
    show (if bnd62 i = true ∧ bnd62 j = true ∧ (-1 : Int) = -1 then _ else _) = _
    rw [if_pos ⟨hc.1, hc.2, rfl⟩, rangeC_e]
  · cases h
theorem irng_ {r : List Dv → Option (List Dv)} {ga : MA} {ρ ρ1 : Rho} {rs : List Rv} {ds : List Dv} {xs : List α} (h : ga ρ = some (rs, ρ1)) (h1 : dats ρ1 rs = some ds) (h2 : r ds = some (xs.map e)) : iRng r ga ρ = some (xs.map e, ρ1) := iRng_eq h h1 h2
theorem iseq_l {f : M} {ρ ρ1 : Rho} {xs : List α} (h : frM f ρ = some (.sh (.list (xs.map e)), ρ1)) : iSeq f ρ = some (xs.map e, ρ1) := by
  unfold iSeq
  rw [h]
  rfl
theorem iseq_t {f : M} {ρ ρ1 : Rho} {xs : List α} (h : frM f ρ = some (.sh (.tuple (xs.map e)), ρ1)) : iSeq f ρ = some (xs.map e, ρ1) := by
  unfold iSeq
  rw [h]
  rfl
theorem irev_ {f : M} {ρ ρ1 : Rho} {xs : List α} (h : iSeq f ρ = some (xs.map e, ρ1)) : iRevS f ρ = some (xs.reverse.map e, ρ1) := by
  unfold iRevS
  rw [h]
  simp
def itemsO (d : Dv) : Option (List Dv) := itemsOf d
theorem iseq_a {f : M} {ρ ρ1 : Rho} {d : Dv} {xs : List Dv} (h : frM f ρ = some (.sh d, ρ1)) (h2 : itemsO d = some xs) : iSeq f ρ = some (xs.map eA, ρ1) := by
  unfold iSeq
  rw [h]
  unfold itemsO at h2
  simp only [Option.bind_some, h2]
  simp [show (eA : Dv → Dv) = id from rfl]
theorem atI_map' (xs : List α) (i : Int) : atI (xs.map e) i = (atI xs i).map e := by
  unfold atI
  rw [List.length_map]
  cases ixN xs.length i with
  | none => rfl
  | some j => simp
theorem ixl_e {xs : List α} {i : Int} {v : α} (h : atI xs i = some v) : ixA (.list (xs.map e)) (eI i) = some (.sh (e v)) := by
  show (atI (xs.map e) i).map Rz.sh = _
  rw [atI_map', h]
  rfl
theorem ixt_e {xs : List α} {i : Int} {v : α} (h : atI xs i = some v) : ixA (.tuple (xs.map e)) (eI i) = some (.sh (e v)) := by
  show (atI (xs.map e) i).map Rz.sh = _
  rw [atI_map', h]
  rfl
def ixaO (d k : Dv) : Option Dv := match ixA d k with
  | some (.sh z) => some z
  | _ => none
theorem ixa_e {d k z : Dv} (h : ixaO d k = some z) : ixA d k = some (.sh z) := by
  unfold ixaO at h
  split at h
  · rename_i h2
    cases h
    exact h2
  · cases h
def plusO (xs ys : List α) : Option (List α) := if xs.length + ys.length ≤ sizeLine then some (xs ++ ys) else none
theorem plusT_e {xs ys zs : List α} (h : plusO xs ys = some zs) : addD (.tuple (xs.map e)) (.tuple (ys.map e)) = some (.sh (.tuple (zs.map e))) := by
  unfold plusO at h
  split at h
  · rename_i hc
    cases h
    show (if (xs.map e).length + (ys.map e).length ≤ sizeLine then _ else _) = _
    rw [List.length_map, List.length_map, if_pos hc, List.map_append]
  · cases h
theorem plusL_e {xs ys zs : List α} (h : plusO xs ys = some zs) : addD (.list (xs.map e)) (.list (ys.map e)) = some (.ow (.lst (zs.map e))) := by
  unfold plusO at h
  split at h
  · rename_i hc
    cases h
    show (if (xs.map e).length + (ys.map e).length ≤ sizeLine then _ else _) = _
    rw [List.length_map, List.length_map, if_pos hc, List.map_append]
  · cases h
def repLO (xs : List α) (k : Int) : Option (List α) := if -(9223372036854775808) ≤ k ∧ k < 9223372036854775808 ∧ xs.length * k.toNat ≤ sizeLine then some (List.replicate k.toNat xs).flatten else none
theorem repL_e {xs zs : List α} {k : Int} (h : repLO xs k = some zs) : mulD (.list (xs.map e)) (eI k) = some (.ow (.lst (zs.map e))) := by
  unfold repLO at h
  split at h
  · rename_i hc
    cases h
    show (if -(9223372036854775808) ≤ k ∧ k < 9223372036854775808 ∧ (xs.map e).length * k.toNat ≤ sizeLine then _ else _) = _
    rw [List.length_map, if_pos hc, List.map_flatten, List.map_replicate]
  · cases h
def repTO (xs : List α) (k : Int) : Option (List α) := if xs.isEmpty = false ∧ 2 ≤ k ∧ k ≤ 1000 ∧ xs.length ≤ 1000 then some (List.replicate k.toNat xs).flatten else none
theorem repT_e {xs zs : List α} {k : Int} (h : repTO xs k = some zs) : mulD (.tuple (xs.map e)) (eI k) = some (.sh (.tuple (zs.map e))) := by
  unfold repTO at h
  split at h
  · rename_i hc
    cases h
    show (if (xs.map e) ≠ [] ∧ 2 ≤ k ∧ k ≤ 1000 ∧ (xs.map e).length ≤ 1000 then _ else _) = _
    rw [List.length_map, if_pos ⟨by cases xs <;> simp_all, hc.2⟩, List.map_flatten, List.map_replicate]
  · cases h
def pushO (xs : List α) (v : α) : Option (List α) := if xs.length < sizeLine then some (xs ++ [v]) else none
theorem push_ {fo : M} {ga : MA} {j : Nat} {ρ ρ1 : Rho} {xs zs : List α} {v : α} (h : pushO xs v = some zs) (ho : fo ρ = some (.al j, ρ)) (hi : isOb "list" ρ[j]? = true) (ha : ga ρ = some ([.sh (e v)], ρ1)) (hj : ρ1[j]? = some (.ow (.lst (xs.map e)))) : mutM "list" appG fo ga ρ = some (.sh .none, ρ1.set j (.ow (.lst (zs.map e)))) := by
  unfold pushO at h
  split at h
  · rename_i hc
    cases h
    rw [app_ ho hi ha hj (by rw [List.length_map]; exact hc)]
    simp
  · cases h
def setO (xs : List α) (k : Int) (v : α) : Option (List α) := (ixN xs.length k).map fun j => xs.set j v
theorem set_e {xs zs : List α} {k : Int} {v : α} (h : setO xs k v = some zs) : setOb (.lst (xs.map e)) (eI k) (e v) = some (.lst (zs.map e)) := by
  unfold setO at h
  obtain ⟨j, h1, rfl⟩ := Option.map_eq_some_iff.mp h
  show (ixN (xs.map e).length k).map _ = _
  rw [List.length_map, h1]
  simp
theorem getl_e {xs : List α} {i : Int} {v : α} (h : atI xs i = some v) : getOb (.lst (xs.map e)) (eI i) = some (e v) := by
  show atI (xs.map e) i = _
  rw [atI_map', h]
  rfl
def cutT (xs : List α) (lo hi : Option Int) : List α := (xs.drop (HT.sIx xs.length 0 lo)).take (HT.sIx xs.length xs.length hi - HT.sIx xs.length 0 lo)
theorem cut_e (xs : List α) (lo hi : Option Int) : cutD (xs.map e) lo hi = (cutT xs lo hi).map e := by
  unfold cutD cutT
  rw [List.length_map, List.map_take, List.map_drop]
theorem cutL_ {f : M} {lo hi : MO} {ρ ρ1 ρ2 ρ3 : Rho} {r : Rv} {l h : Option Int} {xs : List α} (ha : pkM f ρ = some (r, ρ1)) (h1 : lo ρ1 = some (l, ρ2)) (h2 : hi ρ2 = some (h, ρ3)) (h3 : dat ρ3 r = some (.list (xs.map e))) : eCut f lo hi ρ = some (.ow (.lst ((cutT xs l h).map e)), ρ3) := by
  unfold eCut
  rw [ha]
  simp only [Option.bind_some]
  rw [h1]
  simp only [Option.bind_some]
  rw [h2]
  simp only [Option.bind_some]
  rw [h3]
  simp only [Option.bind_some, cutG, cut_e]
  rfl
theorem cutT_ {f : M} {lo hi : MO} {ρ ρ1 ρ2 ρ3 : Rho} {r : Rv} {l h : Option Int} {xs : List α} (ha : pkM f ρ = some (r, ρ1)) (h1 : lo ρ1 = some (l, ρ2)) (h2 : hi ρ2 = some (h, ρ3)) (h3 : dat ρ3 r = some (.tuple (xs.map e))) : eCut f lo hi ρ = some (.sh (.tuple ((cutT xs l h).map e)), ρ3) := by
  unfold eCut
  rw [ha]
  simp only [Option.bind_some]
  rw [h1]
  simp only [Option.bind_some]
  rw [h2]
  simp only [Option.bind_some]
  rw [h3]
  simp only [Option.bind_some, cutG, cut_e]
  rfl
theorem ono_ (ρ : Rho) : oNo ρ = some (none, ρ) := rfl
theorem oint_ {f : M} {ρ ρ1 : Rho} {i : Int} (h : f ρ = some (.sh (eI i), ρ1)) : oInt f ρ = some (some i, ρ1) := by
  unfold oInt
  rw [h]
  rfl
theorem revT_e (xs : List α) : revD (.tuple (xs.map e)) = some (.sh (.tuple (xs.reverse.map e))) := by
  show some (Rz.sh (.tuple (xs.map e).reverse)) = _
  rw [List.map_reverse]
theorem revL_e (xs : List α) : revD (.list (xs.map e)) = some (.ow (.lst (xs.reverse.map e))) := by
  show some (Rz.ow (.lst (xs.map e).reverse)) = _
  rw [List.map_reverse]
theorem tupL_e (xs : List α) : tupleG [.list (xs.map e)] = some (.sh (.tuple (xs.map e))) := rfl
theorem tupT_e (xs : List α) : tupleG [.tuple (xs.map e)] = some (.sh (.tuple (xs.map e))) := rfl
theorem lstL_e (xs : List α) : listG [.list (xs.map e)] = some (.ow (.lst (xs.map e))) := rfl
theorem lstT_e (xs : List α) : listG [.tuple (xs.map e)] = some (.ow (.lst (xs.map e))) := rfl
theorem lenL_e (xs : List α) : lenG [.list (xs.map e)] = some (.sh (eI (xs.length : Int))) := by
  show some (Rz.sh (.int ((xs.map e).length : Int))) = _
  rw [List.length_map]
  rfl
theorem lenT_e (xs : List α) : lenG [.tuple (xs.map e)] = some (.sh (eI (xs.length : Int))) := by
  show some (Rz.sh (.int ((xs.map e).length : Int))) = _
  rw [List.length_map]
  rfl
theorem lenAL_e (xs : List α) : lenA [.list (xs.map e)] = some (.sh (eI (xs.length : Int))) := lenL_e xs
theorem lenAT_e (xs : List α) : lenA [.tuple (xs.map e)] = some (.sh (eI (xs.length : Int))) := lenT_e xs
def lenaO (d : Dv) : Option Int := match lenG [d] with
  | some (.sh (.int z)) => some z
  | _ => none
theorem lena_e {d : Dv} {z : Int} (h : lenaO d = some z) : lenG [d] = some (.sh (eI z)) := by
  unfold lenaO at h
  split at h
  · rename_i h2
    cases h
    exact h2
  · cases h
theorem sumL_e (xs : List Int) : sumG [.list (xs.map eI)] = some (.sh (eI xs.sum)) := by
  show (intsOf (xs.map PyData.int)).map _ = _
  rw [intsOf_map]
  rfl
theorem sumT_e (xs : List Int) : sumG [.tuple (xs.map eI)] = some (.sh (eI xs.sum)) := by
  show (intsOf (xs.map PyData.int)).map _ = _
  rw [intsOf_map]
  rfl
theorem isEmpty_map (xs : List α) : (xs.map e).isEmpty = xs.isEmpty := by cases xs <;> rfl
theorem truL_e (xs : List α) : truD (.list (xs.map e)) = some (!xs.isEmpty) := by
  show some (!(xs.map e).isEmpty) = _
  rw [isEmpty_map]
theorem truT_e (xs : List α) : truD (.tuple (xs.map e)) = some (!xs.isEmpty) := by
  show some (!(xs.map e).isEmpty) = _
  rw [isEmpty_map]
theorem tru_i (i : Int) : truD (eI i) = some (i != 0) := rfl
theorem tru_b (i : Bool) : truD (eB i) = some i := rfl
/-! `is True`, isinstance -/
theorem isi_e {T : String} {d : Dv} {b : Bool} (h : tagD d = false) (h2 : isT T d = b) : isiD T d = some (.sh (eB b)) := by
  unfold isiD
  rw [if_neg (by rw [h]; decide), h2]
  rfl
def isiO (T : String) (d : Dv) : Option Bool := if tagD d = true then none else some (isT T d)
theorem isi_a {T : String} {d : Dv} {b : Bool} (h : isiO T d = some b) : isiD T d = some (.sh (eB b)) := by
  unfold isiO at h
  unfold isiD
  split at h
  · cases h
  · rename_i hc
    cases h
    rw [if_neg hc]
    rfl
/-! ### dicts -/
def ekv {κ ν : Type} (ek : κ → Dv) (ev : ν → Dv) : κ × ν → Dv × Dv := fun p => (ek p.1, ev p.2)
class KeyE {κ : Type} (ek : κ → Dv) extends EqE ek where
  okt : ∀ a, okT (ek a) = true
  same : ∀ a b, decide (keyN (ek a) = keyN (ek b)) = EqE.eq ek a b
class KeyI {κ : Type} (ek : κ → Dv) extends EqE ek where
  okt : ∀ a, isKey (ek a) = true
  same : ∀ a b, eqKey (ek a) (ek b) = EqE.eq ek a b
instance : KeyI eI where
  okt _ := rfl
  same _ _ := rfl
section
variable {κ ν : Type} {ek : κ → Dv} {ev : ν → Dv}
def dgetO (q : κ → κ → Bool) : List (κ × ν) → κ → Option ν
  | [], _ => none
  | p :: r, k => if q p.1 k = true then some p.2 else dgetO q r k
def dput (q : κ → κ → Bool) (kvs : List (κ × ν)) (k : κ) (v : ν) : List (κ × ν) := if kvs.any (fun p => q p.1 k) = true then kvs.map (fun p => if q p.1 k = true then (p.1, v) else p) else kvs ++ [(k, v)]
def dputO (q : κ → κ → Bool) (kvs : List (κ × ν)) (k : κ) (v : ν) : Option (List (κ × ν)) := if kvs.length < sizeLine then some (dput q kvs k v) else none
theorem getD_e [KeyI ek] (k : κ) : ∀ kvs : List (κ × ν), getD (kvs.map (ekv ek ev)) (ek k) = (dgetO (EqE.eq ek) kvs k).map ev
  | [] => rfl
  | p :: r => by
    rw [List.map_cons]
    show (if eqKey (ek p.1) (ek k) = true then some (ev p.2) else getD (r.map _) (ek k)) = _
    unfold dgetO
    rw [KeyI.same, getD_e k r]
    split <;> rfl
theorem putD_e [KeyI ek] (kvs : List (κ × ν)) (k : κ) (v : ν) : putD (kvs.map (ekv ek ev)) (ek k) (ev v) = (dput (EqE.eq ek) kvs k v).map (ekv ek ev) := by
  unfold putD dput
  rw [List.any_map]
  rw [show ((fun p : Dv × Dv => eqKey p.1 (ek k)) ∘ ekv ek ev) = fun p : κ × ν => EqE.eq ek p.1 k from funext fun p => KeyI.same p.1 k]
  split
  · rw [List.map_map, List.map_map]
    congr 1
    funext p
    show (if eqKey (ek p.1) (ek k) = true then _ else _) = ekv ek ev (if _ then _ else _)
    rw [KeyI.same]
    split <;> rfl
  · simp [ekv]
theorem getN_e [KeyE ek] (k : κ) : ∀ kvs : List (κ × ν), getN (kvs.map (ekv ek ev)) (ek k) = (dgetO (EqE.eq ek) kvs k).map ev
  | [] => rfl
  | p :: r => by
    rw [List.map_cons]
    show (if keyN (ek p.1) = keyN (ek k) then some (ev p.2) else getN (r.map _) (ek k)) = _
    unfold dgetO
    rw [← KeyE.same (ek := ek), getN_e k r]
    by_cases h : keyN (ek p.1) = keyN (ek k)
    · rw [if_pos h, if_pos (decide_eq_true h)]
      rfl
    · rw [if_neg h, if_neg (by simpa using h)]
theorem putN_e [KeyE ek] (kvs : List (κ × ν)) (k : κ) (v : ν) : putN (kvs.map (ekv ek ev)) (ek k) (ev v) = (dput (EqE.eq ek) kvs k v).map (ekv ek ev) := by
  unfold putN dput
  rw [List.any_map]
  rw [show ((fun p : Dv × Dv => decide (keyN p.1 = keyN (ek k))) ∘ ekv ek ev) = fun p : κ × ν => EqE.eq ek p.1 k from funext fun p => KeyE.same p.1 k]
  split
  · rw [List.map_map, List.map_map]
    congr 1
    funext p
    show (if keyN (ek p.1) = keyN (ek k) then _ else _) = ekv ek ev (if _ then _ else _)
    rw [← KeyE.same (ek := ek)]
    by_cases h : keyN (ek p.1) = keyN (ek k)
    · rw [if_pos h, if_pos (decide_eq_true h)]
      rfl
    · rw [if_neg h, if_neg (by simpa using h)]
  · simp [ekv]
theorem setI_e [KeyI ek] {kvs zs : List (κ × ν)} {k : κ} {v : ν} (h : dputO (EqE.eq ek) kvs k v = some zs) : setOb (.dct (kvs.map (ekv ek ev))) (ek k) (ev v) = some (.dct (zs.map (ekv ek ev))) := by
  unfold dputO at h
  split at h
  · rename_i hc
    cases h
    have hk := KeyI.okt (ek := ek) k
    show (if isKey (ek k) = true ∧ (kvs.map (ekv ek ev)).length < sizeLine then some (Ob.dct (putD (kvs.map (ekv ek ev)) (ek k) (ev v))) else none) = _
    rw [if_pos ⟨hk, by rw [List.length_map]; exact hc⟩, putD_e]
  · cases h
theorem setN_e [KeyE ek] {kvs zs : List (κ × ν)} {k : κ} {v : ν} (h : dputO (EqE.eq ek) kvs k v = some zs) : setOb (.dtn (kvs.map (ekv ek ev))) (ek k) (ev v) = some (.dtn (zs.map (ekv ek ev))) := by
  unfold dputO at h
  split at h
  · rename_i hc
    cases h
    have hk := KeyE.okt (ek := ek) k
    show (if okT (ek k) = true ∧ (kvs.map (ekv ek ev)).length < sizeLine then some (Ob.dtn (putN (kvs.map (ekv ek ev)) (ek k) (ev v))) else none) = _
    rw [if_pos ⟨hk, by rw [List.length_map]; exact hc⟩, putN_e]
  · cases h
def dhas (q : κ → κ → Bool) (kvs : List (κ × ν)) (k : κ) : Bool := (dgetO q kvs k).isSome
theorem isKey_okT {d : Dv} (h : okT d = true) : isKey d = false := by
  cases d <;> first | rfl | cases h
theorem inN_e [KeyE ek] (kvs : List (κ × ν)) (k : κ) : inAD (ek k) (obD (.dtn (kvs.map (ekv ek ev)))) = some (.sh (eB (dhas (EqE.eq ek) kvs k))) := by
  have hk := KeyE.okt (ek := ek) k
  unfold inAD inA obD
  simp only [plD, isKey_okT hk, List.tail_cons, getN_e, hk]
  simp [dhas]
  rfl
theorem ninN_e [KeyE ek] (kvs : List (κ × ν)) (k : κ) : ninAD (ek k) (obD (.dtn (kvs.map (ekv ek ev)))) = some (.sh (eB (!dhas (EqE.eq ek) kvs k))) := by
  have hk := KeyE.okt (ek := ek) k
  unfold ninAD inA obD
  simp only [plD, isKey_okT hk, List.tail_cons, getN_e, hk]
  simp [dhas]
  rfl
theorem plD_ek [KeyI ek] : ∀ kvs : List (κ × ν), plD (kvs.map (ekv ek ev)) = true
  | [] => rfl
  | p :: r => by
    have := KeyI.okt (ek := ek) p.1
    show plD ((ek p.1, _) :: _) = true
    cases h : ek p.1 <;> first | rfl | (rw [h] at this; cases this)
theorem inI_e [KeyI ek] (kvs : List (κ × ν)) (k : κ) : inAD (ek k) (obD (.dct (kvs.map (ekv ek ev)))) = some (.sh (eB (dhas (EqE.eq ek) kvs k))) := by
  have hk := KeyI.okt (ek := ek) k
  unfold inAD inA obD
  simp only [plD_ek, hk, getD_e]
  simp [dhas]
  rfl
theorem ninI_e [KeyI ek] (kvs : List (κ × ν)) (k : κ) : ninAD (ek k) (obD (.dct (kvs.map (ekv ek ev)))) = some (.sh (eB (!dhas (EqE.eq ek) kvs k))) := by
  have hk := KeyI.okt (ek := ek) k
  unfold ninAD inA obD
  simp only [plD_ek, hk, getD_e]
  simp [dhas]
  rfl
theorem ixI_e [KeyI ek] {kvs : List (κ × ν)} {k : κ} {v : ν} (h : dgetO (EqE.eq ek) kvs k = some v) : ixA (obD (.dct (kvs.map (ekv ek ev)))) (ek k) = some (.sh (ev v)) := by
  have hk := KeyI.okt (ek := ek) k
  unfold ixA obD
  simp only [plD_ek, hk, getD_e, h]
  rfl
theorem getI_e [KeyI ek] {kvs : List (κ × ν)} {k : κ} {v : ν} (h : dgetO (EqE.eq ek) kvs k = some v) : getOb (.dct (kvs.map (ekv ek ev))) (ek k) = some (ev v) := by
  have hk := KeyI.okt (ek := ek) k
  show (if isKey (ek k) = true then getD (kvs.map (ekv ek ev)) (ek k) else none) = _
  rw [if_pos hk, getD_e, h]
  rfl
end
/-! keys that are tuples of ints, and of such -/
theorem keyN_i (i : Int) : keyN (eI i) = some (.num i) := rfl
class NestE {κ : Type} (ek : κ → Dv) extends EqE ek where
  key : κ → NestedKey
  dpt : Nat
  kn : ∀ a, keyN (ek a) = some (key a)
  kd : ∀ a, (key a).depth ≤ dpt
  ki : ∀ a b, key a = key b → a = b
instance : NestE eI where
  key i := .num i
  dpt := 0
  kn _ := rfl
  kd _ := Nat.le_refl _
  ki a b h := by cases h; rfl
theorem keyNs_map {κ : Type} {ek : κ → Dv} [NestE ek] : ∀ xs : List κ, keyNs (xs.map ek) = some (xs.map (NestE.key ek))
  | [] => rfl
  | x :: xs => by
    rw [List.map_cons]
    show (keyN (ek x)).bind _ = _
    rw [NestE.kn, keyNs_map xs]
    rfl
theorem keyd_map {κ : Type} {ek : κ → Dv} [NestE ek] : ∀ xs : List κ, NestedKey.depthAll (xs.map (NestE.key ek)) ≤ NestE.dpt ek
  | [] => Nat.zero_le _
  | x :: xs => by
    have := NestE.kd (ek := ek) x
    have := keyd_map (ek := ek) xs
    simp only [List.map_cons, NestedKey.depthAll]
    omega
theorem keyi_map {κ : Type} {ek : κ → Dv} [NestE ek] : ∀ xs ys : List κ, xs.map (NestE.key ek) = ys.map (NestE.key ek) → xs = ys
  | [], [], _ => rfl
  | [], _ :: _, h => by cases h
  | _ :: _, [], h => by cases h
  | x :: xs, y :: ys, h => by
    simp only [List.map_cons, List.cons.injEq] at h
    rw [NestE.ki x y h.1, keyi_map xs ys h.2]
instance {κ : Type} {ek : κ → Dv} [NestE ek] : NestE (eT ek) where
  key xs := .tup (xs.map (NestE.key ek))
  dpt := NestE.dpt ek + 1
  kn xs := by
    show (keyNs (xs.map ek)).map _ = _
    rw [keyNs_map]
    rfl
  kd xs := by
    have := keyd_map (ek := ek) xs
    simp only [NestedKey.depth]
    omega
  ki xs ys h := keyi_map xs ys (NestedKey.tup.inj h)
instance {κ κ' : Type} {ek : κ → Dv} {ek' : κ' → Dv} [NestE ek] [NestE ek'] : NestE (e2 ek ek') where
  key x := .tup [NestE.key ek x.1, NestE.key ek' x.2]
  dpt := max (NestE.dpt ek) (NestE.dpt ek') + 1
  kn x := by
    show (keyNs [ek x.1, ek' x.2]).map _ = _
    simp [keyNs, NestE.kn]
  kd x := by
    have := NestE.kd (ek := ek) x.1
    have := NestE.kd (ek := ek') x.2
    simp only [NestedKey.depth, NestedKey.depthAll]
    omega
  ki x y h := by
    obtain ⟨x1, x2⟩ := x
    obtain ⟨y1, y2⟩ := y
    have h := NestedKey.tup.inj h
    simp only [List.cons.injEq] at h
    rw [NestE.ki _ _ h.1, NestE.ki _ _ h.2.1]
instance {κ κ' κ'' : Type} {ek : κ → Dv} {ek' : κ' → Dv} {ek'' : κ'' → Dv} [NestE ek] [NestE ek'] [NestE ek''] : NestE (e3 ek ek' ek'') where
  key x := .tup [NestE.key ek x.1, NestE.key ek' x.2.1, NestE.key ek'' x.2.2]
  dpt := max (NestE.dpt ek) (max (NestE.dpt ek') (NestE.dpt ek'')) + 1
  kn x := by
    show (keyNs [ek x.1, ek' x.2.1, ek'' x.2.2]).map _ = _
    simp [keyNs, NestE.kn]
  kd x := by
    have := NestE.kd (ek := ek) x.1
    have := NestE.kd (ek := ek') x.2.1
    have := NestE.kd (ek := ek'') x.2.2
    simp only [NestedKey.depth, NestedKey.depthAll]
    omega
  ki x y h := by
    obtain ⟨x1, x2, x3⟩ := x
    obtain ⟨y1, y2, y3⟩ := y
    have h := NestedKey.tup.inj h
    simp only [List.cons.injEq] at h
    rw [NestE.ki _ _ h.1, NestE.ki _ _ h.2.1, NestE.ki _ _ h.2.2.1]
class IsTupE {κ : Type} (ek : κ → Dv) where
  tup : ∀ a, ∃ ds, ek a = .tuple ds
instance {κ : Type} {ek : κ → Dv} : IsTupE (eT ek) := ⟨fun xs => ⟨_, rfl⟩⟩
instance {κ κ' : Type} {ek : κ → Dv} {ek' : κ' → Dv} : IsTupE (e2 ek ek') := ⟨fun xs => ⟨_, rfl⟩⟩
instance {κ κ' κ'' : Type} {ek : κ → Dv} {ek' : κ' → Dv} {ek'' : κ'' → Dv} : IsTupE (e3 ek ek' ek'') := ⟨fun xs => ⟨_, rfl⟩⟩
class Le8 (n : Nat) : Prop where
  le : n ≤ 8
@[reducible] def keyE_of {κ : Type} (ek : κ → Dv) [NestE ek] [IsTupE ek] (h : NestE.dpt ek ≤ 8) : KeyE ek where
  okt a := by
    obtain ⟨ds, hd⟩ := IsTupE.tup (ek := ek) a
    have hk := NestE.kn (ek := ek) a
    rw [hd] at hk ⊢
    unfold okT okN
    rw [hk]
    exact decide_eq_true (Nat.le_trans (NestE.kd a) h)
  same a b := by
    rw [NestE.kn, NestE.kn]
    by_cases hab : a = b
    · subst hab
      rw [(EqE.iff a a).mpr rfl]
      simp
    · rw [eqE_ne.mpr hab |> (fun h => (show EqE.eq ek a b = false from h))]
      refine decide_eq_false fun h => hab (NestE.ki _ _ (Option.some.inj h))
instance : KeyE (eT eI) := keyE_of _ (by decide)
instance : KeyE (e2 eI eI) := keyE_of _ (by decide)
instance : KeyE (e3 eI eI eI) := keyE_of _ (by decide)
instance : KeyE (eT (eT eI)) := keyE_of _ (by decide)
instance : KeyE (eT (e2 eI eI)) := keyE_of _ (by decide)
instance : KeyE (e2 (eT eI) (eT eI)) := keyE_of _ (by decide)
end
end DL

set_option Elab.async false
set_option linter.all false
set_option autoImplicit false
set_option maxRecDepth 100000
namespace DL
open PySem PySem.Spec PyProof.Rows L2
theorem ev_0 {d : Dv} {r : Rho} : eVar 0 (.sh d :: r) = some (.sh d, .sh d :: r) := rfl
theorem eva_0 {o : Ob} {r : Rho} : eVar 0 (.ow o :: r) = some (.al 0, .ow o :: r) := rfl
theorem ev_1 {s0 : Sl} {d : Dv} {r : Rho} : eVar 1 (s0 :: .sh d :: r) = some (.sh d, s0 :: .sh d :: r) := rfl
theorem eva_1 {s0 : Sl} {o : Ob} {r : Rho} : eVar 1 (s0 :: .ow o :: r) = some (.al 1, s0 :: .ow o :: r) := rfl
theorem ev_2 {s0 s1 : Sl} {d : Dv} {r : Rho} : eVar 2 (s0 :: s1 :: .sh d :: r) = some (.sh d, s0 :: s1 :: .sh d :: r) := rfl
theorem eva_2 {s0 s1 : Sl} {o : Ob} {r : Rho} : eVar 2 (s0 :: s1 :: .ow o :: r) = some (.al 2, s0 :: s1 :: .ow o :: r) := rfl
theorem ev_3 {s0 s1 s2 : Sl} {d : Dv} {r : Rho} : eVar 3 (s0 :: s1 :: s2 :: .sh d :: r) = some (.sh d, s0 :: s1 :: s2 :: .sh d :: r) := rfl
theorem eva_3 {s0 s1 s2 : Sl} {o : Ob} {r : Rho} : eVar 3 (s0 :: s1 :: s2 :: .ow o :: r) = some (.al 3, s0 :: s1 :: s2 :: .ow o :: r) := rfl
theorem ev_4 {s0 s1 s2 s3 : Sl} {d : Dv} {r : Rho} : eVar 4 (s0 :: s1 :: s2 :: s3 :: .sh d :: r) = some (.sh d, s0 :: s1 :: s2 :: s3 :: .sh d :: r) := rfl
theorem eva_4 {s0 s1 s2 s3 : Sl} {o : Ob} {r : Rho} : eVar 4 (s0 :: s1 :: s2 :: s3 :: .ow o :: r) = some (.al 4, s0 :: s1 :: s2 :: s3 :: .ow o :: r) := rfl
theorem ev_5 {s0 s1 s2 s3 s4 : Sl} {d : Dv} {r : Rho} : eVar 5 (s0 :: s1 :: s2 :: s3 :: s4 :: .sh d :: r) = some (.sh d, s0 :: s1 :: s2 :: s3 :: s4 :: .sh d :: r) := rfl
theorem eva_5 {s0 s1 s2 s3 s4 : Sl} {o : Ob} {r : Rho} : eVar 5 (s0 :: s1 :: s2 :: s3 :: s4 :: .ow o :: r) = some (.al 5, s0 :: s1 :: s2 :: s3 :: s4 :: .ow o :: r) := rfl
theorem ev_6 {s0 s1 s2 s3 s4 s5 : Sl} {d : Dv} {r : Rho} : eVar 6 (s0 :: s1 :: s2 :: s3 :: s4 :: s5 :: .sh d :: r) = some (.sh d, s0 :: s1 :: s2 :: s3 :: s4 :: s5 :: .sh d :: r) := rfl
theorem eva_6 {s0 s1 s2 s3 s4 s5 : Sl} {o : Ob} {r : Rho} : eVar 6 (s0 :: s1 :: s2 :: s3 :: s4 :: s5 :: .ow o :: r) = some (.al 6, s0 :: s1 :: s2 :: s3 :: s4 :: s5 :: .ow o :: r) := rfl
theorem ev_7 {s0 s1 s2 s3 s4 s5 s6 : Sl} {d : Dv} {r : Rho} : eVar 7 (s0 :: s1 :: s2 :: s3 :: s4 :: s5 :: s6 :: .sh d :: r) = some (.sh d, s0 :: s1 :: s2 :: s3 :: s4 :: s5 :: s6 :: .sh d :: r) := rfl
theorem eva_7 {s0 s1 s2 s3 s4 s5 s6 : Sl} {o : Ob} {r : Rho} : eVar 7 (s0 :: s1 :: s2 :: s3 :: s4 :: s5 :: s6 :: .ow o :: r) = some (.al 7, s0 :: s1 :: s2 :: s3 :: s4 :: s5 :: s6 :: .ow o :: r) := rfl
theorem ev_8 {s0 s1 s2 s3 s4 s5 s6 s7 : Sl} {d : Dv} {r : Rho} : eVar 8 (s0 :: s1 :: s2 :: s3 :: s4 :: s5 :: s6 :: s7 :: .sh d :: r) = some (.sh d, s0 :: s1 :: s2 :: s3 :: s4 :: s5 :: s6 :: s7 :: .sh d :: r) := rfl
theorem eva_8 {s0 s1 s2 s3 s4 s5 s6 s7 : Sl} {o : Ob} {r : Rho} : eVar 8 (s0 :: s1 :: s2 :: s3 :: s4 :: s5 :: s6 :: s7 :: .ow o :: r) = some (.al 8, s0 :: s1 :: s2 :: s3 :: s4 :: s5 :: s6 :: s7 :: .ow o :: r) := rfl
theorem ev_9 {s0 s1 s2 s3 s4 s5 s6 s7 s8 : Sl} {d : Dv} {r : Rho} : eVar 9 (s0 :: s1 :: s2 :: s3 :: s4 :: s5 :: s6 :: s7 :: s8 :: .sh d :: r) = some (.sh d, s0 :: s1 :: s2 :: s3 :: s4 :: s5 :: s6 :: s7 :: s8 :: .sh d :: r) := rfl
theorem eva_9 {s0 s1 s2 s3 s4 s5 s6 s7 s8 : Sl} {o : Ob} {r : Rho} : eVar 9 (s0 :: s1 :: s2 :: s3 :: s4 :: s5 :: s6 :: s7 :: s8 :: .ow o :: r) = some (.al 9, s0 :: s1 :: s2 :: s3 :: s4 :: s5 :: s6 :: s7 :: s8 :: .ow o :: r) := rfl
theorem ev_10 {s0 s1 s2 s3 s4 s5 s6 s7 s8 s9 : Sl} {d : Dv} {r : Rho} : eVar 10 (s0 :: s1 :: s2 :: s3 :: s4 :: s5 :: s6 :: s7 :: s8 :: s9 :: .sh d :: r) = some (.sh d, s0 :: s1 :: s2 :: s3 :: s4 :: s5 :: s6 :: s7 :: s8 :: s9 :: .sh d :: r) := rfl
theorem eva_10 {s0 s1 s2 s3 s4 s5 s6 s7 s8 s9 : Sl} {o : Ob} {r : Rho} : eVar 10 (s0 :: s1 :: s2 :: s3 :: s4 :: s5 :: s6 :: s7 :: s8 :: s9 :: .ow o :: r) = some (.al 10, s0 :: s1 :: s2 :: s3 :: s4 :: s5 :: s6 :: s7 :: s8 :: s9 :: .ow o :: r) := rfl
theorem ev_11 {s0 s1 s2 s3 s4 s5 s6 s7 s8 s9 s10 : Sl} {d : Dv} {r : Rho} : eVar 11 (s0 :: s1 :: s2 :: s3 :: s4 :: s5 :: s6 :: s7 :: s8 :: s9 :: s10 :: .sh d :: r) = some (.sh d, s0 :: s1 :: s2 :: s3 :: s4 :: s5 :: s6 :: s7 :: s8 :: s9 :: s10 :: .sh d :: r) := rfl
theorem eva_11 {s0 s1 s2 s3 s4 s5 s6 s7 s8 s9 s10 : Sl} {o : Ob} {r : Rho} : eVar 11 (s0 :: s1 :: s2 :: s3 :: s4 :: s5 :: s6 :: s7 :: s8 :: s9 :: s10 :: .ow o :: r) = some (.al 11, s0 :: s1 :: s2 :: s3 :: s4 :: s5 :: s6 :: s7 :: s8 :: s9 :: s10 :: .ow o :: r) := rfl
theorem ev_12 {s0 s1 s2 s3 s4 s5 s6 s7 s8 s9 s10 s11 : Sl} {d : Dv} {r : Rho} : eVar 12 (s0 :: s1 :: s2 :: s3 :: s4 :: s5 :: s6 :: s7 :: s8 :: s9 :: s10 :: s11 :: .sh d :: r) = some (.sh d, s0 :: s1 :: s2 :: s3 :: s4 :: s5 :: s6 :: s7 :: s8 :: s9 :: s10 :: s11 :: .sh d :: r) := rfl
theorem eva_12 {s0 s1 s2 s3 s4 s5 s6 s7 s8 s9 s10 s11 : Sl} {o : Ob} {r : Rho} : eVar 12 (s0 :: s1 :: s2 :: s3 :: s4 :: s5 :: s6 :: s7 :: s8 :: s9 :: s10 :: s11 :: .ow o :: r) = some (.al 12, s0 :: s1 :: s2 :: s3 :: s4 :: s5 :: s6 :: s7 :: s8 :: s9 :: s10 :: s11 :: .ow o :: r) := rfl
theorem ev_13 {s0 s1 s2 s3 s4 s5 s6 s7 s8 s9 s10 s11 s12 : Sl} {d : Dv} {r : Rho} : eVar 13 (s0 :: s1 :: s2 :: s3 :: s4 :: s5 :: s6 :: s7 :: s8 :: s9 :: s10 :: s11 :: s12 :: .sh d :: r) = some (.sh d, s0 :: s1 :: s2 :: s3 :: s4 :: s5 :: s6 :: s7 :: s8 :: s9 :: s10 :: s11 :: s12 :: .sh d :: r) := rfl
theorem eva_13 {s0 s1 s2 s3 s4 s5 s6 s7 s8 s9 s10 s11 s12 : Sl} {o : Ob} {r : Rho} : eVar 13 (s0 :: s1 :: s2 :: s3 :: s4 :: s5 :: s6 :: s7 :: s8 :: s9 :: s10 :: s11 :: s12 :: .ow o :: r) = some (.al 13, s0 :: s1 :: s2 :: s3 :: s4 :: s5 :: s6 :: s7 :: s8 :: s9 :: s10 :: s11 :: s12 :: .ow o :: r) := rfl
theorem ev_14 {s0 s1 s2 s3 s4 s5 s6 s7 s8 s9 s10 s11 s12 s13 : Sl} {d : Dv} {r : Rho} : eVar 14 (s0 :: s1 :: s2 :: s3 :: s4 :: s5 :: s6 :: s7 :: s8 :: s9 :: s10 :: s11 :: s12 :: s13 :: .sh d :: r) = some (.sh d, s0 :: s1 :: s2 :: s3 :: s4 :: s5 :: s6 :: s7 :: s8 :: s9 :: s10 :: s11 :: s12 :: s13 :: .sh d :: r) := rfl
theorem eva_14 {s0 s1 s2 s3 s4 s5 s6 s7 s8 s9 s10 s11 s12 s13 : Sl} {o : Ob} {r : Rho} : eVar 14 (s0 :: s1 :: s2 :: s3 :: s4 :: s5 :: s6 :: s7 :: s8 :: s9 :: s10 :: s11 :: s12 :: s13 :: .ow o :: r) = some (.al 14, s0 :: s1 :: s2 :: s3 :: s4 :: s5 :: s6 :: s7 :: s8 :: s9 :: s10 :: s11 :: s12 :: s13 :: .ow o :: r) := rfl
theorem ev_15 {s0 s1 s2 s3 s4 s5 s6 s7 s8 s9 s10 s11 s12 s13 s14 : Sl} {d : Dv} {r : Rho} : eVar 15 (s0 :: s1 :: s2 :: s3 :: s4 :: s5 :: s6 :: s7 :: s8 :: s9 :: s10 :: s11 :: s12 :: s13 :: s14 :: .sh d :: r) = some (.sh d, s0 :: s1 :: s2 :: s3 :: s4 :: s5 :: s6 :: s7 :: s8 :: s9 :: s10 :: s11 :: s12 :: s13 :: s14 :: .sh d :: r) := rfl
theorem eva_15 {s0 s1 s2 s3 s4 s5 s6 s7 s8 s9 s10 s11 s12 s13 s14 : Sl} {o : Ob} {r : Rho} : eVar 15 (s0 :: s1 :: s2 :: s3 :: s4 :: s5 :: s6 :: s7 :: s8 :: s9 :: s10 :: s11 :: s12 :: s13 :: s14 :: .ow o :: r) = some (.al 15, s0 :: s1 :: s2 :: s3 :: s4 :: s5 :: s6 :: s7 :: s8 :: s9 :: s10 :: s11 :: s12 :: s13 :: s14 :: .ow o :: r) := rfl
theorem ev_16 {s0 s1 s2 s3 s4 s5 s6 s7 s8 s9 s10 s11 s12 s13 s14 s15 : Sl} {d : Dv} {r : Rho} : eVar 16 (s0 :: s1 :: s2 :: s3 :: s4 :: s5 :: s6 :: s7 :: s8 :: s9 :: s10 :: s11 :: s12 :: s13 :: s14 :: s15 :: .sh d :: r) = some (.sh d, s0 :: s1 :: s2 :: s3 :: s4 :: s5 :: s6 :: s7 :: s8 :: s9 :: s10 :: s11 :: s12 :: s13 :: s14 :: s15 :: .sh d :: r) := rfl
theorem eva_16 {s0 s1 s2 s3 s4 s5 s6 s7 s8 s9 s10 s11 s12 s13 s14 s15 : Sl} {o : Ob} {r : Rho} : eVar 16 (s0 :: s1 :: s2 :: s3 :: s4 :: s5 :: s6 :: s7 :: s8 :: s9 :: s10 :: s11 :: s12 :: s13 :: s14 :: s15 :: .ow o :: r) = some (.al 16, s0 :: s1 :: s2 :: s3 :: s4 :: s5 :: s6 :: s7 :: s8 :: s9 :: s10 :: s11 :: s12 :: s13 :: s14 :: s15 :: .ow o :: r) := rfl
theorem ev_17 {s0 s1 s2 s3 s4 s5 s6 s7 s8 s9 s10 s11 s12 s13 s14 s15 s16 : Sl} {d : Dv} {r : Rho} : eVar 17 (s0 :: s1 :: s2 :: s3 :: s4 :: s5 :: s6 :: s7 :: s8 :: s9 :: s10 :: s11 :: s12 :: s13 :: s14 :: s15 :: s16 :: .sh d :: r) = some (.sh d, s0 :: s1 :: s2 :: s3 :: s4 :: s5 :: s6 :: s7 :: s8 :: s9 :: s10 :: s11 :: s12 :: s13 :: s14 :: s15 :: s16 :: .sh d :: r) := rfl
theorem eva_17 {s0 s1 s2 s3 s4 s5 s6 s7 s8 s9 s10 s11 s12 s13 s14 s15 s16 : Sl} {o : Ob} {r : Rho} : eVar 17 (s0 :: s1 :: s2 :: s3 :: s4 :: s5 :: s6 :: s7 :: s8 :: s9 :: s10 :: s11 :: s12 :: s13 :: s14 :: s15 :: s16 :: .ow o :: r) = some (.al 17, s0 :: s1 :: s2 :: s3 :: s4 :: s5 :: s6 :: s7 :: s8 :: s9 :: s10 :: s11 :: s12 :: s13 :: s14 :: s15 :: s16 :: .ow o :: r) := rfl
theorem ev_18 {s0 s1 s2 s3 s4 s5 s6 s7 s8 s9 s10 s11 s12 s13 s14 s15 s16 s17 : Sl} {d : Dv} {r : Rho} : eVar 18 (s0 :: s1 :: s2 :: s3 :: s4 :: s5 :: s6 :: s7 :: s8 :: s9 :: s10 :: s11 :: s12 :: s13 :: s14 :: s15 :: s16 :: s17 :: .sh d :: r) = some (.sh d, s0 :: s1 :: s2 :: s3 :: s4 :: s5 :: s6 :: s7 :: s8 :: s9 :: s10 :: s11 :: s12 :: s13 :: s14 :: s15 :: s16 :: s17 :: .sh d :: r) := rfl
theorem eva_18 {s0 s1 s2 s3 s4 s5 s6 s7 s8 s9 s10 s11 s12 s13 s14 s15 s16 s17 : Sl} {o : Ob} {r : Rho} : eVar 18 (s0 :: s1 :: s2 :: s3 :: s4 :: s5 :: s6 :: s7 :: s8 :: s9 :: s10 :: s11 :: s12 :: s13 :: s14 :: s15 :: s16 :: s17 :: .ow o :: r) = some (.al 18, s0 :: s1 :: s2 :: s3 :: s4 :: s5 :: s6 :: s7 :: s8 :: s9 :: s10 :: s11 :: s12 :: s13 :: s14 :: s15 :: s16 :: s17 :: .ow o :: r) := rfl
theorem ev_19 {s0 s1 s2 s3 s4 s5 s6 s7 s8 s9 s10 s11 s12 s13 s14 s15 s16 s17 s18 : Sl} {d : Dv} {r : Rho} : eVar 19 (s0 :: s1 :: s2 :: s3 :: s4 :: s5 :: s6 :: s7 :: s8 :: s9 :: s10 :: s11 :: s12 :: s13 :: s14 :: s15 :: s16 :: s17 :: s18 :: .sh d :: r) = some (.sh d, s0 :: s1 :: s2 :: s3 :: s4 :: s5 :: s6 :: s7 :: s8 :: s9 :: s10 :: s11 :: s12 :: s13 :: s14 :: s15 :: s16 :: s17 :: s18 :: .sh d :: r) := rfl
theorem eva_19 {s0 s1 s2 s3 s4 s5 s6 s7 s8 s9 s10 s11 s12 s13 s14 s15 s16 s17 s18 : Sl} {o : Ob} {r : Rho} : eVar 19 (s0 :: s1 :: s2 :: s3 :: s4 :: s5 :: s6 :: s7 :: s8 :: s9 :: s10 :: s11 :: s12 :: s13 :: s14 :: s15 :: s16 :: s17 :: s18 :: .ow o :: r) = some (.al 19, s0 :: s1 :: s2 :: s3 :: s4 :: s5 :: s6 :: s7 :: s8 :: s9 :: s10 :: s11 :: s12 :: s13 :: s14 :: s15 :: s16 :: s17 :: s18 :: .ow o :: r) := rfl
theorem ev_20 {s0 s1 s2 s3 s4 s5 s6 s7 s8 s9 s10 s11 s12 s13 s14 s15 s16 s17 s18 s19 : Sl} {d : Dv} {r : Rho} : eVar 20 (s0 :: s1 :: s2 :: s3 :: s4 :: s5 :: s6 :: s7 :: s8 :: s9 :: s10 :: s11 :: s12 :: s13 :: s14 :: s15 :: s16 :: s17 :: s18 :: s19 :: .sh d :: r) = some (.sh d, s0 :: s1 :: s2 :: s3 :: s4 :: s5 :: s6 :: s7 :: s8 :: s9 :: s10 :: s11 :: s12 :: s13 :: s14 :: s15 :: s16 :: s17 :: s18 :: s19 :: .sh d :: r) := rfl
theorem eva_20 {s0 s1 s2 s3 s4 s5 s6 s7 s8 s9 s10 s11 s12 s13 s14 s15 s16 s17 s18 s19 : Sl} {o : Ob} {r : Rho} : eVar 20 (s0 :: s1 :: s2 :: s3 :: s4 :: s5 :: s6 :: s7 :: s8 :: s9 :: s10 :: s11 :: s12 :: s13 :: s14 :: s15 :: s16 :: s17 :: s18 :: s19 :: .ow o :: r) = some (.al 20, s0 :: s1 :: s2 :: s3 :: s4 :: s5 :: s6 :: s7 :: s8 :: s9 :: s10 :: s11 :: s12 :: s13 :: s14 :: s15 :: s16 :: s17 :: s18 :: s19 :: .ow o :: r) := rfl
theorem ev_21 {s0 s1 s2 s3 s4 s5 s6 s7 s8 s9 s10 s11 s12 s13 s14 s15 s16 s17 s18 s19 s20 : Sl} {d : Dv} {r : Rho} : eVar 21 (s0 :: s1 :: s2 :: s3 :: s4 :: s5 :: s6 :: s7 :: s8 :: s9 :: s10 :: s11 :: s12 :: s13 :: s14 :: s15 :: s16 :: s17 :: s18 :: s19 :: s20 :: .sh d :: r) = some (.sh d, s0 :: s1 :: s2 :: s3 :: s4 :: s5 :: s6 :: s7 :: s8 :: s9 :: s10 :: s11 :: s12 :: s13 :: s14 :: s15 :: s16 :: s17 :: s18 :: s19 :: s20 :: .sh d :: r) := rfl
theorem eva_21 {s0 s1 s2 s3 s4 s5 s6 s7 s8 s9 s10 s11 s12 s13 s14 s15 s16 s17 s18 s19 s20 : Sl} {o : Ob} {r : Rho} : eVar 21 (s0 :: s1 :: s2 :: s3 :: s4 :: s5 :: s6 :: s7 :: s8 :: s9 :: s10 :: s11 :: s12 :: s13 :: s14 :: s15 :: s16 :: s17 :: s18 :: s19 :: s20 :: .ow o :: r) = some (.al 21, s0 :: s1 :: s2 :: s3 :: s4 :: s5 :: s6 :: s7 :: s8 :: s9 :: s10 :: s11 :: s12 :: s13 :: s14 :: s15 :: s16 :: s17 :: s18 :: s19 :: s20 :: .ow o :: r) := rfl
theorem ev_22 {s0 s1 s2 s3 s4 s5 s6 s7 s8 s9 s10 s11 s12 s13 s14 s15 s16 s17 s18 s19 s20 s21 : Sl} {d : Dv} {r : Rho} : eVar 22 (s0 :: s1 :: s2 :: s3 :: s4 :: s5 :: s6 :: s7 :: s8 :: s9 :: s10 :: s11 :: s12 :: s13 :: s14 :: s15 :: s16 :: s17 :: s18 :: s19 :: s20 :: s21 :: .sh d :: r) = some (.sh d, s0 :: s1 :: s2 :: s3 :: s4 :: s5 :: s6 :: s7 :: s8 :: s9 :: s10 :: s11 :: s12 :: s13 :: s14 :: s15 :: s16 :: s17 :: s18 :: s19 :: s20 :: s21 :: .sh d :: r) := rfl
theorem eva_22 {s0 s1 s2 s3 s4 s5 s6 s7 s8 s9 s10 s11 s12 s13 s14 s15 s16 s17 s18 s19 s20 s21 : Sl} {o : Ob} {r : Rho} : eVar 22 (s0 :: s1 :: s2 :: s3 :: s4 :: s5 :: s6 :: s7 :: s8 :: s9 :: s10 :: s11 :: s12 :: s13 :: s14 :: s15 :: s16 :: s17 :: s18 :: s19 :: s20 :: s21 :: .ow o :: r) = some (.al 22, s0 :: s1 :: s2 :: s3 :: s4 :: s5 :: s6 :: s7 :: s8 :: s9 :: s10 :: s11 :: s12 :: s13 :: s14 :: s15 :: s16 :: s17 :: s18 :: s19 :: s20 :: s21 :: .ow o :: r) := rfl
theorem ev_23 {s0 s1 s2 s3 s4 s5 s6 s7 s8 s9 s10 s11 s12 s13 s14 s15 s16 s17 s18 s19 s20 s21 s22 : Sl} {d : Dv} {r : Rho} : eVar 23 (s0 :: s1 :: s2 :: s3 :: s4 :: s5 :: s6 :: s7 :: s8 :: s9 :: s10 :: s11 :: s12 :: s13 :: s14 :: s15 :: s16 :: s17 :: s18 :: s19 :: s20 :: s21 :: s22 :: .sh d :: r) = some (.sh d, s0 :: s1 :: s2 :: s3 :: s4 :: s5 :: s6 :: s7 :: s8 :: s9 :: s10 :: s11 :: s12 :: s13 :: s14 :: s15 :: s16 :: s17 :: s18 :: s19 :: s20 :: s21 :: s22 :: .sh d :: r) := rfl
theorem eva_23 {s0 s1 s2 s3 s4 s5 s6 s7 s8 s9 s10 s11 s12 s13 s14 s15 s16 s17 s18 s19 s20 s21 s22 : Sl} {o : Ob} {r : Rho} : eVar 23 (s0 :: s1 :: s2 :: s3 :: s4 :: s5 :: s6 :: s7 :: s8 :: s9 :: s10 :: s11 :: s12 :: s13 :: s14 :: s15 :: s16 :: s17 :: s18 :: s19 :: s20 :: s21 :: s22 :: .ow o :: r) = some (.al 23, s0 :: s1 :: s2 :: s3 :: s4 :: s5 :: s6 :: s7 :: s8 :: s9 :: s10 :: s11 :: s12 :: s13 :: s14 :: s15 :: s16 :: s17 :: s18 :: s19 :: s20 :: s21 :: s22 :: .ow o :: r) := rfl
theorem ev_24 {s0 s1 s2 s3 s4 s5 s6 s7 s8 s9 s10 s11 s12 s13 s14 s15 s16 s17 s18 s19 s20 s21 s22 s23 : Sl} {d : Dv} {r : Rho} : eVar 24 (s0 :: s1 :: s2 :: s3 :: s4 :: s5 :: s6 :: s7 :: s8 :: s9 :: s10 :: s11 :: s12 :: s13 :: s14 :: s15 :: s16 :: s17 :: s18 :: s19 :: s20 :: s21 :: s22 :: s23 :: .sh d :: r) = some (.sh d, s0 :: s1 :: s2 :: s3 :: s4 :: s5 :: s6 :: s7 :: s8 :: s9 :: s10 :: s11 :: s12 :: s13 :: s14 :: s15 :: s16 :: s17 :: s18 :: s19 :: s20 :: s21 :: s22 :: s23 :: .sh d :: r) := rfl
theorem eva_24 {s0 s1 s2 s3 s4 s5 s6 s7 s8 s9 s10 s11 s12 s13 s14 s15 s16 s17 s18 s19 s20 s21 s22 s23 : Sl} {o : Ob} {r : Rho} : eVar 24 (s0 :: s1 :: s2 :: s3 :: s4 :: s5 :: s6 :: s7 :: s8 :: s9 :: s10 :: s11 :: s12 :: s13 :: s14 :: s15 :: s16 :: s17 :: s18 :: s19 :: s20 :: s21 :: s22 :: s23 :: .ow o :: r) = some (.al 24, s0 :: s1 :: s2 :: s3 :: s4 :: s5 :: s6 :: s7 :: s8 :: s9 :: s10 :: s11 :: s12 :: s13 :: s14 :: s15 :: s16 :: s17 :: s18 :: s19 :: s20 :: s21 :: s22 :: s23 :: .ow o :: r) := rfl
theorem ev_25 {s0 s1 s2 s3 s4 s5 s6 s7 s8 s9 s10 s11 s12 s13 s14 s15 s16 s17 s18 s19 s20 s21 s22 s23 s24 : Sl} {d : Dv} {r : Rho} : eVar 25 (s0 :: s1 :: s2 :: s3 :: s4 :: s5 :: s6 :: s7 :: s8 :: s9 :: s10 :: s11 :: s12 :: s13 :: s14 :: s15 :: s16 :: s17 :: s18 :: s19 :: s20 :: s21 :: s22 :: s23 :: s24 :: .sh d :: r) = some (.sh d, s0 :: s1 :: s2 :: s3 :: s4 :: s5 :: s6 :: s7 :: s8 :: s9 :: s10 :: s11 :: s12 :: s13 :: s14 :: s15 :: s16 :: s17 :: s18 :: s19 :: s20 :: s21 :: s22 :: s23 :: s24 :: .sh d :: r) := rfl
theorem eva_25 {s0 s1 s2 s3 s4 s5 s6 s7 s8 s9 s10 s11 s12 s13 s14 s15 s16 s17 s18 s19 s20 s21 s22 s23 s24 : Sl} {o : Ob} {r : Rho} : eVar 25 (s0 :: s1 :: s2 :: s3 :: s4 :: s5 :: s6 :: s7 :: s8 :: s9 :: s10 :: s11 :: s12 :: s13 :: s14 :: s15 :: s16 :: s17 :: s18 :: s19 :: s20 :: s21 :: s22 :: s23 :: s24 :: .ow o :: r) = some (.al 25, s0 :: s1 :: s2 :: s3 :: s4 :: s5 :: s6 :: s7 :: s8 :: s9 :: s10 :: s11 :: s12 :: s13 :: s14 :: s15 :: s16 :: s17 :: s18 :: s19 :: s20 :: s21 :: s22 :: s23 :: s24 :: .ow o :: r) := rfl
theorem ev_26 {s0 s1 s2 s3 s4 s5 s6 s7 s8 s9 s10 s11 s12 s13 s14 s15 s16 s17 s18 s19 s20 s21 s22 s23 s24 s25 : Sl} {d : Dv} {r : Rho} : eVar 26 (s0 :: s1 :: s2 :: s3 :: s4 :: s5 :: s6 :: s7 :: s8 :: s9 :: s10 :: s11 :: s12 :: s13 :: s14 :: s15 :: s16 :: s17 :: s18 :: s19 :: s20 :: s21 :: s22 :: s23 :: s24 :: s25 :: .sh d :: r) = some (.sh d, s0 :: s1 :: s2 :: s3 :: s4 :: s5 :: s6 :: s7 :: s8 :: s9 :: s10 :: s11 :: s12 :: s13 :: s14 :: s15 :: s16 :: s17 :: s18 :: s19 :: s20 :: s21 :: s22 :: s23 :: s24 :: s25 :: .sh d :: r) := rfl
theorem eva_26 {s0 s1 s2 s3 s4 s5 s6 s7 s8 s9 s10 s11 s12 s13 s14 s15 s16 s17 s18 s19 s20 s21 s22 s23 s24 s25 : Sl} {o : Ob} {r : Rho} : eVar 26 (s0 :: s1 :: s2 :: s3 :: s4 :: s5 :: s6 :: s7 :: s8 :: s9 :: s10 :: s11 :: s12 :: s13 :: s14 :: s15 :: s16 :: s17 :: s18 :: s19 :: s20 :: s21 :: s22 :: s23 :: s24 :: s25 :: .ow o :: r) = some (.al 26, s0 :: s1 :: s2 :: s3 :: s4 :: s5 :: s6 :: s7 :: s8 :: s9 :: s10 :: s11 :: s12 :: s13 :: s14 :: s15 :: s16 :: s17 :: s18 :: s19 :: s20 :: s21 :: s22 :: s23 :: s24 :: s25 :: .ow o :: r) := rfl
theorem ev_27 {s0 s1 s2 s3 s4 s5 s6 s7 s8 s9 s10 s11 s12 s13 s14 s15 s16 s17 s18 s19 s20 s21 s22 s23 s24 s25 s26 : Sl} {d : Dv} {r : Rho} : eVar 27 (s0 :: s1 :: s2 :: s3 :: s4 :: s5 :: s6 :: s7 :: s8 :: s9 :: s10 :: s11 :: s12 :: s13 :: s14 :: s15 :: s16 :: s17 :: s18 :: s19 :: s20 :: s21 :: s22 :: s23 :: s24 :: s25 :: s26 :: .sh d :: r) = some (.sh d, s0 :: s1 :: s2 :: s3 :: s4 :: s5 :: s6 :: s7 :: s8 :: s9 :: s10 :: s11 :: s12 :: s13 :: s14 :: s15 :: s16 :: s17 :: s18 :: s19 :: s20 :: s21 :: s22 :: s23 :: s24 :: s25 :: s26 :: .sh d :: r) := rfl
theorem eva_27 {s0 s1 s2 s3 s4 s5 s6 s7 s8 s9 s10 s11 s12 s13 s14 s15 s16 s17 s18 s19 s20 s21 s22 s23 s24 s25 s26 : Sl} {o : Ob} {r : Rho} : eVar 27 (s0 :: s1 :: s2 :: s3 :: s4 :: s5 :: s6 :: s7 :: s8 :: s9 :: s10 :: s11 :: s12 :: s13 :: s14 :: s15 :: s16 :: s17 :: s18 :: s19 :: s20 :: s21 :: s22 :: s23 :: s24 :: s25 :: s26 :: .ow o :: r) = some (.al 27, s0 :: s1 :: s2 :: s3 :: s4 :: s5 :: s6 :: s7 :: s8 :: s9 :: s10 :: s11 :: s12 :: s13 :: s14 :: s15 :: s16 :: s17 :: s18 :: s19 :: s20 :: s21 :: s22 :: s23 :: s24 :: s25 :: s26 :: .ow o :: r) := rfl
theorem ev_28 {s0 s1 s2 s3 s4 s5 s6 s7 s8 s9 s10 s11 s12 s13 s14 s15 s16 s17 s18 s19 s20 s21 s22 s23 s24 s25 s26 s27 : Sl} {d : Dv} {r : Rho} : eVar 28 (s0 :: s1 :: s2 :: s3 :: s4 :: s5 :: s6 :: s7 :: s8 :: s9 :: s10 :: s11 :: s12 :: s13 :: s14 :: s15 :: s16 :: s17 :: s18 :: s19 :: s20 :: s21 :: s22 :: s23 :: s24 :: s25 :: s26 :: s27 :: .sh d :: r) = some (.sh d, s0 :: s1 :: s2 :: s3 :: s4 :: s5 :: s6 :: s7 :: s8 :: s9 :: s10 :: s11 :: s12 :: s13 :: s14 :: s15 :: s16 :: s17 :: s18 :: s19 :: s20 :: s21 :: s22 :: s23 :: s24 :: s25 :: s26 :: s27 :: .sh d :: r) := rfl
theorem eva_28 {s0 s1 s2 s3 s4 s5 s6 s7 s8 s9 s10 s11 s12 s13 s14 s15 s16 s17 s18 s19 s20 s21 s22 s23 s24 s25 s26 s27 : Sl} {o : Ob} {r : Rho} : eVar 28 (s0 :: s1 :: s2 :: s3 :: s4 :: s5 :: s6 :: s7 :: s8 :: s9 :: s10 :: s11 :: s12 :: s13 :: s14 :: s15 :: s16 :: s17 :: s18 :: s19 :: s20 :: s21 :: s22 :: s23 :: s24 :: s25 :: s26 :: s27 :: .ow o :: r) = some (.al 28, s0 :: s1 :: s2 :: s3 :: s4 :: s5 :: s6 :: s7 :: s8 :: s9 :: s10 :: s11 :: s12 :: s13 :: s14 :: s15 :: s16 :: s17 :: s18 :: s19 :: s20 :: s21 :: s22 :: s23 :: s24 :: s25 :: s26 :: s27 :: .ow o :: r) := rfl
theorem ev_29 {s0 s1 s2 s3 s4 s5 s6 s7 s8 s9 s10 s11 s12 s13 s14 s15 s16 s17 s18 s19 s20 s21 s22 s23 s24 s25 s26 s27 s28 : Sl} {d : Dv} {r : Rho} : eVar 29 (s0 :: s1 :: s2 :: s3 :: s4 :: s5 :: s6 :: s7 :: s8 :: s9 :: s10 :: s11 :: s12 :: s13 :: s14 :: s15 :: s16 :: s17 :: s18 :: s19 :: s20 :: s21 :: s22 :: s23 :: s24 :: s25 :: s26 :: s27 :: s28 :: .sh d :: r) = some (.sh d, s0 :: s1 :: s2 :: s3 :: s4 :: s5 :: s6 :: s7 :: s8 :: s9 :: s10 :: s11 :: s12 :: s13 :: s14 :: s15 :: s16 :: s17 :: s18 :: s19 :: s20 :: s21 :: s22 :: s23 :: s24 :: s25 :: s26 :: s27 :: s28 :: .sh d :: r) := rfl
theorem eva_29 {s0 s1 s2 s3 s4 s5 s6 s7 s8 s9 s10 s11 s12 s13 s14 s15 s16 s17 s18 s19 s20 s21 s22 s23 s24 s25 s26 s27 s28 : Sl} {o : Ob} {r : Rho} : eVar 29 (s0 :: s1 :: s2 :: s3 :: s4 :: s5 :: s6 :: s7 :: s8 :: s9 :: s10 :: s11 :: s12 :: s13 :: s14 :: s15 :: s16 :: s17 :: s18 :: s19 :: s20 :: s21 :: s22 :: s23 :: s24 :: s25 :: s26 :: s27 :: s28 :: .ow o :: r) = some (.al 29, s0 :: s1 :: s2 :: s3 :: s4 :: s5 :: s6 :: s7 :: s8 :: s9 :: s10 :: s11 :: s12 :: s13 :: s14 :: s15 :: s16 :: s17 :: s18 :: s19 :: s20 :: s21 :: s22 :: s23 :: s24 :: s25 :: s26 :: s27 :: s28 :: .ow o :: r) := rfl
theorem ev_30 {s0 s1 s2 s3 s4 s5 s6 s7 s8 s9 s10 s11 s12 s13 s14 s15 s16 s17 s18 s19 s20 s21 s22 s23 s24 s25 s26 s27 s28 s29 : Sl} {d : Dv} {r : Rho} : eVar 30 (s0 :: s1 :: s2 :: s3 :: s4 :: s5 :: s6 :: s7 :: s8 :: s9 :: s10 :: s11 :: s12 :: s13 :: s14 :: s15 :: s16 :: s17 :: s18 :: s19 :: s20 :: s21 :: s22 :: s23 :: s24 :: s25 :: s26 :: s27 :: s28 :: s29 :: .sh d :: r) = some (.sh d, s0 :: s1 :: s2 :: s3 :: s4 :: s5 :: s6 :: s7 :: s8 :: s9 :: s10 :: s11 :: s12 :: s13 :: s14 :: s15 :: s16 :: s17 :: s18 :: s19 :: s20 :: s21 :: s22 :: s23 :: s24 :: s25 :: s26 :: s27 :: s28 :: s29 :: .sh d :: r) := rfl
theorem eva_30 {s0 s1 s2 s3 s4 s5 s6 s7 s8 s9 s10 s11 s12 s13 s14 s15 s16 s17 s18 s19 s20 s21 s22 s23 s24 s25 s26 s27 s28 s29 : Sl} {o : Ob} {r : Rho} : eVar 30 (s0 :: s1 :: s2 :: s3 :: s4 :: s5 :: s6 :: s7 :: s8 :: s9 :: s10 :: s11 :: s12 :: s13 :: s14 :: s15 :: s16 :: s17 :: s18 :: s19 :: s20 :: s21 :: s22 :: s23 :: s24 :: s25 :: s26 :: s27 :: s28 :: s29 :: .ow o :: r) = some (.al 30, s0 :: s1 :: s2 :: s3 :: s4 :: s5 :: s6 :: s7 :: s8 :: s9 :: s10 :: s11 :: s12 :: s13 :: s14 :: s15 :: s16 :: s17 :: s18 :: s19 :: s20 :: s21 :: s22 :: s23 :: s24 :: s25 :: s26 :: s27 :: s28 :: s29 :: .ow o :: r) := rfl
theorem ev_31 {s0 s1 s2 s3 s4 s5 s6 s7 s8 s9 s10 s11 s12 s13 s14 s15 s16 s17 s18 s19 s20 s21 s22 s23 s24 s25 s26 s27 s28 s29 s30 : Sl} {d : Dv} {r : Rho} : eVar 31 (s0 :: s1 :: s2 :: s3 :: s4 :: s5 :: s6 :: s7 :: s8 :: s9 :: s10 :: s11 :: s12 :: s13 :: s14 :: s15 :: s16 :: s17 :: s18 :: s19 :: s20 :: s21 :: s22 :: s23 :: s24 :: s25 :: s26 :: s27 :: s28 :: s29 :: s30 :: .sh d :: r) = some (.sh d, s0 :: s1 :: s2 :: s3 :: s4 :: s5 :: s6 :: s7 :: s8 :: s9 :: s10 :: s11 :: s12 :: s13 :: s14 :: s15 :: s16 :: s17 :: s18 :: s19 :: s20 :: s21 :: s22 :: s23 :: s24 :: s25 :: s26 :: s27 :: s28 :: s29 :: s30 :: .sh d :: r) := rfl
theorem eva_31 {s0 s1 s2 s3 s4 s5 s6 s7 s8 s9 s10 s11 s12 s13 s14 s15 s16 s17 s18 s19 s20 s21 s22 s23 s24 s25 s26 s27 s28 s29 s30 : Sl} {o : Ob} {r : Rho} : eVar 31 (s0 :: s1 :: s2 :: s3 :: s4 :: s5 :: s6 :: s7 :: s8 :: s9 :: s10 :: s11 :: s12 :: s13 :: s14 :: s15 :: s16 :: s17 :: s18 :: s19 :: s20 :: s21 :: s22 :: s23 :: s24 :: s25 :: s26 :: s27 :: s28 :: s29 :: s30 :: .ow o :: r) = some (.al 31, s0 :: s1 :: s2 :: s3 :: s4 :: s5 :: s6 :: s7 :: s8 :: s9 :: s10 :: s11 :: s12 :: s13 :: s14 :: s15 :: s16 :: s17 :: s18 :: s19 :: s20 :: s21 :: s22 :: s23 :: s24 :: s25 :: s26 :: s27 :: s28 :: s29 :: s30 :: .ow o :: r) := rfl
theorem ev_32 {s0 s1 s2 s3 s4 s5 s6 s7 s8 s9 s10 s11 s12 s13 s14 s15 s16 s17 s18 s19 s20 s21 s22 s23 s24 s25 s26 s27 s28 s29 s30 s31 : Sl} {d : Dv} {r : Rho} : eVar 32 (s0 :: s1 :: s2 :: s3 :: s4 :: s5 :: s6 :: s7 :: s8 :: s9 :: s10 :: s11 :: s12 :: s13 :: s14 :: s15 :: s16 :: s17 :: s18 :: s19 :: s20 :: s21 :: s22 :: s23 :: s24 :: s25 :: s26 :: s27 :: s28 :: s29 :: s30 :: s31 :: .sh d :: r) = some (.sh d, s0 :: s1 :: s2 :: s3 :: s4 :: s5 :: s6 :: s7 :: s8 :: s9 :: s10 :: s11 :: s12 :: s13 :: s14 :: s15 :: s16 :: s17 :: s18 :: s19 :: s20 :: s21 :: s22 :: s23 :: s24 :: s25 :: s26 :: s27 :: s28 :: s29 :: s30 :: s31 :: .sh d :: r) := rfl
theorem eva_32 {s0 s1 s2 s3 s4 s5 s6 s7 s8 s9 s10 s11 s12 s13 s14 s15 s16 s17 s18 s19 s20 s21 s22 s23 s24 s25 s26 s27 s28 s29 s30 s31 : Sl} {o : Ob} {r : Rho} : eVar 32 (s0 :: s1 :: s2 :: s3 :: s4 :: s5 :: s6 :: s7 :: s8 :: s9 :: s10 :: s11 :: s12 :: s13 :: s14 :: s15 :: s16 :: s17 :: s18 :: s19 :: s20 :: s21 :: s22 :: s23 :: s24 :: s25 :: s26 :: s27 :: s28 :: s29 :: s30 :: s31 :: .ow o :: r) = some (.al 32, s0 :: s1 :: s2 :: s3 :: s4 :: s5 :: s6 :: s7 :: s8 :: s9 :: s10 :: s11 :: s12 :: s13 :: s14 :: s15 :: s16 :: s17 :: s18 :: s19 :: s20 :: s21 :: s22 :: s23 :: s24 :: s25 :: s26 :: s27 :: s28 :: s29 :: s30 :: s31 :: .ow o :: r) := rfl
theorem ev_33 {s0 s1 s2 s3 s4 s5 s6 s7 s8 s9 s10 s11 s12 s13 s14 s15 s16 s17 s18 s19 s20 s21 s22 s23 s24 s25 s26 s27 s28 s29 s30 s31 s32 : Sl} {d : Dv} {r : Rho} : eVar 33 (s0 :: s1 :: s2 :: s3 :: s4 :: s5 :: s6 :: s7 :: s8 :: s9 :: s10 :: s11 :: s12 :: s13 :: s14 :: s15 :: s16 :: s17 :: s18 :: s19 :: s20 :: s21 :: s22 :: s23 :: s24 :: s25 :: s26 :: s27 :: s28 :: s29 :: s30 :: s31 :: s32 :: .sh d :: r) = some (.sh d, s0 :: s1 :: s2 :: s3 :: s4 :: s5 :: s6 :: s7 :: s8 :: s9 :: s10 :: s11 :: s12 :: s13 :: s14 :: s15 :: s16 :: s17 :: s18 :: s19 :: s20 :: s21 :: s22 :: s23 :: s24 :: s25 :: s26 :: s27 :: s28 :: s29 :: s30 :: s31 :: s32 :: .sh d :: r) := rfl
theorem eva_33 {s0 s1 s2 s3 s4 s5 s6 s7 s8 s9 s10 s11 s12 s13 s14 s15 s16 s17 s18 s19 s20 s21 s22 s23 s24 s25 s26 s27 s28 s29 s30 s31 s32 : Sl} {o : Ob} {r : Rho} : eVar 33 (s0 :: s1 :: s2 :: s3 :: s4 :: s5 :: s6 :: s7 :: s8 :: s9 :: s10 :: s11 :: s12 :: s13 :: s14 :: s15 :: s16 :: s17 :: s18 :: s19 :: s20 :: s21 :: s22 :: s23 :: s24 :: s25 :: s26 :: s27 :: s28 :: s29 :: s30 :: s31 :: s32 :: .ow o :: r) = some (.al 33, s0 :: s1 :: s2 :: s3 :: s4 :: s5 :: s6 :: s7 :: s8 :: s9 :: s10 :: s11 :: s12 :: s13 :: s14 :: s15 :: s16 :: s17 :: s18 :: s19 :: s20 :: s21 :: s22 :: s23 :: s24 :: s25 :: s26 :: s27 :: s28 :: s29 :: s30 :: s31 :: s32 :: .ow o :: r) := rfl
theorem ev_34 {s0 s1 s2 s3 s4 s5 s6 s7 s8 s9 s10 s11 s12 s13 s14 s15 s16 s17 s18 s19 s20 s21 s22 s23 s24 s25 s26 s27 s28 s29 s30 s31 s32 s33 : Sl} {d : Dv} {r : Rho} : eVar 34 (s0 :: s1 :: s2 :: s3 :: s4 :: s5 :: s6 :: s7 :: s8 :: s9 :: s10 :: s11 :: s12 :: s13 :: s14 :: s15 :: s16 :: s17 :: s18 :: s19 :: s20 :: s21 :: s22 :: s23 :: s24 :: s25 :: s26 :: s27 :: s28 :: s29 :: s30 :: s31 :: s32 :: s33 :: .sh d :: r) = some (.sh d, s0 :: s1 :: s2 :: s3 :: s4 :: s5 :: s6 :: s7 :: s8 :: s9 :: s10 :: s11 :: s12 :: s13 :: s14 :: s15 :: s16 :: s17 :: s18 :: s19 :: s20 :: s21 :: s22 :: s23 :: s24 :: s25 :: s26 :: s27 :: s28 :: s29 :: s30 :: s31 :: s32 :: s33 :: .sh d :: r) := rfl
theorem eva_34 {s0 s1 s2 s3 s4 s5 s6 s7 s8 s9 s10 s11 s12 s13 s14 s15 s16 s17 s18 s19 s20 s21 s22 s23 s24 s25 s26 s27 s28 s29 s30 s31 s32 s33 : Sl} {o : Ob} {r : Rho} : eVar 34 (s0 :: s1 :: s2 :: s3 :: s4 :: s5 :: s6 :: s7 :: s8 :: s9 :: s10 :: s11 :: s12 :: s13 :: s14 :: s15 :: s16 :: s17 :: s18 :: s19 :: s20 :: s21 :: s22 :: s23 :: s24 :: s25 :: s26 :: s27 :: s28 :: s29 :: s30 :: s31 :: s32 :: s33 :: .ow o :: r) = some (.al 34, s0 :: s1 :: s2 :: s3 :: s4 :: s5 :: s6 :: s7 :: s8 :: s9 :: s10 :: s11 :: s12 :: s13 :: s14 :: s15 :: s16 :: s17 :: s18 :: s19 :: s20 :: s21 :: s22 :: s23 :: s24 :: s25 :: s26 :: s27 :: s28 :: s29 :: s30 :: s31 :: s32 :: s33 :: .ow o :: r) := rfl
theorem ev_35 {s0 s1 s2 s3 s4 s5 s6 s7 s8 s9 s10 s11 s12 s13 s14 s15 s16 s17 s18 s19 s20 s21 s22 s23 s24 s25 s26 s27 s28 s29 s30 s31 s32 s33 s34 : Sl} {d : Dv} {r : Rho} : eVar 35 (s0 :: s1 :: s2 :: s3 :: s4 :: s5 :: s6 :: s7 :: s8 :: s9 :: s10 :: s11 :: s12 :: s13 :: s14 :: s15 :: s16 :: s17 :: s18 :: s19 :: s20 :: s21 :: s22 :: s23 :: s24 :: s25 :: s26 :: s27 :: s28 :: s29 :: s30 :: s31 :: s32 :: s33 :: s34 :: .sh d :: r) = some (.sh d, s0 :: s1 :: s2 :: s3 :: s4 :: s5 :: s6 :: s7 :: s8 :: s9 :: s10 :: s11 :: s12 :: s13 :: s14 :: s15 :: s16 :: s17 :: s18 :: s19 :: s20 :: s21 :: s22 :: s23 :: s24 :: s25 :: s26 :: s27 :: s28 :: s29 :: s30 :: s31 :: s32 :: s33 :: s34 :: .sh d :: r) := rfl
theorem eva_35 {s0 s1 s2 s3 s4 s5 s6 s7 s8 s9 s10 s11 s12 s13 s14 s15 s16 s17 s18 s19 s20 s21 s22 s23 s24 s25 s26 s27 s28 s29 s30 s31 s32 s33 s34 : Sl} {o : Ob} {r : Rho} : eVar 35 (s0 :: s1 :: s2 :: s3 :: s4 :: s5 :: s6 :: s7 :: s8 :: s9 :: s10 :: s11 :: s12 :: s13 :: s14 :: s15 :: s16 :: s17 :: s18 :: s19 :: s20 :: s21 :: s22 :: s23 :: s24 :: s25 :: s26 :: s27 :: s28 :: s29 :: s30 :: s31 :: s32 :: s33 :: s34 :: .ow o :: r) = some (.al 35, s0 :: s1 :: s2 :: s3 :: s4 :: s5 :: s6 :: s7 :: s8 :: s9 :: s10 :: s11 :: s12 :: s13 :: s14 :: s15 :: s16 :: s17 :: s18 :: s19 :: s20 :: s21 :: s22 :: s23 :: s24 :: s25 :: s26 :: s27 :: s28 :: s29 :: s30 :: s31 :: s32 :: s33 :: s34 :: .ow o :: r) := rfl
theorem ev_36 {s0 s1 s2 s3 s4 s5 s6 s7 s8 s9 s10 s11 s12 s13 s14 s15 s16 s17 s18 s19 s20 s21 s22 s23 s24 s25 s26 s27 s28 s29 s30 s31 s32 s33 s34 s35 : Sl} {d : Dv} {r : Rho} : eVar 36 (s0 :: s1 :: s2 :: s3 :: s4 :: s5 :: s6 :: s7 :: s8 :: s9 :: s10 :: s11 :: s12 :: s13 :: s14 :: s15 :: s16 :: s17 :: s18 :: s19 :: s20 :: s21 :: s22 :: s23 :: s24 :: s25 :: s26 :: s27 :: s28 :: s29 :: s30 :: s31 :: s32 :: s33 :: s34 :: s35 :: .sh d :: r) = some (.sh d, s0 :: s1 :: s2 :: s3 :: s4 :: s5 :: s6 :: s7 :: s8 :: s9 :: s10 :: s11 :: s12 :: s13 :: s14 :: s15 :: s16 :: s17 :: s18 :: s19 :: s20 :: s21 :: s22 :: s23 :: s24 :: s25 :: s26 :: s27 :: s28 :: s29 :: s30 :: s31 :: s32 :: s33 :: s34 :: s35 :: .sh d :: r) := rfl
theorem eva_36 {s0 s1 s2 s3 s4 s5 s6 s7 s8 s9 s10 s11 s12 s13 s14 s15 s16 s17 s18 s19 s20 s21 s22 s23 s24 s25 s26 s27 s28 s29 s30 s31 s32 s33 s34 s35 : Sl} {o : Ob} {r : Rho} : eVar 36 (s0 :: s1 :: s2 :: s3 :: s4 :: s5 :: s6 :: s7 :: s8 :: s9 :: s10 :: s11 :: s12 :: s13 :: s14 :: s15 :: s16 :: s17 :: s18 :: s19 :: s20 :: s21 :: s22 :: s23 :: s24 :: s25 :: s26 :: s27 :: s28 :: s29 :: s30 :: s31 :: s32 :: s33 :: s34 :: s35 :: .ow o :: r) = some (.al 36, s0 :: s1 :: s2 :: s3 :: s4 :: s5 :: s6 :: s7 :: s8 :: s9 :: s10 :: s11 :: s12 :: s13 :: s14 :: s15 :: s16 :: s17 :: s18 :: s19 :: s20 :: s21 :: s22 :: s23 :: s24 :: s25 :: s26 :: s27 :: s28 :: s29 :: s30 :: s31 :: s32 :: s33 :: s34 :: s35 :: .ow o :: r) := rfl
theorem ev_37 {s0 s1 s2 s3 s4 s5 s6 s7 s8 s9 s10 s11 s12 s13 s14 s15 s16 s17 s18 s19 s20 s21 s22 s23 s24 s25 s26 s27 s28 s29 s30 s31 s32 s33 s34 s35 s36 : Sl} {d : Dv} {r : Rho} : eVar 37 (s0 :: s1 :: s2 :: s3 :: s4 :: s5 :: s6 :: s7 :: s8 :: s9 :: s10 :: s11 :: s12 :: s13 :: s14 :: s15 :: s16 :: s17 :: s18 :: s19 :: s20 :: s21 :: s22 :: s23 :: s24 :: s25 :: s26 :: s27 :: s28 :: s29 :: s30 :: s31 :: s32 :: s33 :: s34 :: s35 :: s36 :: .sh d :: r) = some (.sh d, s0 :: s1 :: s2 :: s3 :: s4 :: s5 :: s6 :: s7 :: s8 :: s9 :: s10 :: s11 :: s12 :: s13 :: s14 :: s15 :: s16 :: s17 :: s18 :: s19 :: s20 :: s21 :: s22 :: s23 :: s24 :: s25 :: s26 :: s27 :: s28 :: s29 :: s30 :: s31 :: s32 :: s33 :: s34 :: s35 :: s36 :: .sh d :: r) := rfl
theorem eva_37 {s0 s1 s2 s3 s4 s5 s6 s7 s8 s9 s10 s11 s12 s13 s14 s15 s16 s17 s18 s19 s20 s21 s22 s23 s24 s25 s26 s27 s28 s29 s30 s31 s32 s33 s34 s35 s36 : Sl} {o : Ob} {r : Rho} : eVar 37 (s0 :: s1 :: s2 :: s3 :: s4 :: s5 :: s6 :: s7 :: s8 :: s9 :: s10 :: s11 :: s12 :: s13 :: s14 :: s15 :: s16 :: s17 :: s18 :: s19 :: s20 :: s21 :: s22 :: s23 :: s24 :: s25 :: s26 :: s27 :: s28 :: s29 :: s30 :: s31 :: s32 :: s33 :: s34 :: s35 :: s36 :: .ow o :: r) = some (.al 37, s0 :: s1 :: s2 :: s3 :: s4 :: s5 :: s6 :: s7 :: s8 :: s9 :: s10 :: s11 :: s12 :: s13 :: s14 :: s15 :: s16 :: s17 :: s18 :: s19 :: s20 :: s21 :: s22 :: s23 :: s24 :: s25 :: s26 :: s27 :: s28 :: s29 :: s30 :: s31 :: s32 :: s33 :: s34 :: s35 :: s36 :: .ow o :: r) := rfl
theorem ev_38 {s0 s1 s2 s3 s4 s5 s6 s7 s8 s9 s10 s11 s12 s13 s14 s15 s16 s17 s18 s19 s20 s21 s22 s23 s24 s25 s26 s27 s28 s29 s30 s31 s32 s33 s34 s35 s36 s37 : Sl} {d : Dv} {r : Rho} : eVar 38 (s0 :: s1 :: s2 :: s3 :: s4 :: s5 :: s6 :: s7 :: s8 :: s9 :: s10 :: s11 :: s12 :: s13 :: s14 :: s15 :: s16 :: s17 :: s18 :: s19 :: s20 :: s21 :: s22 :: s23 :: s24 :: s25 :: s26 :: s27 :: s28 :: s29 :: s30 :: s31 :: s32 :: s33 :: s34 :: s35 :: s36 :: s37 :: .sh d :: r) = some (.sh d, s0 :: s1 :: s2 :: s3 :: s4 :: s5 :: s6 :: s7 :: s8 :: s9 :: s10 :: s11 :: s12 :: s13 :: s14 :: s15 :: s16 :: s17 :: s18 :: s19 :: s20 :: s21 :: s22 :: s23 :: s24 :: s25 :: s26 :: s27 :: s28 :: s29 :: s30 :: s31 :: s32 :: s33 :: s34 :: s35 :: s36 :: s37 :: .sh d :: r) := rfl
theorem eva_38 {s0 s1 s2 s3 s4 s5 s6 s7 s8 s9 s10 s11 s12 s13 s14 s15 s16 s17 s18 s19 s20 s21 s22 s23 s24 s25 s26 s27 s28 s29 s30 s31 s32 s33 s34 s35 s36 s37 : Sl} {o : Ob} {r : Rho} : eVar 38 (s0 :: s1 :: s2 :: s3 :: s4 :: s5 :: s6 :: s7 :: s8 :: s9 :: s10 :: s11 :: s12 :: s13 :: s14 :: s15 :: s16 :: s17 :: s18 :: s19 :: s20 :: s21 :: s22 :: s23 :: s24 :: s25 :: s26 :: s27 :: s28 :: s29 :: s30 :: s31 :: s32 :: s33 :: s34 :: s35 :: s36 :: s37 :: .ow o :: r) = some (.al 38, s0 :: s1 :: s2 :: s3 :: s4 :: s5 :: s6 :: s7 :: s8 :: s9 :: s10 :: s11 :: s12 :: s13 :: s14 :: s15 :: s16 :: s17 :: s18 :: s19 :: s20 :: s21 :: s22 :: s23 :: s24 :: s25 :: s26 :: s27 :: s28 :: s29 :: s30 :: s31 :: s32 :: s33 :: s34 :: s35 :: s36 :: s37 :: .ow o :: r) := rfl
theorem ev_39 {s0 s1 s2 s3 s4 s5 s6 s7 s8 s9 s10 s11 s12 s13 s14 s15 s16 s17 s18 s19 s20 s21 s22 s23 s24 s25 s26 s27 s28 s29 s30 s31 s32 s33 s34 s35 s36 s37 s38 : Sl} {d : Dv} {r : Rho} : eVar 39 (s0 :: s1 :: s2 :: s3 :: s4 :: s5 :: s6 :: s7 :: s8 :: s9 :: s10 :: s11 :: s12 :: s13 :: s14 :: s15 :: s16 :: s17 :: s18 :: s19 :: s20 :: s21 :: s22 :: s23 :: s24 :: s25 :: s26 :: s27 :: s28 :: s29 :: s30 :: s31 :: s32 :: s33 :: s34 :: s35 :: s36 :: s37 :: s38 :: .sh d :: r) = some (.sh d, s0 :: s1 :: s2 :: s3 :: s4 :: s5 :: s6 :: s7 :: s8 :: s9 :: s10 :: s11 :: s12 :: s13 :: s14 :: s15 :: s16 :: s17 :: s18 :: s19 :: s20 :: s21 :: s22 :: s23 :: s24 :: s25 :: s26 :: s27 :: s28 :: s29 :: s30 :: s31 :: s32 :: s33 :: s34 :: s35 :: s36 :: s37 :: s38 :: .sh d :: r) := rfl
theorem eva_39 {s0 s1 s2 s3 s4 s5 s6 s7 s8 s9 s10 s11 s12 s13 s14 s15 s16 s17 s18 s19 s20 s21 s22 s23 s24 s25 s26 s27 s28 s29 s30 s31 s32 s33 s34 s35 s36 s37 s38 : Sl} {o : Ob} {r : Rho} : eVar 39 (s0 :: s1 :: s2 :: s3 :: s4 :: s5 :: s6 :: s7 :: s8 :: s9 :: s10 :: s11 :: s12 :: s13 :: s14 :: s15 :: s16 :: s17 :: s18 :: s19 :: s20 :: s21 :: s22 :: s23 :: s24 :: s25 :: s26 :: s27 :: s28 :: s29 :: s30 :: s31 :: s32 :: s33 :: s34 :: s35 :: s36 :: s37 :: s38 :: .ow o :: r) = some (.al 39, s0 :: s1 :: s2 :: s3 :: s4 :: s5 :: s6 :: s7 :: s8 :: s9 :: s10 :: s11 :: s12 :: s13 :: s14 :: s15 :: s16 :: s17 :: s18 :: s19 :: s20 :: s21 :: s22 :: s23 :: s24 :: s25 :: s26 :: s27 :: s28 :: s29 :: s30 :: s31 :: s32 :: s33 :: s34 :: s35 :: s36 :: s37 :: s38 :: .ow o :: r) := rfl
section
variable {α β σ τ r : Type} {P : Prop}
theorem ite_elim {α : Type} {c : Bool} {x y : Option α} {r : α} (h : (if c = true then x else y) = some r) (a : c = true → x = some r → P) (b : c = false → y = some r → P) : P := by
  rcases ite_inv h with ⟨h1, h2⟩ | ⟨h1, h2⟩
  · exact a h1 h2
  · exact b h1 h2
theorem qs_nx {h : MS} {Q : Fl → Prop} {ρ : Rho} (a : Wp (h ρ) Q) : QS h Q (.nx ρ) := a
theorem qs_rt {h : MS} {Q : Fl → Prop} {rv : Rv} {ρ : Rho} (a : Q (.rt rv ρ)) : QS h Q (.rt rv ρ) := a
theorem qs_bk {h : MS} {Q : Fl → Prop} {ρ : Rho} (a : Q (.bk ρ)) : QS h Q (.bk ρ) := a
theorem qs_ct {h : MS} {Q : Fl → Prop} {ρ : Rho} (a : Q (.ct ρ)) : QS h Q (.ct ρ) := a
theorem rt_i {as as' : List Sl} {ix : List Nat} {r rv : Rv} {ρ : Rho} (h : r = rv) (h2 : outA 0 ix as ρ = as') : Rt as ix rv as' (.rt r ρ) := ⟨h, h2⟩
theorem rt_n {as as' : List Sl} {ix : List Nat} {rv : Rv} {ρ : Rho} (h : rv = .sh .none) (h2 : outA 0 ix as ρ = as') : Rt as ix rv as' (.nx ρ) := ⟨h, h2⟩
theorem pb_nx {R : σ → Rho → Prop} {Qr : r → Fl → Prop} {s : σ} {ρ : Rho} (h : R s ρ) : Pb R Qr (.nx s) (.nx ρ) := ⟨ρ, .inl rfl, h⟩
theorem pb_ct {R : σ → Rho → Prop} {Qr : r → Fl → Prop} {s : σ} {ρ : Rho} (h : R s ρ) : Pb R Qr (.nx s) (.ct ρ) := ⟨ρ, .inr rfl, h⟩
theorem pb_bk {R : σ → Rho → Prop} {Qr : r → Fl → Prop} {s : σ} {ρ : Rho} (h : R s ρ) : Pb R Qr (.bk s) (.bk ρ) := ⟨ρ, rfl, h⟩
theorem pb_rt {R : σ → Rho → Prop} {Qr : r → Fl → Prop} {x : r} {rv : Rv} {ρ : Rho} (h : Qr x (.rt rv ρ)) : Pb R Qr (.rt x) (.rt rv ρ) := ⟨rv, ρ, rfl, h⟩
theorem jn {R : σ → Rho → Prop} {s : σ} {ρ : Rho} (h : R s ρ) : ∃ ρ', Fl.nx ρ = .nx ρ' ∧ R s ρ' := ⟨ρ, rfl, h⟩
theorem lf_n {R : σ → Rho → Prop} {s : σ} {ρ : Rho} (h : R s ρ) : ∃ ρ', (Fl.nx ρ = .nx ρ' ∨ Fl.nx ρ = .ct ρ') ∧ R s ρ' := ⟨ρ, .inl rfl, h⟩
theorem lf_c {R : σ → Rho → Prop} {s : σ} {ρ : Rho} (h : R s ρ) : ∃ ρ', (Fl.ct ρ = .nx ρ' ∨ Fl.ct ρ = .ct ρ') ∧ R s ρ' := ⟨ρ, .inr rfl, h⟩
theorem few' {α : Type} {ds : List α} (h : Nat.ble ds.length 100000 = true) : ds.length ≤ sizeLine := Nat.le_trans (Nat.le_of_ble_eq_true h) szl_big
theorem eq_i (a b : Int) : eqqD (eI a) (eI b) = some (.sh (eB (decide (a = b)))) := rfl
theorem ne_i (a b : Int) : neqD (eI a) (eI b) = some (.sh (eB (!decide (a = b)))) := rfl
theorem eif_e {t : MB} {fa fb : M} {ρ : Rho} {k : Bool} {e : α → Dv} {x y : α} (h : t ρ = some (k, ρ)) (h1 : fa ρ = some (.sh (e x), ρ)) (h2 : fb ρ = some (.sh (e y), ρ)) : eIf t fa fb ρ = some (.sh (e (if k = true then x else y)), ρ) := by
  cases k
  · exact eif_f h rfl h2
  · exact eif_t h rfl h1
theorem eif_o {t : MB} {fa fb : M} {ρ : Rho} {k : Bool} {e : α → Dv} {x y : List α} (h : t ρ = some (k, ρ)) (h1 : fa ρ = some (.ow (.lst (x.map e)), ρ)) (h2 : fb ρ = some (.ow (.lst (y.map e)), ρ)) : eIf t fa fb ρ = some (.ow (.lst ((if k = true then x else y).map e)), ρ) := by
  cases k
  · exact eif_f h rfl h2
  · exact eif_t h rfl h1
def slO (e : α → Dv) : Option α → Sl
  | none => .no
  | some a => .sh (e a)
theorem tcong {t : MB} {ρ ρ1 : Rho} {k k' : Bool} (h : t ρ = some (k, ρ1)) (e : k = k') : t ρ = some (k', ρ1) := e ▸ h
theorem opn {f : M} {ρ ρ1 : Rho} {e : α → Dv} {x : Option α} {v : α} (h : f ρ = some (.sh (eO e x), ρ1)) (hv : x = some v) : f ρ = some (.sh (e v), ρ1) := by
  subst hv
  exact h
theorem eand_fb {fa fb : M} {ρ ρ1 : Rho} {x : Bool} (h : fa ρ = some (.sh (.bool x), ρ1)) (e : x = false) : eAnd fa fb ρ = some (.sh (.bool false), ρ1) := by
  subst e
  exact eand_f (pk_s h) rfl rfl rfl
theorem eor_tb {fa fb : M} {ρ ρ1 : Rho} {x : Bool} (h : fa ρ = some (.sh (.bool x), ρ1)) (e : x = true) : eOr fa fb ρ = some (.sh (.bool true), ρ1) := by
  subst e
  exact eor_t (pk_s h) rfl rfl rfl
theorem dcoT {e : α → Dv} {e' : β → Dv} {g : α → β} (h : ∀ z, e' (g z) = e z) (xs : List α) : some (PyData.tuple (List.map e xs)) = some (PyData.tuple (List.map e' (List.map g xs))) := by
  rw [List.map_map]
  congr 2
  exact List.map_congr_left fun x _ => (h x).symm
theorem dcoL {e : α → Dv} {e' : β → Dv} {g : α → β} (h : ∀ z, e' (g z) = e z) (xs : List α) : some (PyData.list (List.map e xs)) = some (PyData.list (List.map e' (List.map g xs))) := by
  rw [List.map_map]
  congr 2
  exact List.map_congr_left fun x _ => (h x).symm
def lenNO (kvs : List α) : Option Int := if kvs.length < 1000000 then some kvs.length else none
theorem lenN_e {ek : α → Dv} {ev : β → Dv} {kvs : List (α × β)} {v : Int} (h : lenNO kvs = some v) : lenA [obD (.dtn (kvs.map (ekv ek ev)))] = some (.sh (eI v)) := by
  unfold lenNO at h
  split at h
  · rename_i hc
    cases h
    unfold lenA obD
    simp only
    rw [if_neg (by simp [plD]), List.tail_cons, List.length_map, if_pos hc]
    rfl
  · cases h
theorem lenI_e {ek : α → Dv} [KeyI ek] {ev : β → Dv} (kvs : List (α × β)) : lenG [obD (.dct (kvs.map (ekv ek ev)))] = some (.sh (eI (kvs.length : Int))) := by
  show (if plD (kvs.map (ekv ek ev)) = true then some (Rz.sh (.int (kvs.map (ekv ek ev)).length)) else none) = _
  rw [if_pos (plD_ek kvs), List.length_map]
  rfl
theorem isx_none (d : Dv) : isXD d .none = isND d .none := by cases d <;> rfl
theorem notx_none (d : Dv) : notXD d .none = notND d .none := by cases d <;> rfl
theorem isndx_e {e : α → Dv} [OrdE e] (x : Option α) : isXD (eO e x) (eN ()) = some (.sh (eB x.isNone)) := (isx_none _).trans (isnd_e x)
theorem notndx_e {e : α → Dv} [OrdE e] (x : Option α) : notXD (eO e x) (eN ()) = some (.sh (eB (!x.isNone))) := (notx_none _).trans (notnd_e x)
theorem isndx_s {e : α → Dv} [OrdE e] (x : α) : isXD (e x) (eN ()) = some (.sh (eB false)) := (isx_none _).trans (isnd_s x)
theorem notndx_s {e : α → Dv} [OrdE e] (x : α) : notXD (e x) (eN ()) = some (.sh (eB true)) := (notx_none _).trans (notnd_s x)
theorem isndx_a (x : Dv) : isXD x (eN ()) = some (.sh (eB (isNone x))) := (isx_none _).trans (isnd_a x)
theorem notndx_a (x : Dv) : notXD x (eN ()) = some (.sh (eB (!isNone x))) := (notx_none _).trans (notnd_a x)
theorem isb_ (a b : Bool) : isXD (eB a) (eB b) = some (.sh (eB (decide (a = b)))) := rfl
theorem notb_ (a b : Bool) : notXD (eB a) (eB b) = some (.sh (eB (!decide (a = b)))) := rfl
theorem dct_ (ρ : Rho) : eDct ρ = some (.ow (.dct []), ρ) := rfl
theorem dtn_ (ρ : Rho) : eDctN ρ = some (.ow (.dtn []), ρ) := rfl
/-! lists in a dict, d.get -/
def addKT (q : α → α → Bool) : List (α × List β) → α → β → List (α × List β)
  | [], k, d => [(k, [d])]
  | p :: r, k, d => if q p.1 k = true then (p.1, p.2 ++ [d]) :: r else p :: addKT q r k d
def sdfO (fk : α → Option Int) (fe : α → Option β) : List α → List (Int × List β) → Option (List (Int × List β))
  | [], kvs => some kvs
  | x :: xs, kvs => (fk x).bind fun k => (fe x).bind fun e => if kvs.length < 100000 ∧ (kvs.all fun p => decide (p.2.length < 100000)) = true then sdfO fk fe xs (addKT (EqE.eq eI) kvs k e) else none
theorem addK_e {ev : β → Dv} (k : Int) (d : β) : ∀ kvs : List (Int × List β), addK (kvs.map fun p => (eI p.1, p.2.map ev)) (eI k) (ev d) = (addKT (EqE.eq eI) kvs k d).map fun p => (eI p.1, p.2.map ev)
  | [] => rfl
  | p :: r => by
    rw [List.map_cons]
    unfold addK addKT
    rw [KeyI.same (ek := eI)]
    split
    · simp
    · rw [addK_e k d r]
      rfl
theorem sdfL_e {j : Nat} {fk fe : M} {e : α → Dv} {ev : β → Dv} {gk : α → Option Int} {ge : α → Option β} {W : Rho} : ∀ {xs : List α} {kvs zs : List (Int × List β)} {s : Sl}, (∀ x k, x ∈ xs → gk x = some k → pkM fk (W.set j (.sh (e x))) = some (.sh (eI k), W.set j (.sh (e x)))) → (∀ x v, x ∈ xs → ge x = some v → frM fe (W.set j (.sh (e x))) = some (.sh (ev v), W.set j (.sh (e x)))) →
    sdfO gk ge xs kvs = some zs → ∃ s', sdfL j fk fe (xs.map e) (kvs.map fun p => (eI p.1, p.2.map ev)) (W.set j s) = some (zs.map fun p => (eI p.1, p.2.map ev), W.set j s')
  | [], kvs, zs, s, _, _, h => by
    cases h
    exact ⟨s, rfl⟩
  | x :: xs, kvs, zs, s, hk, he, h => by
    unfold sdfO at h
    obtain ⟨k, h1, h⟩ := bnd h
    obtain ⟨v, h2, h⟩ := bnd h
    split at h
    rotate_left
    · cases h
    rename_i hc
    obtain ⟨s', e1⟩ := sdfL_e (s := .sh (e x)) (fun y k hy => hk y k (List.mem_cons_of_mem _ hy)) (fun y k hy => he y k (List.mem_cons_of_mem _ hy)) h
    refine ⟨s', ?_⟩
    rw [List.map_cons]
    unfold sdfL
    rw [List.set_set, hk x k (List.mem_cons_self ..) h1]
    simp only [Option.bind_some]
    have hke : (eI k) = PyData.int k := rfl
    rw [hke]
    simp only
    rw [he x v (List.mem_cons_self ..) h2]
    simp only [Option.bind_some]
    rw [if_pos ⟨by rw [List.length_map]; exact hc.1, by
      rw [List.all_map]
      refine List.all_eq_true.mpr fun p hp => ?_
      have := List.all_eq_true.mp hc.2 p hp
      simpa using this⟩, ← hke, addK_e]
    exact e1
theorem sdf_ {i j : Nat} {fi : ML} {fk fe : M} {e : α → Dv} {ev : β → Dv} {gk : α → Option Int} {ge : α → Option β} {xs : List α} {zs : List (Int × List β)} {ρ ρ1 W : Rho} {s : Sl} (hi : fi ρ = some (xs.map e, ρ1)) (hslot : ρ1[i]? = some (.ow (.dct []))) (hW : ρ1.set i .no = W.set j s)
    (hk : ∀ x k, x ∈ xs → gk x = some k → pkM fk (W.set j (.sh (e x))) = some (.sh (eI k), W.set j (.sh (e x)))) (he : ∀ x v, x ∈ xs → ge x = some v → frM fe (W.set j (.sh (e x))) = some (.sh (ev v), W.set j (.sh (e x)))) (h : sdfO gk ge xs [] = some zs) :
    sSdf i j fi fk fe ρ = some (.nx ((W.set i (.ow (.dct (zs.map (ekv eI (eL ev)))))).set j .no)) := by
  obtain ⟨s', e1⟩ := sdfL_e (s := s) hk he h
  unfold sSdf
  rw [hi]
  simp only [Option.bind_some]
  rw [hslot]
  simp only
  rw [hW]
  rw [show (List.map (fun p : Int × List β => (eI p.1, p.2.map ev)) []) = [] from rfl] at e1
  rw [e1]
  simp only [Option.bind_some]
  unfold shK
  rw [List.map_map]
  refine congrArg (fun z => some (Fl.nx z)) ?_
  by_cases hij : i = j
  · subst hij
    rw [List.set_set, List.set_set, List.set_set]
  · rw [List.set_comm _ _ (fun z => hij z), List.set_set, List.set_comm _ _ (fun z => hij z.symm)]
    rfl
theorem dget_ {fo fk fd : M} {i : Nat} {ρ : Rho} {r : Rv} {k : Int} {ev : β → Dv} {kvs : List (Int × β)} {d : β} (ho : fo ρ = some (.al i, ρ)) (hd : ρ[i]? = some (.ow (.dct (kvs.map (ekv eI ev))))) (hk : pkM fk ρ = some (r, ρ)) (h1 : dat ρ r = some (eI k)) (hf : frM fd ρ = some (.sh (ev d), ρ)) :
    eDGet fo fk fd ρ = some (.sh (ev ((dgetO (EqE.eq eI) kvs k).getD d)), ρ) := by
  unfold eDGet
  rw [ho]
  simp only [Option.bind_some]
  rw [if_pos (by rw [hd]; rfl), hk]
  simp only [Option.bind_some]
  rw [h1]
  simp only [Option.bind_some]
  rw [hf]
  simp only [Option.bind_some, hd]
  rw [if_pos (show isKey (eI k) = true from rfl), getD_e]
  cases dgetO (EqE.eq eI) kvs k <;> rfl
/-! the draws -/
def nextO (ds : List Int) (n : Nat) (m : Int) : Option (Int × Nat) := if 0 < m then some ((match ds[n]? with | some d => d % m | none => 0), n + 1) else none
theorem w_init {F : FnS} {i : Nat} {xs ds : List Int} {m : Int} {ρ : Rho} {as' : List Sl} (h0 : ρ[0]? = some (.sh (eL eI xs))) (hd : F [.sh (eL eI xs), .sh (eI m)] = some (.ow (.lst (List.map eI ds)), as')) :
    sSet i (eDisp [((.inr ("draws" : Str) : Key), eFn F (aCons (frM (eVar 0)) (aCons (eC (.int m)) aNil))), ((.inr ("at" : Str) : Key), eC (.int 0))]) ρ = some (.nx (ρ.set i (.ow (W1 ds 0)))) := by
  have h1 : eFn F (aCons (frM (eVar 0)) (aCons (eC (.int m)) aNil)) ρ = some (.ow (.lst (List.map eI ds)), ρ) := fn_o (ac_ (fr_s (ev h0)) (ac_ (ec _ _) (an_ _))) rfl rfl hd (by
    cases as' with
    | nil => rfl
    | cons a as =>
      cases as with
      | nil => rfl
      | cons b as => cases as <;> rfl)
  have h2 := fr_o h1
  have h4 : prS [((.inr ("draws" : Str) : Key), eFn F (aCons (frM (eVar 0)) (aCons (eC (.int m)) aNil))), ((.inr ("at" : Str) : Key), eC (.int 0))] ρ = some ([((.inr ("draws" : Str) : Key), .list (List.map eI ds)), ((.inr ("at" : Str) : Key), .int 0)], ρ) := by
    unfold prS
    rw [h2]
    rfl
  have h5 : mergeD [] [((.inr ("draws" : Str) : Key), .list (List.map eI ds)), ((.inr ("at" : Str) : Key), .int 0)] = [(.str ("draws" : Str), .list (List.map eI ds)), (.str ("at" : Str), .int 0)] := by
    simp only [mergeD, List.foldl, putD, keyD, List.any, List.nil_append, Bool.or_false, key1]
    rfl
  have h3 : eDisp [((.inr ("draws" : Str) : Key), eFn F (aCons (frM (eVar 0)) (aCons (eC (.int m)) aNil))), ((.inr ("at" : Str) : Key), eC (.int 0))] ρ = some (.ow (W1 ds 0), ρ) := by
    unfold eDisp
    rw [h4]
    simp only [Option.bind_some]
    rw [h5]
    rfl
  exact set_o h3
theorem next_ex {ds : List Int} {n : Nat} {m : Int} (hm : 0 < m) : ∃ v, 0 ≤ v ∧ v < m ∧ nextO ds n m = some (v, n + 1) := by
  refine ⟨_, ?_, ?_, if_pos hm⟩
  · cases ds[n]? with
    | none => exact Int.le_refl _
    | some d => exact Int.emod_nonneg _ (by omega)
  · cases ds[n]? with
    | none => exact hm
    | some d => exact Int.emod_lt_of_pos _ hm
theorem sim_next {ds : List Int} {n : Nat} {m : Int} {v : Int × Nat} (h : nextO ds n m = some v) : nextF [.ow (W1 ds n), .sh (eI m)] = some (.sh (eI v.1), [.ow (W1 ds v.2), .sh (eI m)]) := by
  unfold nextO at h
  split at h
  rotate_left
  · cases h
  rename_i hm
  cases h
  show nextF [.ow (W1 ds n), .sh (.int m)] = some (.sh (.int _), [.ow (W1 ds (n + 1)), .sh (.int m)])
  by_cases h : n < ds.length
  · rw [List.getElem?_eq_getElem h]
    have e0 := next_s0 ds n (.sh (.int m))
    have e1 : ¬ (ds.length : Int) < (n : Int) + 1 := by omega
    have e2 := atI_map ds n h
    unfold nextF runF
    simp only [okA, List.contains, List.elem, nextG, sSeq, List.cons_append, List.nil_append, List.length_nil, List.replicate, Nat.sub_self, e0, Option.bind_some, ite_true, beq_self_eq_true, Bool.true_and, Bool.and_true]
    simp [sIf, tB, binS, pkM, eVar, eC, dat, eCall, aCons, aNil, dats, lenG, ixA, plD, isKey, W1, obD, getD, key1, key2, key3, cmpD, Rz.rv, e1, sNil, sRet, subD, intG, ixD, e2, modD, hm, outA]
  · rw [List.getElem?_eq_none (by omega)]
    have e0 := next_s0 ds n (.sh (.int m))
    have e1 : (ds.length : Int) < (n : Int) + 1 := by omega
    unfold nextF runF
    simp only [okA, List.contains, List.elem, nextG, sSeq, List.cons_append, List.nil_append, List.length_nil, List.replicate, Nat.sub_self, e0, Option.bind_some, ite_true, beq_self_eq_true, Bool.true_and, Bool.and_true]
    simp [sIf, tB, binS, pkM, eVar, eC, dat, eCall, aCons, aNil, dats, lenG, ixA, plD, isKey, W1, obD, getD, key1, key2, key3, cmpD, Rz.rv, e1, sNil, sRet, outA]
def pickO (ds : List Int) (n : Nat) (xs : List α) : Option (α × Nat) := (nextO ds n xs.length).bind fun v => (atI xs v.1).bind fun y => some (y, v.2)
theorem pick_ex {ds : List Int} {n : Nat} {xs : List α} (hx : xs ≠ []) : ∃ v, v ∈ xs ∧ pickO ds n xs = some (v, n + 1) := by
  have hl : 0 < xs.length := List.length_pos_iff.mpr hx
  obtain ⟨v, h0, h1, e⟩ := next_ex (ds := ds) (n := n) (m := xs.length) (by omega)
  obtain ⟨j, rfl⟩ := Int.eq_ofNat_of_zero_le h0
  have hj : j < xs.length := by omega
  refine ⟨xs[j], List.getElem_mem _, ?_⟩
  unfold pickO
  rw [e]
  simp only [Option.bind_some]
  rw [show atI xs (j : Int) = some xs[j] from atI_nat (List.getElem?_eq_getElem hj)]
  rfl
theorem sim_pick {ds : List Int} {n : Nat} {xs : List α} {e : α → Dv} {v : α × Nat} (h : pickO ds n xs = some v) : pickF [.ow (W1 ds n), .sh (.list (xs.map e))] = some (.sh (e v.1), [.ow (W1 ds v.2), .sh (.list (xs.map e))]) := by
  unfold pickO at h
  obtain ⟨u, h1, h⟩ := bnd h
  obtain ⟨y, h2, h⟩ := bnd h
  cases h
  have h3 := sim_next h1
  have h4 : ixA (.list (xs.map e)) (eI u.1) = some (.sh (e y)) := ixl_e h2
  refine run_wp (as := [.ow (W1 ds n), .sh (.list (xs.map e))]) rfl (fun i => by intro z; cases z) ?_
  refine wp_ret (d := e y) (ρ1 := [.ow (W1 ds u.2), .sh (.list (xs.map e))]) ?_ (rt_i rfl rfl)
  refine bin_s ev_1 ?_ h4
  exact fn_s (ac_ eva_0 (ac_ (fr_s (call_s (ac_ ev_1 (an_ _)) rfl (lenL_e xs))) (an_ _))) rfl rfl h3 rfl
end
end DL

set_option Elab.async false
set_option linter.all false
set_option autoImplicit false
set_option maxRecDepth 100000
set_option maxHeartbeats 1000000
namespace DL
open PySem PySem.Spec PyProof.Rows L2
section
variable {α β γ σ τ r : Type}
/-! ### plain lemmas over the typed combinators -/
theorem be {x : Option α} {f : α → Option β} {v : α} (h : x = some v) : x.bind f = f v := by
  rw [h]
  rfl
theorem whileO_le {c : σ → Option Bool} {f : σ → Option (Fo σ r)} : ∀ {n m : Nat} {s : σ} {o : Fo σ r}, n ≤ m → whileO c f n s = some o → whileO c f m s = some o
  | 0, _, _, _, _, h => by cases h
  | n + 1, 0, _, _, hl, _ => by omega
  | n + 1, m + 1, s, o, hl, h => by
    unfold whileO at h ⊢
    obtain ⟨b, h1, h⟩ := bnd h
    rw [h1]
    simp only [Option.bind_some]
    cases b with
    | false => exact h
    | true =>
      simp only [if_true] at h ⊢
      obtain ⟨u, h2, h⟩ := bnd h
      rw [h2]
      simp only [Option.bind_some]
      cases u with
      | nx s1 => exact whileO_le (by omega) h
      | bk s1 => exact h
      | rt y => exact h
theorem whileB_of {c : σ → Option Bool} {f : σ → Option (Fo σ r)} {n m : Nat} {s s' : σ} {k : σ → Option τ} {kr : r → Option τ} (hl : n ≤ m) (h : whileO c f n s = some (.nx s')) : whileB c f m s k kr = k s' := by
  unfold whileB
  rw [whileO_le hl h]
  rfl
theorem while_stop {c : σ → Option Bool} {f : σ → Option (Fo σ r)} {n : Nat} {s : σ} (h : c s = some false) : whileO c f (n + 1) s = some (.nx s) := by
  unfold whileO
  rw [h]
  rfl
theorem while_go {c : σ → Option Bool} {f : σ → Option (Fo σ r)} {n : Nat} {s s1 : σ} (h : c s = some true) (h2 : f s = some (.nx s1)) : whileO c f (n + 1) s = whileO c f n s1 := by
  rw [whileO, h]
  simp only [Option.bind_some, if_true]
  rw [h2]
  rfl
theorem forB_of {f : α → σ → Option (Fo σ r)} {xs : List α} {s s' : σ} {k : σ → Option τ} {kr : r → Option τ} (h : forO f xs s = some (.nx s')) : forB f xs s k kr = k s' := by
  unfold forB
  rw [h]
  rfl
theorem for_go {f : α → σ → Option (Fo σ r)} {x : α} {xs : List α} {s s1 : σ} (h : f x s = some (.nx s1)) : forO f (x :: xs) s = forO f xs s1 := by
  rw [forO, h]
  rfl
theorem for_bk {f : α → σ → Option (Fo σ r)} {x : α} {xs : List α} {s s1 : σ} (h : f x s = some (.bk s1)) : forO f (x :: xs) s = some (.nx s1) := by
  rw [forO, h]
  rfl
/-- a loop that keeps P and never leaves -/
theorem for_keep {f : α → σ → Option (Fo σ r)} (P : σ → Prop) : ∀ (xs : List α) (s : σ), P s → (∀ x s, x ∈ xs → P s → ∃ s', f x s = some (.nx s') ∧ P s') → ∃ s', forO f xs s = some (.nx s') ∧ P s'
  | [], s, h, _ => ⟨s, rfl, h⟩
  | x :: xs, s, h, st => by
    obtain ⟨s1, e1, h1⟩ := st x s (List.mem_cons_self ..) h
    obtain ⟨s2, e2, h2⟩ := for_keep P xs s1 h1 fun y s hy => st y s (List.mem_cons_of_mem _ hy)
    exact ⟨s2, (for_go e1).trans e2, h2⟩
theorem fold_go {f : α → σ → Option σ} {x : α} {xs : List α} {s s1 : σ} (h : f x s = some s1) : foldO f (x :: xs) s = foldO f xs s1 := by
  rw [foldO, h]
  rfl
theorem fold_keep {f : α → σ → Option σ} (P : σ → Prop) : ∀ (xs : List α) (s : σ), P s → (∀ x s, x ∈ xs → P s → ∃ s', f x s = some s' ∧ P s') → ∃ s', foldO f xs s = some s' ∧ P s'
  | [], s, h, _ => ⟨s, rfl, h⟩
  | x :: xs, s, h, st => by
    obtain ⟨s1, e1, h1⟩ := st x s (List.mem_cons_self ..) h
    obtain ⟨s2, e2, h2⟩ := fold_keep P xs s1 h1 fun y s hy => st y s (List.mem_cons_of_mem _ hy)
    exact ⟨s2, (fold_go e1).trans e2, h2⟩
theorem mapO_eq {f : α → Option β} {g : α → β} : ∀ {xs : List α}, (∀ x ∈ xs, f x = some (g x)) → mapO f xs = some (xs.map g)
  | [], _ => rfl
  | x :: xs, h => by
    rw [mapO, h x (List.mem_cons_self ..), mapO_eq fun y hy => h y (List.mem_cons_of_mem _ hy)]
    rfl
theorem szO_eq {x : Option (List β)} {ys : List β} (h : x = some ys) (hl : ys.length ≤ 1000000) : szO x = some ys := by
  rw [szO, h]
  exact if_pos (Nat.le_trans hl szl_6)
theorem szmap_eq {f : α → Option β} {g : α → β} {xs : List α} (h : ∀ x ∈ xs, f x = some (g x)) (hl : xs.length ≤ 1000000) : szO (mapO f xs) = some (xs.map g) := szO_eq (mapO_eq h) (by rw [List.length_map]; exact hl)
theorem lcO_eq {f : α → Option (Option β)} {g : α → Option β} : ∀ {xs : List α}, (∀ x ∈ xs, f x = some (g x)) → lcO f xs = some (xs.filterMap g)
  | [], _ => rfl
  | x :: xs, h => by
    rw [lcO, h x (List.mem_cons_self ..), lcO_eq fun y hy => h y (List.mem_cons_of_mem _ hy)]
    simp only [Option.bind_some]
    cases hg : g x with
    | none => rw [List.filterMap_cons_none hg]
    | some y => rw [List.filterMap_cons_some hg]
/-- a comprehension with one test -/
theorem lcO_filter {t : α → Bool} {g : α → β} {f : α → Option (Option β)} {xs : List α} (h : ∀ x ∈ xs, f x = some (if t x = true then some (g x) else none)) : lcO f xs = some ((xs.filter t).map g) := by
  rw [lcO_eq h]
  congr 1
  induction xs with
  | nil => rfl
  | cons x xs ih =>
    have := ih fun y hy => h y (List.mem_cons_of_mem _ hy)
    cases ht : t x with
    | true => rw [List.filterMap_cons_some (b := g x) (by rw [ht]; rfl), List.filter_cons_of_pos ht, List.map_cons, this]
    | false => rw [List.filterMap_cons_none (by rw [ht]; rfl), List.filter_cons_of_neg (by rw [ht]; decide), this]
theorem filterMap_len {g : α → Option β} (xs : List α) : (xs.filterMap g).length ≤ xs.length := List.length_filterMap_le ..
theorem szlc_eq {f : α → Option (Option β)} {g : α → Option β} {xs : List α} (h : ∀ x ∈ xs, f x = some (g x)) (hl : xs.length ≤ 1000000) : szO (lcO f xs) = some (xs.filterMap g) := szO_eq (lcO_eq h) (Nat.le_trans (filterMap_len xs) hl)
theorem szlc_filter {t : α → Bool} {g : α → β} {f : α → Option (Option β)} {xs : List α} (h : ∀ x ∈ xs, f x = some (if t x = true then some (g x) else none)) (hl : xs.length ≤ 1000000) : szO (lcO f xs) = some ((xs.filter t).map g) :=
  szO_eq (lcO_filter h) (by rw [List.length_map]; exact Nat.le_trans (List.length_filter_le ..) hl)
theorem catO_eq {f : α → Option (List β)} {g : α → List β} : ∀ {xs : List α}, (∀ x ∈ xs, f x = some (g x)) → catO f xs = some (xs.flatMap g)
  | [], _ => rfl
  | x :: xs, h => by
    rw [catO, h x (List.mem_cons_self ..), catO_eq fun y hy => h y (List.mem_cons_of_mem _ hy)]
    rfl
theorem plusO_eq {xs ys : List α} (h : xs.length + ys.length ≤ 1000000) : plusO xs ys = some (xs ++ ys) := if_pos (Nat.le_trans h szl_6)
theorem pushO_eq {xs : List α} {v : α} (h : xs.length < 1000000) : pushO xs v = some (xs ++ [v]) := if_pos (Nat.lt_of_lt_of_le h szl_6)
theorem rngO1_eq {n : Nat} (h : n ≤ 1000000) : rngO1 (n : Int) = some (rangeI 0 n) := by
  unfold rngO1 bnd62
  rw [if_pos (decide_eq_true ⟨by omega, by omega⟩)]
  rfl
theorem rngO2_eq {n : Nat} (h : n ≤ 1000000) : rngO2 1 (n : Int) = some (rangeI 1 (n - 1)) := by
  unfold rngO2 bnd62
  rw [if_pos ⟨decide_eq_true ⟨by omega, by omega⟩, decide_eq_true ⟨by omega, by omega⟩⟩]
  congr 2
  omega
theorem rangeI_nat (n : Nat) : rangeI 0 n = (List.range n).map (fun i : Nat => (i : Int)) := by
  unfold rangeI
  congr 1
  funext i
  simp
theorem rangeI_len (lo : Int) (n : Nat) : (rangeI lo n).length = n := by simp [rangeI]
theorem atI_ge {xs : List α} {j : Nat} {v : α} (h : xs[j]? = some v) : atI xs (j : Int) = some v := atI_nat h
end
section
variable {α β : Type}
theorem fold_flat {f : α → List β → Option (List β)} {g : α → List β} (b : Nat) : ∀ (xs : List α) (s : List β), s.length + xs.length * b ≤ 1000000 → (∀ x ∈ xs, (g x).length ≤ b) → (∀ x ∈ xs, ∀ s : List β, s.length + b ≤ 1000000 → f x s = some (s ++ g x)) → foldO f xs s = some (s ++ xs.flatMap g)
  | [], s, _, _, _ => by simp [foldO]
  | x :: xs, s, hl, hb, hf => by
    rw [List.length_cons, Nat.add_mul] at hl
    have h1 := hb x (List.mem_cons_self ..)
    refine (fold_go (hf x (List.mem_cons_self ..) s (by omega))).trans ?_
    rw [fold_flat b xs (s ++ g x) (by rw [List.length_append]; omega) (fun y hy => hb y (List.mem_cons_of_mem _ hy)) fun y hy => hf y (List.mem_cons_of_mem _ hy)]
    simp
theorem maxE_spec : ∀ (xs : List Int) (x : Int), maxE eI x xs ∈ x :: xs ∧ ∀ y ∈ x :: xs, y ≤ maxE eI x xs
  | [], x => by simp [maxE]
  | z :: xs, x => by
    have h := maxE_spec xs (if ltE eI x z = true then z else x)
    have e : maxE eI x (z :: xs) = maxE eI (if ltE eI x z = true then z else x) xs := rfl
    have hl : ltE eI x z = true ↔ x < z := decide_eq_true_iff
    rw [e]
    by_cases hc : x < z
    · rw [if_pos (hl.mpr hc)] at h ⊢
      refine ⟨List.mem_cons_of_mem _ h.1, fun y hy => ?_⟩
      rcases List.mem_cons.mp hy with rfl | hy
      · have := h.2 z (List.mem_cons_self ..)
        omega
      · exact h.2 y hy
    · rw [if_neg (fun q => hc (hl.mp q))] at h ⊢
      refine ⟨?_, fun y hy => ?_⟩
      · rcases List.mem_cons.mp h.1 with h | h
        · rw [h]; exact List.mem_cons_self ..
        · exact List.mem_cons_of_mem _ (List.mem_cons_of_mem _ h)
      · rcases List.mem_cons.mp hy with rfl | hy
        · exact h.2 _ (List.mem_cons_self ..)
        · rcases List.mem_cons.mp hy with rfl | hy
          · have := h.2 x (List.mem_cons_self ..)
            omega
          · exact h.2 y (List.mem_cons_of_mem _ hy)
end
/-! ### told plainly: `_law_plain` of k85 and others on data of types -/
end DL

set_option Elab.async false
set_option linter.all false
set_option autoImplicit false
set_option maxRecDepth 100000
set_option maxHeartbeats 4000000
namespace K85
open PySem PySem.Spec PyProof.Rows L2 DL
def topS (i : Nat) : Stmt := PySem.Challenge.pw_turnwarrant_k85_whole_curves_modulo_prim.main.body.getD i (.Pass ⟨0, 0, 0, 0⟩)
structure Zs (mg : Str → Option Value) : Prop where
  abs : mg "abs" = none
  bool : mg "bool" = none
  int : mg "int" = none
  isinstance : mg "isinstance" = none
  len : mg "len" = none
  list : mg "list" = none
  max : mg "max" = none
  min : mg "min" = none
  range : mg "range" = none
  sum : mg "sum" = none
  tuple : mg "tuple" = none
/-! _law_next -/
abbrev s__law_next : Stmt := topS 15
theorem sc__law_next : FnScope ["w", "many"] ["w", "many"] (defScope s__law_next) := ⟨rfl, rfl, rfl, by decide +kernel, rfl, by decide +kernel, by decide +kernel⟩
def g__law_next : MS :=
    (sSeq (sAugS iaddD (eVar 0) (eC (.str ("at" : Str))) (eC (.int 1)))
    (sSeq (sIf (tB (binS (cmpD fun i j => decide (j < i)) (binS ixA (eVar 0) (eC (.str ("at" : Str)))) (eCall lenG (aCons (binS ixA (eVar 0) (eC (.str ("draws" : Str)))) aNil)))) (sRet [0] (eC (.int 0))) sNil)
    (sRet [0] (binS modD (eCall intG (aCons (binS ixA (binS ixA (eVar 0) (eC (.str ("draws" : Str)))) (binS subD (binS ixA (eVar 0) (eC (.str ("at" : Str)))) (eC (.int 1)))) aNil)) (eVar 1)))))
def F__law_next : FnS := runF 2 2 [0] g__law_next
/-! _law_pick -/
abbrev s__law_pick : Stmt := topS 16
theorem sc__law_pick : FnScope ["w", "rows"] ["w", "rows"] (defScope s__law_pick) := ⟨rfl, rfl, rfl, by decide +kernel, rfl, by decide +kernel, by decide +kernel⟩
def g__law_pick : MS :=
    (sRet [0] (binS ixA (eVar 1) (eFn F__law_next (aCons (eVar 0) (aCons (frM (eCall lenG (aCons (eVar 1) aNil))) aNil)))))
def F__law_pick : FnS := runF 2 2 [0] g__law_pick
/-! _turned -/
abbrev s__turned : Stmt := topS 7
theorem sc__turned : FnScope ["p", "curve", "u", "square"] ["p", "curve", "u"] (defScope s__turned) := ⟨rfl, rfl, rfl, by decide +kernel, rfl, by decide +kernel, by decide +kernel⟩
def g__turned : MS :=
    (sSeq (sSet 3 (binS modD (binS mulD (eVar 2) (eVar 2)) (eVar 0)))
    (sRet [] (eTup (aCons (frM (binS modD (binS mulD (binS mulD (binS ixA (eVar 1) (eC (.int 0))) (eVar 3)) (eVar 3)) (eVar 0))) (aCons (frM (binS modD (binS mulD (binS mulD (binS mulD (binS ixA (eVar 1) (eC (.int 1))) (eVar 3)) (eVar 3)) (eVar 3)) (eVar 0))) aNil)))))
def F__turned : FnS := runF 3 4 [] g__turned
/-! curve_keepers -/
abbrev s_curve_keepers : Stmt := topS 10
theorem sc_curve_keepers : FnScope ["p", "curve", "u"] ["p", "curve"] (defScope s_curve_keepers) := ⟨rfl, rfl, rfl, by decide +kernel, rfl, by decide +kernel, by decide +kernel⟩
def g_curve_keepers : MS :=
    (sRet [] (frM (eCall tupleG (aCons (eLc [2] (iRng rng2 (aCons (eC (.int 1)) (aCons (eVar 0) aNil))) (tName 2) (tB (binS eqqD (eFn F__turned (aCons (frM (eVar 0)) (aCons (frM (eVar 1)) (aCons (frM (eVar 2)) aNil)))) (eVar 1))) (eVar 2)) aNil))))
def F_curve_keepers : FnS := runF 2 3 [] g_curve_keepers
/-! undone_number -/
abbrev s_undone_number : Stmt := topS 1
theorem sc_undone_number : FnScope ["p", "x", "one", "other", "a", "b", "many"] ["p", "x"] (defScope s_undone_number) := ⟨rfl, rfl, rfl, by decide +kernel, rfl, by decide +kernel, by decide +kernel⟩
def g_undone_number : MS :=
    (sSeq (sPar 2 3 (aCons (frM (eVar 0)) (aCons (frM (binS modD (eVar 1) (eVar 0))) aNil)))
    (sSeq (sAsg (eTup (aCons (eC (.int 0)) (aCons (eC (.int 1)) aNil))) (tTupT [(tName 4), (tName 5)]))
    (sSeq (whileS (tV (eVar 3)) (sSeq (sSet 6 (binS divD (eVar 2) (eVar 3)))
    (sSeq (sPar 2 3 (aCons (frM (eVar 3)) (aCons (frM (binS subD (eVar 2) (binS mulD (eVar 6) (eVar 3)))) aNil)))
    (sPar 4 5 (aCons (frM (eVar 5)) (aCons (frM (binS subD (eVar 4) (binS mulD (eVar 6) (eVar 5)))) aNil))))) 1048576)
    (sRet [] (binS modD (eVar 4) (eVar 0))))))
def F_undone_number : FnS := runF 2 7 [] g_undone_number
/-! shape_number -/
abbrev s_shape_number : Stmt := topS 11
theorem sc_shape_number : FnScope ["p", "curve", "top"] ["p", "curve"] (defScope s_shape_number) := ⟨rfl, rfl, rfl, by decide +kernel, rfl, by decide +kernel, by decide +kernel⟩
def g_shape_number : MS :=
    (sSeq (sSet 2 (pkM (binS mulD (binS mulD (binS mulD (eC (.int 4)) (binS ixA (eVar 1) (eC (.int 0)))) (binS ixA (eVar 1) (eC (.int 0)))) (binS ixA (eVar 1) (eC (.int 0))))))
    (sRet [] (binS modD (binS mulD (binS mulD (eC (.int 1728)) (eVar 2)) (eFn F_undone_number (aCons (frM (eVar 0)) (aCons (frM (binS addD (eVar 2) (binS mulD (binS mulD (eC (.int 27)) (binS ixA (eVar 1) (eC (.int 1)))) (binS ixA (eVar 1) (eC (.int 1)))))) aNil)))) (eVar 0))))
def F_shape_number : FnS := runF 2 3 [] g_shape_number
/-! _law_draws -/
abbrev s__law_draws : Stmt := topS 14
theorem sc__law_draws : FnScope ["script", "many", "draws", "mixed", "k", "cell", "rest", "turn"] ["script", "many"] (defScope s__law_draws) := ⟨rfl, rfl, rfl, by decide +kernel, rfl, by decide +kernel, by decide +kernel⟩
def g__law_draws : MS :=
    (sSeq (sSet 2 (eLst aNil))
    (sSeq (sSet 3 (eC (.int 7)))
    (sSeq (sFor (iRng rng1 (aCons (eCall lenG (aCons (eVar 0) aNil)) aNil)) (tName 4) (sSeq (sSet 5 (eCall absG (aCons (eCall intG (aCons (binS ixA (eVar 0) (eVar 4)) aNil)) aNil)))
    (sSeq (sSet 3 (binS modD (eCall intG (aCons (binS addD (binS addD (binS mulD (eVar 3) (eC (.int 48271))) (binS modD (eVar 5) (eC (.int 1000003)))) (eVar 4)) aNil)) (eC (.int 65537))))
    (sSeq (sSet 6 (eC (.int 0)))
    (sSeq (sIf (tB (binS (cmpD fun i j => decide (j ≤ i)) (eVar 5) (binS powD (eC (.int 10)) (eC (.int 18))))) (sSet 6 (cpM (eVar 5))) (sSeq (sExpr (mutM "list" appG (eVar 2) (aCons (frM (binS modD (eCall intG (aCons (eVar 5) aNil)) (eC (.int 997)))) aNil)))
    (sExpr (mutM "list" appG (eVar 2) (aCons (frM (binS modD (binS modD (eCall intG (aCons (binS addD (binS mulD (eVar 3) (eC (.int 69621))) (eC (.int 5))) aNil)) (eC (.int 65521))) (eC (.int 997)))) aNil)))))
    (sFor (iRng rng1 (aCons (eC (.int 60)) aNil)) (tName 7) (sIf (tB (binS (cmpD fun i j => decide (j < i)) (eVar 6) (eC (.int 0)))) (sSeq (sExpr (mutM "list" appG (eVar 2) (aCons (frM (binS modD (eCall intG (aCons (eVar 6) aNil)) (eC (.int 997)))) aNil)))
    (sSet 6 (binS divD (eVar 6) (eC (.int 997))))) sNil)))))))
    (sSeq (sFor (iRng rng1 (aCons (eVar 1) aNil)) (tName 4) (sSeq (sSet 3 (binS modD (eCall intG (aCons (binS addD (binS addD (binS mulD (eVar 3) (eC (.int 16807))) (eVar 4)) (eC (.int 1))) aNil)) (eC (.int 65537))))
    (sExpr (mutM "list" appG (eVar 2) (aCons (frM (binS modD (eCall intG (aCons (eVar 3) aNil)) (eC (.int 997)))) aNil)))))
    (sRet [] (eCut (eVar 2) oNo (oInt (eVar 1))))))))
def F__law_draws : FnS := runF 2 8 [] g__law_draws
/-! _law_is_curve -/
abbrev s__law_is_curve : Stmt := topS 23
theorem sc__law_is_curve : FnScope ["p", "curve", "a", "b"] ["p", "curve"] (defScope s__law_is_curve) := ⟨rfl, rfl, rfl, by decide +kernel, rfl, by decide +kernel, by decide +kernel⟩
def g__law_is_curve : MS :=
    (sSeq (sAsg (eVar 1) (tTupT [(tName 2), (tName 3)]))
    (sRet [] (binS neqD (binS modD (eCall intG (aCons (binS addD (binS mulD (binS mulD (binS mulD (eC (.int 4)) (eVar 2)) (eVar 2)) (eVar 2)) (binS mulD (binS mulD (eC (.int 27)) (eVar 3)) (eVar 3))) aNil)) (eVar 0)) (eC (.int 0)))))
def F__law_is_curve : FnS := runF 2 4 [] g__law_is_curve
/-! _law_points -/
abbrev s__law_points : Stmt := topS 18
theorem sc__law_points : FnScope ["p", "curve", "a", "b", "found", "x", "y"] ["p", "curve"] (defScope s__law_points) := ⟨rfl, rfl, rfl, by decide +kernel, rfl, by decide +kernel, by decide +kernel⟩
def g__law_points : MS :=
    (sSeq (sAsg (eVar 1) (tTupT [(tName 2), (tName 3)]))
    (sSeq (sSet 4 (pkM (eLst aNil)))
    (sSeq (sFor (iRng rng1 (aCons (eVar 0) aNil)) (tName 5) (sSet 4 (pkM (binS addD (eVar 4) (eLc [6] (iRng rng1 (aCons (eVar 0) aNil)) (tName 6) (tB (binS eqqD (binS modD (eCall intG (aCons (binS subD (binS subD (binS subD (binS mulD (eVar 6) (eVar 6)) (binS mulD (binS mulD (eVar 5) (eVar 5)) (eVar 5))) (binS mulD (eVar 2) (eVar 5))) (eVar 3)) aNil)) (eVar 0)) (eC (.int 0)))) (eTup (aCons (frM (eVar 5)) (aCons (frM (eVar 6)) aNil))))))))
    (sRet [] (frM (eVar 4))))))
def F__law_points : FnS := runF 2 7 [] g__law_points
/-! points_of -/
abbrev s_points_of : Stmt := topS 3
theorem sc_points_of : FnScope ["p", "curve", "a", "b", "roots", "y", "found", "x"] ["p", "curve"] (defScope s_points_of) := ⟨rfl, rfl, rfl, by decide +kernel, rfl, by decide +kernel, by decide +kernel⟩
def g_points_of : MS :=
    (sSeq (sAsg (eVar 1) (tTupT [(tName 2), (tName 3)]))
    (sSeq (sSet 4 eDct)
    (sSeq (sSdf 4 5 (iRng rng1 (aCons (eVar 0) aNil)) (binS modD (binS mulD (eVar 5) (eVar 5)) (eVar 0)) (eVar 5))
    (sSeq (sSet 6 (pkM (eLst aNil)))
    (sSeq (sFor (iRng rng1 (aCons (eVar 0) aNil)) (tName 7) (sSet 6 (pkM (binS addD (eVar 6) (eLc [5] (iSeq (eDGet (eVar 4) (binS modD (binS addD (binS addD (binS mulD (binS mulD (eVar 7) (eVar 7)) (eVar 7)) (binS mulD (eVar 2) (eVar 7))) (eVar 3)) (eVar 0)) (eLst aNil))) (tName 5) cYes (eTup (aCons (frM (eVar 7)) (aCons (frM (eVar 5)) aNil))))))))
    (sRet [] (frM (binS addD (eTup (aCons (eC .none) aNil)) (eCall tupleG (aCons (eVar 6) aNil))))))))))
def F_points_of : FnS := runF 2 8 [] g_points_of
/-! added_points -/
abbrev s_added_points : Stmt := topS 4
theorem sc_added_points : FnScope ["p", "curve", "u", "v", "x", "y", "z", "w", "slope", "third"] ["p", "curve", "u", "v"] (defScope s_added_points) := ⟨rfl, rfl, rfl, by decide +kernel, rfl, by decide +kernel, by decide +kernel⟩
def g_added_points : MS :=
    (sSeq (sIf (tOr' (tB (binS isXD (eVar 2) (eC .none))) (tB (binS isXD (eVar 3) (eC .none)))) (sRet [] (frM (eIf (tB (binS isXD (eVar 2) (eC .none))) (frM (eVar 3)) (frM (eVar 2))))) sNil)
    (sSeq (sAsg (eVar 2) (tTupT [(tName 4), (tName 5)]))
    (sSeq (sAsg (eVar 3) (tTupT [(tName 6), (tName 7)]))
    (sSeq (sIf (tAn (tB (binS eqqD (eVar 4) (eVar 6))) (tB (binS eqqD (binS modD (binS addD (eVar 5) (eVar 7)) (eVar 0)) (eC (.int 0))))) (sRet [] (eC .none)) sNil)
    (sSeq (sIf (tB (binS eqqD (eVar 2) (eVar 3))) (sSet 8 (binS modD (binS mulD (binS addD (binS mulD (binS mulD (eC (.int 3)) (eVar 4)) (eVar 4)) (binS ixA (eVar 1) (eC (.int 0)))) (eFn F_undone_number (aCons (frM (eVar 0)) (aCons (frM (binS mulD (eC (.int 2)) (eVar 5))) aNil)))) (eVar 0))) (sSet 8 (binS modD (binS mulD (binS subD (eVar 7) (eVar 5)) (eFn F_undone_number (aCons (frM (eVar 0)) (aCons (frM (binS subD (eVar 6) (eVar 4))) aNil)))) (eVar 0))))
    (sSeq (sSet 9 (binS modD (binS subD (binS subD (binS mulD (eVar 8) (eVar 8)) (eVar 4)) (eVar 6)) (eVar 0)))
    (sRet [] (eTup (aCons (frM (eVar 9)) (aCons (frM (binS modD (binS subD (binS mulD (eVar 8) (binS subD (eVar 4) (eVar 9))) (eVar 5)) (eVar 0))) aNil))))))))))
def F_added_points : FnS := runF 4 10 [] g_added_points
/-! order_of_point -/
abbrev s_order_of_point : Stmt := topS 6
theorem sc_order_of_point : FnScope ["p", "curve", "u", "found", "here"] ["p", "curve", "u"] (defScope s_order_of_point) := ⟨rfl, rfl, rfl, by decide +kernel, rfl, by decide +kernel, by decide +kernel⟩
def g_order_of_point : MS :=
    (sSeq (sSet 3 (eC (.int 1)))
    (sSeq (sSet 4 (pkM (cpM (eVar 2))))
    (sSeq (whileS (tB (binS notXD (eVar 4) (eC .none))) (sSeq (sSet 4 (pkM (eFn F_added_points (aCons (frM (eVar 0)) (aCons (frM (eVar 1)) (aCons (frM (eVar 4)) (aCons (frM (eVar 2)) aNil)))))))
    (sAug 3 iaddD (eC (.int 1)))) 1048576)
    (sRet [] (frM (eVar 3))))))
def F_order_of_point : FnS := runF 3 5 [] g_order_of_point
/-! group_of_curve -/
abbrev s_group_of_curve : Stmt := topS 12
theorem sc_group_of_curve : FnScope ["p", "curve", "points", "greatest", "point", "factor"] ["p", "curve"] (defScope s_group_of_curve) := ⟨rfl, rfl, rfl, by decide +kernel, rfl, by decide +kernel, by decide +kernel⟩
def g_group_of_curve : MS :=
    (sSeq (sSet 2 (pkM (eFn F_points_of (aCons (frM (eVar 0)) (aCons (frM (eVar 1)) aNil)))))
    (sSeq (sSet 3 (pkM (eCall maxG (aCons (eLc [4] (iSeq (eVar 2)) (tName 4) cYes (eFn F_order_of_point (aCons (frM (eVar 0)) (aCons (frM (eVar 1)) (aCons (frM (eVar 4)) aNil))))) aNil))))
    (sRet [] (frM (eCall tupleG (aCons (eLc [5] (iSeq (eTup (aCons (frM (binS divD (eCall lenG (aCons (eVar 2) aNil)) (eVar 3))) (aCons (frM (eVar 3)) aNil)))) (tName 5) (tB (binS (cmpD fun i j => decide (j < i)) (eVar 5) (eC (.int 1)))) (eVar 5)) aNil))))))
def F_group_of_curve : FnS := runF 2 6 [] g_group_of_curve
/-! _law_plain -/
abbrev s__law_plain : Stmt := topS 17
theorem sc__law_plain : FnScope ["thing", "one"] ["thing"] (defScope s__law_plain) := ⟨rfl, rfl, rfl, by decide +kernel, rfl, by decide +kernel, by decide +kernel⟩
def g__law_plain (self : FnS) : MS :=
    (sSeq (sIf (tV (unS (isiD "tuple") (eVar 0))) (sRet [] (binS eqqD (eLc [1] (iSeq (eVar 0)) (tName 1) (tNo (tV (eFn self (aCons (frM (eVar 1)) aNil)))) (eVar 1)) (eLst aNil))) sNil)
    (sRet [] (frM (eOr (binS isXD (eVar 0) (eC .none)) (eAnd (unS (isiD "int") (eVar 0)) (eNot (unS (isiD "bool") (eVar 0))))))))
def F__law_plain : Nat → FnS
  | 0 => runF 1 2 [] (fun _ => none)
  | n + 1 => runF 1 2 [] (g__law_plain (F__law_plain n))
/-! _law_over -/
abbrev s__law_over : Stmt := topS 19
theorem sc__law_over : FnScope ["p", "a", "b", "k"] ["p", "a", "b"] (defScope s__law_over) := ⟨rfl, rfl, rfl, by decide +kernel, rfl, by decide +kernel, by decide +kernel⟩
def g__law_over : MS :=
    (sRet [] (frM (binS ixA (eLc [3] (iRng rng1 (aCons (eVar 0) aNil)) (tName 3) (tB (binS eqqD (binS modD (eCall intG (aCons (binS subD (binS mulD (eVar 3) (eVar 2)) (eVar 1)) aNil)) (eVar 0)) (eC (.int 0)))) (eVar 3)) (eC (.int 0)))))
def F__law_over : FnS := runF 3 4 [] g__law_over
/-! _law_added -/
abbrev s__law_added : Stmt := topS 20
theorem sc__law_added : FnScope ["p", "curve", "u", "v", "slope", "x"] ["p", "curve", "u", "v"] (defScope s__law_added) := ⟨rfl, rfl, rfl, by decide +kernel, rfl, by decide +kernel, by decide +kernel⟩
def g__law_added : MS :=
    (sSeq (sIf (tOr' (tB (binS isXD (eVar 2) (eC .none))) (tB (binS isXD (eVar 3) (eC .none)))) (sRet [] (frM (eIf (tB (binS isXD (eVar 2) (eC .none))) (frM (eVar 3)) (frM (eVar 2))))) sNil)
    (sSeq (sIf (tAn (tB (binS eqqD (binS ixA (eVar 2) (eC (.int 0))) (binS ixA (eVar 3) (eC (.int 0))))) (tB (binS eqqD (binS modD (eCall intG (aCons (binS addD (binS ixA (eVar 2) (eC (.int 1))) (binS ixA (eVar 3) (eC (.int 1)))) aNil)) (eVar 0)) (eC (.int 0))))) (sRet [] (eC .none)) sNil)
    (sSeq (sIf (tB (binS eqqD (eVar 2) (eVar 3))) (sSet 4 (pkM (eFn F__law_over (aCons (frM (eVar 0)) (aCons (frM (binS modD (eCall intG (aCons (binS addD (binS mulD (binS mulD (eC (.int 3)) (binS ixA (eVar 2) (eC (.int 0)))) (binS ixA (eVar 2) (eC (.int 0)))) (binS ixA (eVar 1) (eC (.int 0)))) aNil)) (eVar 0))) (aCons (frM (binS mulD (eC (.int 2)) (binS ixA (eVar 2) (eC (.int 1))))) aNil)))))) (sSet 4 (pkM (eFn F__law_over (aCons (frM (eVar 0)) (aCons (frM (binS modD (eCall intG (aCons (binS subD (binS ixA (eVar 3) (eC (.int 1))) (binS ixA (eVar 2) (eC (.int 1)))) aNil)) (eVar 0))) (aCons (frM (binS subD (binS ixA (eVar 3) (eC (.int 0))) (binS ixA (eVar 2) (eC (.int 0))))) aNil)))))))
    (sSeq (sSet 5 (binS modD (eCall intG (aCons (binS subD (binS subD (binS mulD (eVar 4) (eVar 4)) (binS ixA (eVar 2) (eC (.int 0)))) (binS ixA (eVar 3) (eC (.int 0)))) aNil)) (eVar 0)))
    (sRet [] (eTup (aCons (frM (eVar 5)) (aCons (frM (binS modD (eCall intG (aCons (binS subD (binS mulD (eVar 4) (binS subD (binS ixA (eVar 2) (eC (.int 0))) (eVar 5))) (binS ixA (eVar 2) (eC (.int 1)))) aNil)) (eVar 0))) aNil))))))))
def F__law_added : FnS := runF 4 6 [] g__law_added
/-! _law_multiples -/
abbrev s__law_multiples : Stmt := topS 21
theorem sc__law_multiples : FnScope ["p", "curve", "u", "found", "turn", "more"] ["p", "curve", "u"] (defScope s__law_multiples) := ⟨rfl, rfl, rfl, by decide +kernel, rfl, by decide +kernel, by decide +kernel⟩
def g__law_multiples : MS :=
    (sSeq (sSet 3 (eLst (aCons (eC .none) aNil)))
    (sSeq (sFor (iRng rng1 (aCons (binS addD (binS mulD (eC (.int 2)) (eVar 0)) (eC (.int 9))) aNil)) (tName 4) (sSeq (sSet 5 (pkM (eFn F__law_added (aCons (frM (eVar 0)) (aCons (frM (eVar 1)) (aCons (frM (binS ixA (eVar 3) (unS negD (eC (.int 1))))) (aCons (frM (eVar 2)) aNil)))))))
    (sSeq (sIf (tB (binS isXD (eVar 5) (eC .none))) sBreak sNil)
    (sExpr (mutM "list" appG (eVar 3) (aCons (frM (eVar 5)) aNil))))))
    (sRet [] (frM (eVar 3)))))
def F__law_multiples : FnS := runF 3 6 [] g__law_multiples
/-! times_point -/
abbrev s_times_point : Stmt := topS 5
theorem sc_times_point : FnScope ["p", "curve", "k", "u", "found"] ["p", "curve", "k", "u"] (defScope s_times_point) := ⟨rfl, rfl, rfl, by decide +kernel, rfl, by decide +kernel, by decide +kernel⟩
def g_times_point (self : FnS) : MS :=
    (sSeq (sIf (tB (binS (cmpD fun i j => decide (i < j)) (eVar 2) (eC (.int 0)))) (sRet [] (frM (eFn self (aCons (frM (eVar 0)) (aCons (frM (eVar 1)) (aCons (unS negD (eVar 2)) (aCons (frM (eIf (tB (binS isXD (eVar 3) (eC .none))) (eC .none) (eTup (aCons (frM (binS ixA (eVar 3) (eC (.int 0)))) (aCons (frM (binS modD (unS negD (binS ixA (eVar 3) (eC (.int 1)))) (eVar 0))) aNil))))) aNil))))))) sNil)
    (sSeq (sSet 4 (eC .none))
    (sSeq (whileS (tB (binS (cmpD fun i j => decide (j < i)) (eVar 2) (eC (.int 0)))) (sSeq (sIf (tB (binS eqqD (binS modD (eVar 2) (eC (.int 2))) (eC (.int 1)))) (sSet 4 (pkM (eFn F_added_points (aCons (frM (eVar 0)) (aCons (frM (eVar 1)) (aCons (frM (eVar 4)) (aCons (frM (eVar 3)) aNil))))))) sNil)
    (sSeq (sSet 3 (pkM (eFn F_added_points (aCons (frM (eVar 0)) (aCons (frM (eVar 1)) (aCons (frM (eVar 3)) (aCons (frM (eVar 3)) aNil)))))))
    (sSet 2 (binS divD (eVar 2) (eC (.int 2)))))) 1048576)
    (sRet [] (frM (eVar 4))))))
def F_times_point : Nat → FnS
  | 0 => runF 4 5 [] (fun _ => none)
  | n + 1 => runF 4 5 [] (g_times_point (F_times_point n))
/-! _law_points_right -/
abbrev s__law_points_right : Stmt := topS 25
theorem sc__law_points_right : FnScope ["w", "p", "curve", "points", "told", "orders", "u", "size", "top", "due", "turn", "v", "rows", "k"] ["w", "p", "curve"] (defScope s__law_points_right) := ⟨rfl, rfl, rfl, by decide +kernel, rfl, by decide +kernel, by decide +kernel⟩
def g__law_points_right : MS :=
    (sSeq (sSet 3 (pkM (eFn F__law_points (aCons (frM (eVar 1)) (aCons (frM (eVar 2)) aNil)))))
    (sSeq (sSet 4 (pkM (eFn F_points_of (aCons (frM (eVar 1)) (aCons (frM (eVar 2)) aNil)))))
    (sSeq (sIf (tOr' (tNo (tV (eFn (F__law_plain 4) (aCons (frM (eVar 4)) aNil)))) (tB (binS neqD (eVar 4) (binS addD (eTup (aCons (eC .none) aNil)) (eCall tupleG (aCons (eVar 3) aNil)))))) (sRet [0] (eC (.bool false))) sNil)
    (sSeq (sSet 5 (eLst aNil))
    (sSeq (sFor (iSeq (eVar 3)) (tName 6) (sExpr (mutM "list" appG (eVar 5) (aCons (frM (eCall lenG (aCons (eFn F__law_multiples (aCons (frM (eVar 1)) (aCons (frM (eVar 2)) (aCons (frM (eVar 6)) aNil)))) aNil))) aNil))))
    (sSeq (sPar 7 8 (aCons (frM (binS addD (eCall lenG (aCons (eVar 3) aNil)) (eC (.int 1)))) (aCons (frM (eCall maxG (aCons (binS addD (eLst (aCons (eC (.int 1)) aNil)) (eVar 5)) aNil))) aNil)))
    (sSeq (sSet 9 (pkM (cpM (eIf (tB (binS eqqD (eVar 7) (eC (.int 1)))) (eTup aNil) (frM (eIf (tB (binS eqqD (eVar 7) (eVar 8))) (eTup (aCons (frM (eVar 7)) aNil)) (eTup (aCons (frM (binS divD (eVar 7) (eVar 8))) (aCons (frM (eVar 8)) aNil)))))))))
    (sSeq (sSet 4 (pkM (eFn F_group_of_curve (aCons (frM (eVar 1)) (aCons (frM (eVar 2)) aNil)))))
    (sSeq (sIf (tOr' (tNo (tV (eFn (F__law_plain 4) (aCons (frM (eVar 4)) aNil)))) (tB (binS neqD (eVar 4) (eVar 9)))) (sRet [0] (eC (.bool false))) sNil)
    (sSeq (sFor (iRng rng1 (aCons (eC (.int 4)) aNil)) (tName 10) (sSeq (sSet 6 (pkM (cpM (eIf (tB (binS neqD (eVar 3) (eLst aNil))) (frM (eFn F__law_pick (aCons (eVar 0) (aCons (frM (binS addD (eLst (aCons (eC .none) aNil)) (eVar 3))) aNil)))) (eC .none)))))
    (sSeq (sSet 11 (pkM (eFn F__law_pick (aCons (eVar 0) (aCons (frM (binS addD (binS addD (eLst (aCons (eC .none) (aCons (frM (eVar 6)) (aCons (frM (eIf (tB (binS isXD (eVar 6) (eC .none))) (frM (eVar 6)) (eTup (aCons (frM (binS ixA (eVar 6) (eC (.int 0)))) (aCons (frM (binS modD (eCall intG (aCons (binS subD (eC (.int 0)) (binS ixA (eVar 6) (eC (.int 1)))) aNil)) (eVar 1))) aNil))))) aNil)))) (eVar 3)) (eVar 3))) aNil)))))
    (sSeq (sSet 4 (pkM (eFn F_added_points (aCons (frM (eVar 1)) (aCons (frM (eVar 2)) (aCons (frM (eVar 6)) (aCons (frM (eVar 11)) aNil)))))))
    (sSeq (sIf (tOr' (tNo (tV (eFn (F__law_plain 4) (aCons (frM (eVar 4)) aNil)))) (tB (binS neqD (eVar 4) (eFn F__law_added (aCons (frM (eVar 1)) (aCons (frM (eVar 2)) (aCons (frM (eVar 6)) (aCons (frM (eVar 11)) aNil)))))))) (sRet [0] (eC (.bool false))) sNil)
    (sSeq (sSet 12 (pkM (cpM (eIf (tB (binS notXD (eVar 6) (eC .none))) (frM (eFn F__law_multiples (aCons (frM (eVar 1)) (aCons (frM (eVar 2)) (aCons (frM (eVar 6)) aNil))))) (frM (eLst (aCons (eC .none) aNil)))))))
    (sSeq (sSet 4 (pkM (eFn F_order_of_point (aCons (frM (eVar 1)) (aCons (frM (eVar 2)) (aCons (frM (eVar 6)) aNil))))))
    (sSeq (sIf (tOr' (tNo (tV (eFn (F__law_plain 4) (aCons (frM (eVar 4)) aNil)))) (tB (binS neqD (eVar 4) (eCall lenG (aCons (eVar 12) aNil))))) (sRet [0] (eC (.bool false))) sNil)
    (sFor (iSeq (eTup (aCons (frM (binS subD (eFn F__law_next (aCons (eVar 0) (aCons (eC (.int 99)) aNil))) (eC (.int 49)))) (aCons (eC (.int 0)) (aCons (unS negD (eC (.int 1))) (aCons (eC (.int 1000000007)) aNil)))))) (tName 13) (sSeq (sSet 4 (pkM (eFn (F_times_point 2) (aCons (frM (eVar 1)) (aCons (frM (eVar 2)) (aCons (frM (eVar 13)) (aCons (frM (eVar 6)) aNil)))))))
    (sIf (tOr' (tNo (tV (eFn (F__law_plain 4) (aCons (frM (eVar 4)) aNil)))) (tB (binS neqD (eVar 4) (binS ixA (eVar 12) (binS modD (eCall intG (aCons (eVar 13) aNil)) (eCall lenG (aCons (eVar 12) aNil))))))) (sRet [0] (eC (.bool false))) sNil)))))))))))
    (sRet [0] (eC (.bool true)))))))))))))
def F__law_points_right : FnS := runF 3 14 [0] g__law_points_right
/-! _law_turned -/
abbrev s__law_turned : Stmt := topS 22
theorem sc__law_turned : FnScope ["p", "curve", "u"] ["p", "curve", "u"] (defScope s__law_turned) := ⟨rfl, rfl, rfl, by decide +kernel, rfl, by decide +kernel, by decide +kernel⟩
def g__law_turned : MS :=
    (sRet [] (eTup (aCons (frM (binS modD (eCall intG (aCons (binS mulD (binS mulD (binS mulD (binS mulD (binS ixA (eVar 1) (eC (.int 0))) (eVar 2)) (eVar 2)) (eVar 2)) (eVar 2)) aNil)) (eVar 0))) (aCons (frM (binS modD (eCall intG (aCons (binS mulD (binS mulD (binS mulD (binS mulD (binS mulD (binS mulD (binS ixA (eVar 1) (eC (.int 1))) (eVar 2)) (eVar 2)) (eVar 2)) (eVar 2)) (eVar 2)) (eVar 2)) aNil)) (eVar 0))) aNil))))
def F__law_turned : FnS := runF 3 3 [] g__law_turned
/-! curve_form -/
abbrev s_curve_form : Stmt := topS 8
theorem sc_curve_form : FnScope ["p", "curve", "u"] ["p", "curve"] (defScope s_curve_form) := ⟨rfl, rfl, rfl, by decide +kernel, rfl, by decide +kernel, by decide +kernel⟩
def g_curve_form : MS :=
    (sRet [] (frM (eCall minG (aCons (eLc [2] (iRng rng2 (aCons (eC (.int 1)) (aCons (eVar 0) aNil))) (tName 2) cYes (eTup (aCons (frM (eFn F__turned (aCons (frM (eVar 0)) (aCons (frM (eVar 1)) (aCons (frM (eVar 2)) aNil))))) (aCons (frM (eVar 2)) aNil)))) aNil))))
def F_curve_form : FnS := runF 2 3 [] g_curve_form
/-! _law_forms -/
abbrev s__law_forms : Stmt := topS 24
theorem sc__law_forms : FnScope ["p", "found", "seen", "a", "b", "u"] ["p"] (defScope s__law_forms) := ⟨rfl, rfl, rfl, by decide +kernel, rfl, by decide +kernel, by decide +kernel⟩
def g__law_forms : MS :=
    (sSeq (sPar 1 2 (aCons (eLst aNil) (aCons eDctN aNil)))
    (sSeq (sFor (iRng rng1 (aCons (eVar 0) aNil)) (tName 3) (sFor (iRng rng1 (aCons (eVar 0) aNil)) (tName 4) (sIf (tAn (tV (eFn F__law_is_curve (aCons (frM (eVar 0)) (aCons (eTup (aCons (frM (eVar 3)) (aCons (frM (eVar 4)) aNil))) aNil)))) (tB (binS ninAD (eTup (aCons (frM (eVar 3)) (aCons (frM (eVar 4)) aNil))) (eVar 2)))) (sSeq (sExpr (mutM "list" appG (eVar 1) (aCons (eTup (aCons (frM (eVar 3)) (aCons (frM (eVar 4)) aNil))) aNil)))
    (sFor (iRng rng2 (aCons (eC (.int 1)) (aCons (eVar 0) aNil))) (tName 5) (sAsg (eC (.bool true)) (tSub (eVar 2) (eFn F__law_turned (aCons (frM (eVar 0)) (aCons (eTup (aCons (frM (eVar 3)) (aCons (frM (eVar 4)) aNil))) (aCons (frM (eVar 5)) aNil)))))))) sNil)))
    (sRet [] (eTup (aCons (frM (eVar 1)) (aCons (frM (eCall lenA (aCons (eVar 2) aNil))) aNil))))))
def F__law_forms : FnS := runF 1 6 [] g__law_forms
/-! all_curves -/
abbrev s_all_curves : Stmt := topS 9
theorem sc_all_curves : FnScope ["p", "curves", "a", "b", "curve"] ["p"] (defScope s_all_curves) := ⟨rfl, rfl, rfl, by decide +kernel, rfl, by decide +kernel, by decide +kernel⟩
def g_all_curves : MS :=
    (sSeq (sSet 1 (pkM (eLc2 [2, 3] [3] (iRng rng1 (aCons (eVar 0) aNil)) (tName 2) cYes (iRng rng1 (aCons (eVar 0) aNil)) (tName 3) (tB (binS neqD (binS modD (binS addD (binS mulD (binS mulD (binS mulD (eC (.int 4)) (eVar 2)) (eVar 2)) (eVar 2)) (binS mulD (binS mulD (eC (.int 27)) (eVar 3)) (eVar 3))) (eVar 0)) (eC (.int 0)))) (eTup (aCons (frM (eVar 2)) (aCons (frM (eVar 3)) aNil))))))
    (sRet [] (frM (eCall tupleG (aCons (eLc [4] (iSeq (eVar 1)) (tName 4) (tB (binS eqqD (binS ixA (eFn F_curve_form (aCons (frM (eVar 0)) (aCons (frM (eVar 4)) aNil))) (eC (.int 0))) (eVar 4))) (eVar 4)) aNil)))))
def F_all_curves : FnS := runF 1 5 [] g_all_curves
/-! law -/
abbrev s_law : Stmt := topS 26
theorem sc_law : FnScope ["script", "w", "p", "curve", "turn", "alike", "least", "other", "one", "told", "a", "b", "forms", "many", "u", "form"] ["script"] (defScope s_law) := ⟨rfl, rfl, rfl, by decide +kernel, rfl, by decide +kernel, by decide +kernel⟩
def L_0 : MS := (sSet 1 (eDisp [((.inr ("draws" : Str) : Key), (eFn F__law_draws (aCons (frM (eVar 0)) (aCons (eC (.int 400)) aNil)))), ((.inr ("at" : Str) : Key), (eC (.int 0)))]))
def L_1 : MS := (sSet 2 (pkM (eFn F__law_pick (aCons (eVar 1) (aCons (frM (eLst (aCons (eC (.int 5)) (aCons (eC (.int 7)) (aCons (eC (.int 7)) (aCons (eC (.int 11)) (aCons (eC (.int 13)) (aCons (eC (.int 17)) aNil)))))))) aNil)))))
def L_2 : MS := (sSet 3 (eTup (aCons (frM (eFn F__law_next (aCons (eVar 1) (aCons (frM (eVar 2)) aNil)))) (aCons (frM (eFn F__law_next (aCons (eVar 1) (aCons (frM (eVar 2)) aNil)))) aNil))))
def L_3_0_0 : MS := (sSet 3 (eTup (aCons (frM (eFn F__law_next (aCons (eVar 1) (aCons (frM (eVar 2)) aNil)))) (aCons (frM (binS addD (eC (.int 1)) (eFn F__law_next (aCons (eVar 1) (aCons (frM (binS subD (eVar 2) (eC (.int 1)))) aNil))))) aNil))))
def L_3_0 : MS := (sIf (tNo (tV (eFn F__law_is_curve (aCons (frM (eVar 2)) (aCons (frM (eVar 3)) aNil))))) L_3_0_0 sNil)
def L_3 : MS := (sFor (iRng rng1 (aCons (eC (.int 9)) aNil)) (tName 4) L_3_0)
def L_4_0 : MS := (sSet 3 (eTup (aCons (eC (.int 0)) (aCons (eC (.int 1)) aNil))))
def L_4 : MS := (sIf (tNo (tV (eFn F__law_is_curve (aCons (frM (eVar 2)) (aCons (frM (eVar 3)) aNil))))) L_4_0 sNil)
def L_5_0 : MS := (sRet [] (eC (.bool false)))
def L_5 : MS := (sIf (tNo (tV (eFn F__law_points_right (aCons (eVar 1) (aCons (frM (eVar 2)) (aCons (frM (eVar 3)) aNil)))))) L_5_0 sNil)
def L_6 : MS := (sSet 5 (pkM (eLc [14] (iRng rng2 (aCons (eC (.int 1)) (aCons (eVar 2) aNil))) (tName 14) cYes (eFn F__law_turned (aCons (frM (eVar 2)) (aCons (frM (eVar 3)) (aCons (frM (eVar 14)) aNil)))))))
def L_7 : MS := (sSet 6 (pkM (eCall minG (aCons (eVar 5) aNil))))
def L_8 : MS := (sSet 7 (pkM (eFn F__law_pick (aCons (eVar 1) (aCons (frM (eVar 5)) aNil)))))
def L_9_0 : MS := (sSet 9 (pkM (eFn F_curve_form (aCons (frM (eVar 2)) (aCons (frM (eVar 8)) aNil)))))
def L_9_1_0 : MS := (sRet [] (eC (.bool false)))
def L_9_1 : MS := (sIf (tOr' (tNo (tV (eFn (F__law_plain 4) (aCons (frM (eVar 9)) aNil)))) (tB (binS neqD (eVar 9) (eTup (aCons (frM (eVar 6)) (aCons (frM (binS ixA (eLc [14] (iRng rng2 (aCons (eC (.int 1)) (aCons (eVar 2) aNil))) (tName 14) (tB (binS eqqD (eFn F__law_turned (aCons (frM (eVar 2)) (aCons (frM (eVar 8)) (aCons (frM (eVar 14)) aNil)))) (eVar 6))) (eVar 14)) (eC (.int 0)))) aNil)))))) L_9_1_0 sNil)
def L_9 : MS := (sFor (iSeq (eTup (aCons (frM (eVar 3)) (aCons (frM (eVar 7)) aNil)))) (tName 8) (sSeq L_9_0
    L_9_1))
def L_10 : MS := (sSet 9 (pkM (eFn F_curve_keepers (aCons (frM (eVar 2)) (aCons (frM (eVar 3)) aNil)))))
def L_11_0 : MS := (sRet [] (eC (.bool false)))
def L_11 : MS := (sIf (tOr' (tNo (tV (eFn (F__law_plain 4) (aCons (frM (eVar 9)) aNil)))) (tB (binS neqD (eVar 9) (eCall tupleG (aCons (eLc [14] (iRng rng2 (aCons (eC (.int 1)) (aCons (eVar 2) aNil))) (tName 14) (tB (binS eqqD (eFn F__law_turned (aCons (frM (eVar 2)) (aCons (frM (eVar 3)) (aCons (frM (eVar 14)) aNil)))) (eVar 3))) (eVar 14)) aNil))))) L_11_0 sNil)
def L_12 : MS := (sAsg (eVar 3) (tTupT [(tName 10), (tName 11)]))
def L_13 : MS := (sSet 9 (pkM (eFn F_shape_number (aCons (frM (eVar 2)) (aCons (frM (eVar 3)) aNil)))))
def L_14_0 : MS := (sRet [] (eC (.bool false)))
def L_14 : MS := (sIf (tOr' (tNo (tV (eFn (F__law_plain 4) (aCons (frM (eVar 9)) aNil)))) (tOr' (tB (binS neqD (eVar 9) (eFn F__law_over (aCons (frM (eVar 2)) (aCons (frM (binS mulD (binS mulD (binS mulD (eC (.int 6912)) (eVar 10)) (eVar 10)) (eVar 10))) (aCons (frM (binS addD (binS mulD (binS mulD (binS mulD (eC (.int 4)) (eVar 10)) (eVar 10)) (eVar 10)) (binS mulD (binS mulD (eC (.int 27)) (eVar 11)) (eVar 11)))) aNil)))))) (tB (binS neqD (eFn F_shape_number (aCons (frM (eVar 2)) (aCons (frM (eVar 7)) aNil))) (eVar 9))))) L_14_0 sNil)
def L_15_0 : MS := (sAsg (eFn F__law_forms (aCons (frM (eVar 2)) aNil)) (tTupT [(tName 12), (tName 13)]))
def L_15_1 : MS := (sSet 9 (pkM (eFn F_all_curves (aCons (frM (eVar 2)) aNil))))
def L_15_2_0 : MS := (sRet [] (eC (.bool false)))
def L_15_2 : MS := (sIf (tOr' (tNo (tV (eFn (F__law_plain 4) (aCons (frM (eVar 9)) aNil)))) (tOr' (tB (binS neqD (eCall listG (aCons (eVar 9) aNil)) (eVar 12))) (tB (binS neqD (eVar 13) (binS subD (binS mulD (eVar 2) (eVar 2)) (eVar 2)))))) L_15_2_0 sNil)
def L_15_3_0 : MS := (sRet [] (eC (.bool false)))
def L_15_3 : MS := (sIf (tB (binS neqD (eCall sumG (aCons (eLc [15] (iSeq (eVar 9)) (tName 15) cYes (binS divD (binS subD (eVar 2) (eC (.int 1))) (eCall lenG (aCons (eFn F_curve_keepers (aCons (frM (eVar 2)) (aCons (frM (eVar 15)) aNil))) aNil)))) aNil)) (binS subD (binS mulD (eVar 2) (eVar 2)) (eVar 2)))) L_15_3_0 sNil)
def L_15 : MS := (sIf (tB (binS (cmpD fun i j => decide (i < j)) (eVar 2) (eC (.int 14)))) (sSeq L_15_0
    (sSeq L_15_1
    (sSeq L_15_2
    L_15_3))) sNil)
def L_16 : MS := (sRet [] (eC (.bool true)))
def g_law : MS :=
    (sSeq L_0
    (sSeq L_1
    (sSeq L_2
    (sSeq L_3
    (sSeq L_4
    (sSeq L_5
    (sSeq L_6
    (sSeq L_7
    (sSeq L_8
    (sSeq L_9
    (sSeq L_10
    (sSeq L_11
    (sSeq L_12
    (sSeq L_13
    (sSeq L_14
    (sSeq L_15
    L_16))))))))))))))))
def F_law : FnS := runF 1 16 [] g_law
section
variable {P : Program} {w : World} {K : PySem.W.Frag} {mg : Str → Option Value} {base : Heap}
theorem ok__law_next (Z : Zs mg) (D : Dn K mg "_law_next" s__law_next ["w", "many"]) : Has P w K mg base 1 "_law_next" ["w", "many"] F__law_next :=
  fn_has D sc__law_next [0] g__law_next fun cdv A outer s H E fA hr =>
    (ds_cons (ds_augS (u201 hr) (de_var 0) de_str de_int iadd_d)
    (ds_cons (ds_if (dt_cmp gt_d (de_ix (ixA_d (u2 hr)) (de_var 0) de_str) (de_callB len_d (by rfl) Z.len (by rfl) (da_cons (de_ix (ixA_d (u2 hr)) (de_var 0) de_str) da_nil))) (ds_one (ds_ret de_int)) ds_nil)
    (ds_one (ds_ret (de_bin mod_d (de_callTy int_d (by rfl) Z.int (by rfl) (da_cons (de_ix (ixA_d (u2 hr)) (de_ix (ixA_d (u2 hr)) (de_var 0) de_str) (de_bin sub_d (de_ix (ixA_d (u2 hr)) (de_var 0) de_str) de_int)) da_nil)) (de_var 1))))))
theorem ok__law_pick (Z : Zs mg) (D : Dn K mg "_law_pick" s__law_pick ["w", "rows"]) (h__law_next : Has P w K mg base 1 "_law_next" ["w", "many"] F__law_next) : Has P w K mg base 2 "_law_pick" ["w", "rows"] F__law_pick :=
  fn_has D sc__law_pick [0] g__law_pick fun cdv A outer s H E fA hr =>
    (ds_one (ds_ret (de_ix (ixA_d (u2 hr)) (de_var 1) (de_call h__law_next hr (by first | omega | decide) (by rfl) (da_cons (de_var 0) (da_cons (de_fr (de_callB len_d (by rfl) Z.len (by rfl) (da_cons (de_var 1) da_nil))) da_nil)) (aLen_cons (aLen_cons aLen_nil))))))
theorem ok__turned (Z : Zs mg) (D : Dn K mg "_turned" s__turned ["p", "curve", "u"]) : Has P w K mg base 1 "_turned" ["p", "curve", "u"] F__turned :=
  fn_has D sc__turned [] g__turned fun cdv A outer s H E fA hr =>
    (ds_cons (ds_set (i := 3) sc__turned.nd rfl (by first | exact .inl rfl | exact .inr rfl) (by decide) (de_bin mod_d (de_bin mul_d (de_var 2) (de_var 2)) (de_var 0)))
    (ds_one (ds_ret (de_tup (da_cons (de_fr (de_bin mod_d (de_bin mul_d (de_bin mul_d (de_ix (ixA_d (u2 hr)) (de_var 1) de_int) (de_var 3)) (de_var 3)) (de_var 0))) (da_cons (de_fr (de_bin mod_d (de_bin mul_d (de_bin mul_d (de_bin mul_d (de_ix (ixA_d (u2 hr)) (de_var 1) de_int) (de_var 3)) (de_var 3)) (de_var 3)) (de_var 0))) da_nil))))))
theorem ok_curve_keepers (Z : Zs mg) (D : Dn K mg "curve_keepers" s_curve_keepers ["p", "curve"]) (h__turned : Has P w K mg base 1 "_turned" ["p", "curve", "u"] F__turned) : Has P w K mg base 2 "curve_keepers" ["p", "curve"] F_curve_keepers :=
  fn_has D sc_curve_keepers [] g_curve_keepers fun cdv A outer s H E fA hr =>
    (ds_one (ds_ret (de_fr (de_callTy tuple_d (by rfl) Z.tuple (by rfl) (da_cons (de_lc (own := [(("u" : Str), 2)]) rfl sc_curve_keepers.nd (di_range2 (by rfl) Z.range (da_cons de_int (da_cons (de_var 0) da_nil))) (blkOk_by (by rfl)) (fun _ _ _ _ _ => (dg_name (i := 2) sc_curve_keepers.nd rfl (by first | exact .inl rfl | exact .inr rfl) (by decide))) (fun _ _ _ _ _ => (dp_one (dt_cmp (eq_d (u65 hr)) (de_call h__turned hr (by first | omega | decide) (by rfl) (da_cons (de_fr (de_var 0)) (da_cons (de_fr (de_var 1)) (da_cons (de_fr (de_var 2)) da_nil))) (aLen_cons (aLen_cons (aLen_cons aLen_nil)))) (de_var 1)))) (fun _ _ _ _ _ => (de_var 2))) da_nil)))))
theorem ok_undone_number (Z : Zs mg) (D : Dn K mg "undone_number" s_undone_number ["p", "x"]) : Has P w K mg base 1 "undone_number" ["p", "x"] F_undone_number :=
  fn_has D sc_undone_number [] g_undone_number fun cdv A outer s H E fA hr =>
    (ds_cons (ds_par (i := 2) (j := 3) rfl sc_undone_number.nd rfl rfl (by decide) (by decide) (by decide) rfl rfl (da_cons (de_fr (de_var 0)) (da_cons (de_fr (de_bin mod_d (de_var 1) (de_var 0))) da_nil)) (by rfl))
    (ds_cons (ds_asg (de_tup (da_cons de_int (da_cons de_int da_nil))) (dg_tup rfl (dgs_cons (dg_name (i := 4) sc_undone_number.nd rfl (by first | exact .inl rfl | exact .inr rfl) (by decide)) (dgs_cons (dg_name (i := 5) sc_undone_number.nd rfl (by first | exact .inl rfl | exact .inr rfl) (by decide)) dgs_nil))))
    (ds_cons (ds_while 1048576 PassesOwn.never (dt_truth (de_var 3)) (ds_cons (ds_set (i := 6) sc_undone_number.nd rfl (by first | exact .inl rfl | exact .inr rfl) (by decide) (de_bin div_d (de_var 2) (de_var 3)))
    (ds_cons (ds_par (i := 2) (j := 3) rfl sc_undone_number.nd rfl rfl (by decide) (by decide) (by decide) rfl rfl (da_cons (de_fr (de_var 3)) (da_cons (de_fr (de_bin sub_d (de_var 2) (de_bin mul_d (de_var 6) (de_var 3)))) da_nil)) (by rfl))
    (ds_one (ds_par (i := 4) (j := 5) rfl sc_undone_number.nd rfl rfl (by decide) (by decide) (by decide) rfl rfl (da_cons (de_fr (de_var 5)) (da_cons (de_fr (de_bin sub_d (de_var 4) (de_bin mul_d (de_var 6) (de_var 5)))) da_nil)) (by rfl))))))
    (ds_one (ds_ret (de_bin mod_d (de_var 4) (de_var 0)))))))
theorem ok_shape_number (Z : Zs mg) (D : Dn K mg "shape_number" s_shape_number ["p", "curve"]) (h_undone_number : Has P w K mg base 1 "undone_number" ["p", "x"] F_undone_number) : Has P w K mg base 2 "shape_number" ["p", "curve"] F_shape_number :=
  fn_has D sc_shape_number [] g_shape_number fun cdv A outer s H E fA hr =>
    (ds_cons (ds_set (i := 2) sc_shape_number.nd rfl (by first | exact .inl rfl | exact .inr rfl) (by decide) (de_pk (de_bin mul_d (de_bin mul_d (de_bin mul_d de_int (de_ix (ixA_d (u2 hr)) (de_var 1) de_int)) (de_ix (ixA_d (u2 hr)) (de_var 1) de_int)) (de_ix (ixA_d (u2 hr)) (de_var 1) de_int))))
    (ds_one (ds_ret (de_bin mod_d (de_bin mul_d (de_bin mul_d de_int (de_var 2)) (de_call h_undone_number hr (by first | omega | decide) (by rfl) (da_cons (de_fr (de_var 0)) (da_cons (de_fr (de_bin add_d (de_var 2) (de_bin mul_d (de_bin mul_d de_int (de_ix (ixA_d (u2 hr)) (de_var 1) de_int)) (de_ix (ixA_d (u2 hr)) (de_var 1) de_int)))) da_nil)) (aLen_cons (aLen_cons aLen_nil)))) (de_var 0)))))
theorem ok__law_draws (Z : Zs mg) (D : Dn K mg "_law_draws" s__law_draws ["script", "many"]) : Has P w K mg base 1 "_law_draws" ["script", "many"] F__law_draws :=
  fn_has D sc__law_draws [] g__law_draws fun cdv A outer s H E fA hr =>
    (ds_cons (ds_set (i := 2) sc__law_draws.nd rfl (by first | exact .inl rfl | exact .inr rfl) (by decide) (de_lst da_nil))
    (ds_cons (ds_set (i := 3) sc__law_draws.nd rfl (by first | exact .inl rfl | exact .inr rfl) (by decide) de_int)
    (ds_cons (ds_for PassesOwn.never rfl (di_range1 (by rfl) Z.range (da_cons (de_callB len_d (by rfl) Z.len (by rfl) (da_cons (de_var 0) da_nil)) da_nil)) (dg_name (i := 4) sc__law_draws.nd rfl (by first | exact .inl rfl | exact .inr rfl) (by decide)) (ds_cons (ds_set (i := 5) sc__law_draws.nd rfl (by first | exact .inl rfl | exact .inr rfl) (by decide) (de_callB abs_d (by rfl) Z.abs (by rfl) (da_cons (de_callTy int_d (by rfl) Z.int (by rfl) (da_cons (de_ix (ixA_d (u2 hr)) (de_var 0) (de_var 4)) da_nil)) da_nil)))
    (ds_cons (ds_set (i := 3) sc__law_draws.nd rfl (by first | exact .inl rfl | exact .inr rfl) (by decide) (de_bin mod_d (de_callTy int_d (by rfl) Z.int (by rfl) (da_cons (de_bin add_d (de_bin add_d (de_bin mul_d (de_var 3) de_int) (de_bin mod_d (de_var 5) de_int)) (de_var 4)) da_nil)) de_int))
    (ds_cons (ds_set (i := 6) sc__law_draws.nd rfl (by first | exact .inl rfl | exact .inr rfl) (by decide) de_int)
    (ds_cons (ds_if (dt_cmp ge_d (de_var 5) (de_bin pow_d de_int de_int)) (ds_one (ds_set (i := 6) sc__law_draws.nd rfl (by first | exact .inl rfl | exact .inr rfl) (by decide) (de_cp (de_var 5)))) (ds_cons (ds_expr (de_app (de_var 2) (da_cons (de_fr (de_bin mod_d (de_callTy int_d (by rfl) Z.int (by rfl) (da_cons (de_var 5) da_nil)) de_int)) da_nil)))
    (ds_one (ds_expr (de_app (de_var 2) (da_cons (de_fr (de_bin mod_d (de_bin mod_d (de_callTy int_d (by rfl) Z.int (by rfl) (da_cons (de_bin add_d (de_bin mul_d (de_var 3) de_int) de_int) da_nil)) de_int) de_int)) da_nil))))))
    (ds_one (ds_for PassesOwn.never rfl (di_range1 (by rfl) Z.range (da_cons de_int da_nil)) (dg_name (i := 7) sc__law_draws.nd rfl (by first | exact .inl rfl | exact .inr rfl) (by decide)) (ds_one (ds_if (dt_cmp gt_d (de_var 6) de_int) (ds_cons (ds_expr (de_app (de_var 2) (da_cons (de_fr (de_bin mod_d (de_callTy int_d (by rfl) Z.int (by rfl) (da_cons (de_var 6) da_nil)) de_int)) da_nil)))
    (ds_one (ds_set (i := 6) sc__law_draws.nd rfl (by first | exact .inl rfl | exact .inr rfl) (by decide) (de_bin div_d (de_var 6) de_int)))) ds_nil)))))))))
    (ds_cons (ds_for PassesOwn.never rfl (di_range1 (by rfl) Z.range (da_cons (de_var 1) da_nil)) (dg_name (i := 4) sc__law_draws.nd rfl (by first | exact .inl rfl | exact .inr rfl) (by decide)) (ds_cons (ds_set (i := 3) sc__law_draws.nd rfl (by first | exact .inl rfl | exact .inr rfl) (by decide) (de_bin mod_d (de_callTy int_d (by rfl) Z.int (by rfl) (da_cons (de_bin add_d (de_bin add_d (de_bin mul_d (de_var 3) de_int) (de_var 4)) de_int) da_nil)) de_int))
    (ds_one (ds_expr (de_app (de_var 2) (da_cons (de_fr (de_bin mod_d (de_callTy int_d (by rfl) Z.int (by rfl) (da_cons (de_var 3) da_nil)) de_int)) da_nil))))))
    (ds_one (ds_ret (de_cut (de_var 2) do_no (do_int (de_var 1)))))))))
theorem ok__law_is_curve (Z : Zs mg) (D : Dn K mg "_law_is_curve" s__law_is_curve ["p", "curve"]) : Has P w K mg base 1 "_law_is_curve" ["p", "curve"] F__law_is_curve :=
  fn_has D sc__law_is_curve [] g__law_is_curve fun cdv A outer s H E fA hr =>
    (ds_cons (ds_asg (de_var 1) (dg_tup rfl (dgs_cons (dg_name (i := 2) sc__law_is_curve.nd rfl (by first | exact .inl rfl | exact .inr rfl) (by decide)) (dgs_cons (dg_name (i := 3) sc__law_is_curve.nd rfl (by first | exact .inl rfl | exact .inr rfl) (by decide)) dgs_nil))))
    (ds_one (ds_ret (de_cmp (ne_d (u65 hr)) (de_bin mod_d (de_callTy int_d (by rfl) Z.int (by rfl) (da_cons (de_bin add_d (de_bin mul_d (de_bin mul_d (de_bin mul_d de_int (de_var 2)) (de_var 2)) (de_var 2)) (de_bin mul_d (de_bin mul_d de_int (de_var 3)) (de_var 3))) da_nil)) (de_var 0)) de_int))))
theorem ok__law_points (Z : Zs mg) (D : Dn K mg "_law_points" s__law_points ["p", "curve"]) : Has P w K mg base 1 "_law_points" ["p", "curve"] F__law_points :=
  fn_has D sc__law_points [] g__law_points fun cdv A outer s H E fA hr =>
    (ds_cons (ds_asg (de_var 1) (dg_tup rfl (dgs_cons (dg_name (i := 2) sc__law_points.nd rfl (by first | exact .inl rfl | exact .inr rfl) (by decide)) (dgs_cons (dg_name (i := 3) sc__law_points.nd rfl (by first | exact .inl rfl | exact .inr rfl) (by decide)) dgs_nil))))
    (ds_cons (ds_set (i := 4) sc__law_points.nd rfl (by first | exact .inl rfl | exact .inr rfl) (by decide) (de_pk (de_lst da_nil)))
    (ds_cons (ds_for PassesOwn.never rfl (di_range1 (by rfl) Z.range (da_cons (de_var 0) da_nil)) (dg_name (i := 5) sc__law_points.nd rfl (by first | exact .inl rfl | exact .inr rfl) (by decide)) (ds_one (ds_set (i := 4) sc__law_points.nd rfl (by first | exact .inl rfl | exact .inr rfl) (by decide) (de_pk (de_bin add_d (de_var 4) (de_lc (own := [(("y" : Str), 6)]) rfl sc__law_points.nd (di_range1 (by rfl) Z.range (da_cons (de_var 0) da_nil)) (blkOk_by (by rfl)) (fun _ _ _ _ _ => (dg_name (i := 6) sc__law_points.nd rfl (by first | exact .inl rfl | exact .inr rfl) (by decide))) (fun _ _ _ _ _ => (dp_one (dt_cmp (eq_d (u65 hr)) (de_bin mod_d (de_callTy int_d (by rfl) Z.int (by rfl) (da_cons (de_bin sub_d (de_bin sub_d (de_bin sub_d (de_bin mul_d (de_var 6) (de_var 6)) (de_bin mul_d (de_bin mul_d (de_var 5) (de_var 5)) (de_var 5))) (de_bin mul_d (de_var 2) (de_var 5))) (de_var 3)) da_nil)) (de_var 0)) de_int))) (fun _ _ _ _ _ => (de_tup (da_cons (de_fr (de_var 5)) (da_cons (de_fr (de_var 6)) da_nil))))))))))
    (ds_one (ds_ret (de_fr (de_var 4)))))))
theorem ok_points_of (Z : Zs mg) (D : Dn K mg "points_of" s_points_of ["p", "curve"]) : Has P w K mg base 1 "points_of" ["p", "curve"] F_points_of :=
  fn_has D sc_points_of [] g_points_of fun cdv A outer s H E fA hr =>
    (ds_cons (ds_asg (de_var 1) (dg_tup rfl (dgs_cons (dg_name (i := 2) sc_points_of.nd rfl (by first | exact .inl rfl | exact .inr rfl) (by decide)) (dgs_cons (dg_name (i := 3) sc_points_of.nd rfl (by first | exact .inl rfl | exact .inr rfl) (by decide)) dgs_nil))))
    (ds_cons (ds_set (i := 4) sc_points_of.nd rfl (by first | exact .inl rfl | exact .inr rfl) (by decide) de_dnew)
    (ds_cons (ds_sdf PassesOwn.never rfl (by decide) (by decide) (di_range1 (by rfl) Z.range (da_cons (de_var 0) da_nil)) (pg_name (i := 5) sc_points_of.nd rfl (by first | exact .inl rfl | exact .inr rfl)) (pe_var (i := 4) rfl (by first | exact Or.inl rfl | exact Or.inr (Or.inl rfl) | exact Or.inr (Or.inr rfl))) (de_bin mod_d (de_bin mul_d (de_var 5) (de_var 5)) (de_var 0)) (de_lst da_nil) (de_var 5) ⟨rfl, rfl, rfl, rfl⟩ (fun _ _ h1 h2 => pe_bm PySem.F.plainAttrs_list PySem.F.slot_list_append PySem.F.type_list_append app_m h1 h2) (by rfl) (fun _ => rfl) (by rfl))
    (ds_cons (ds_set (i := 6) sc_points_of.nd rfl (by first | exact .inl rfl | exact .inr rfl) (by decide) (de_pk (de_lst da_nil)))
    (ds_cons (ds_for PassesOwn.never rfl (di_range1 (by rfl) Z.range (da_cons (de_var 0) da_nil)) (dg_name (i := 7) sc_points_of.nd rfl (by first | exact .inl rfl | exact .inr rfl) (by decide)) (ds_one (ds_set (i := 6) sc_points_of.nd rfl (by first | exact .inl rfl | exact .inr rfl) (by decide) (de_pk (de_bin add_d (de_var 6) (de_lc (own := [(("y" : Str), 5)]) rfl sc_points_of.nd (di_seq (de_dget (u2 hr) (de_var 4) (de_bin mod_d (de_bin add_d (de_bin add_d (de_bin mul_d (de_bin mul_d (de_var 7) (de_var 7)) (de_var 7)) (de_bin mul_d (de_var 2) (de_var 7))) (de_var 3)) (de_var 0)) (de_lst da_nil) ⟨rfl, rfl, rfl, rfl⟩)) (blkOk_by (by rfl)) (fun _ _ _ _ _ => (dg_name (i := 5) sc_points_of.nd rfl (by first | exact .inl rfl | exact .inr rfl) (by decide))) (fun _ _ _ _ _ => dp_nil) (fun _ _ _ _ _ => (de_tup (da_cons (de_fr (de_var 7)) (da_cons (de_fr (de_var 5)) da_nil))))))))))
    (ds_one (ds_ret (de_fr (de_bin add_d (de_tup (da_cons de_non da_nil)) (de_callTy tuple_d (by rfl) Z.tuple (by rfl) (da_cons (de_var 6) da_nil)))))))))))
theorem ok_added_points (Z : Zs mg) (D : Dn K mg "added_points" s_added_points ["p", "curve", "u", "v"]) (h_undone_number : Has P w K mg base 1 "undone_number" ["p", "x"] F_undone_number) : Has P w K mg base 2 "added_points" ["p", "curve", "u", "v"] F_added_points :=
  fn_has D sc_added_points [] g_added_points fun cdv A outer s H E fA hr =>
    (ds_cons (ds_if (PW.pt (dw_or (dt_cmp is_x (de_var 2) de_non) (dw_or1 (dt_cmp is_x (de_var 3) de_non)))) (ds_one (ds_ret (de_fr (de_ifExp (dt_cmp is_x (de_var 2) de_non) (de_fr (de_var 3)) (de_fr (de_var 2)))))) ds_nil)
    (ds_cons (ds_asg (de_var 2) (dg_tup rfl (dgs_cons (dg_name (i := 4) sc_added_points.nd rfl (by first | exact .inl rfl | exact .inr rfl) (by decide)) (dgs_cons (dg_name (i := 5) sc_added_points.nd rfl (by first | exact .inl rfl | exact .inr rfl) (by decide)) dgs_nil))))
    (ds_cons (ds_asg (de_var 3) (dg_tup rfl (dgs_cons (dg_name (i := 6) sc_added_points.nd rfl (by first | exact .inl rfl | exact .inr rfl) (by decide)) (dgs_cons (dg_name (i := 7) sc_added_points.nd rfl (by first | exact .inl rfl | exact .inr rfl) (by decide)) dgs_nil))))
    (ds_cons (ds_if (PW.pt (dw_and (dt_cmp (eq_d (u65 hr)) (de_var 4) (de_var 6)) (dw_and1 (dt_cmp (eq_d (u65 hr)) (de_bin mod_d (de_bin add_d (de_var 5) (de_var 7)) (de_var 0)) de_int)))) (ds_one (ds_ret de_non)) ds_nil)
    (ds_cons (ds_if (dt_cmp (eq_d (u65 hr)) (de_var 2) (de_var 3)) (ds_one (ds_set (i := 8) sc_added_points.nd rfl (by first | exact .inl rfl | exact .inr rfl) (by decide) (de_bin mod_d (de_bin mul_d (de_bin add_d (de_bin mul_d (de_bin mul_d de_int (de_var 4)) (de_var 4)) (de_ix (ixA_d (u2 hr)) (de_var 1) de_int)) (de_call h_undone_number hr (by first | omega | decide) (by rfl) (da_cons (de_fr (de_var 0)) (da_cons (de_fr (de_bin mul_d de_int (de_var 5))) da_nil)) (aLen_cons (aLen_cons aLen_nil)))) (de_var 0)))) (ds_one (ds_set (i := 8) sc_added_points.nd rfl (by first | exact .inl rfl | exact .inr rfl) (by decide) (de_bin mod_d (de_bin mul_d (de_bin sub_d (de_var 7) (de_var 5)) (de_call h_undone_number hr (by first | omega | decide) (by rfl) (da_cons (de_fr (de_var 0)) (da_cons (de_fr (de_bin sub_d (de_var 6) (de_var 4))) da_nil)) (aLen_cons (aLen_cons aLen_nil)))) (de_var 0)))))
    (ds_cons (ds_set (i := 9) sc_added_points.nd rfl (by first | exact .inl rfl | exact .inr rfl) (by decide) (de_bin mod_d (de_bin sub_d (de_bin sub_d (de_bin mul_d (de_var 8) (de_var 8)) (de_var 4)) (de_var 6)) (de_var 0)))
    (ds_one (ds_ret (de_tup (da_cons (de_fr (de_var 9)) (da_cons (de_fr (de_bin mod_d (de_bin sub_d (de_bin mul_d (de_var 8) (de_bin sub_d (de_var 4) (de_var 9))) (de_var 5)) (de_var 0))) da_nil)))))))))))
theorem ok_order_of_point (Z : Zs mg) (D : Dn K mg "order_of_point" s_order_of_point ["p", "curve", "u"]) (h_added_points : Has P w K mg base 2 "added_points" ["p", "curve", "u", "v"] F_added_points) : Has P w K mg base 3 "order_of_point" ["p", "curve", "u"] F_order_of_point :=
  fn_has D sc_order_of_point [] g_order_of_point fun cdv A outer s H E fA hr =>
    (ds_cons (ds_set (i := 3) sc_order_of_point.nd rfl (by first | exact .inl rfl | exact .inr rfl) (by decide) de_int)
    (ds_cons (ds_set (i := 4) sc_order_of_point.nd rfl (by first | exact .inl rfl | exact .inr rfl) (by decide) (de_pk (de_cp (de_var 2))))
    (ds_cons (ds_while 1048576 PassesOwn.never (dt_cmp isnot_x (de_var 4) de_non) (ds_cons (ds_set (i := 4) sc_order_of_point.nd rfl (by first | exact .inl rfl | exact .inr rfl) (by decide) (de_pk (de_call h_added_points hr (by first | omega | decide) (by rfl) (da_cons (de_fr (de_var 0)) (da_cons (de_fr (de_var 1)) (da_cons (de_fr (de_var 4)) (da_cons (de_fr (de_var 2)) da_nil)))) (aLen_cons (aLen_cons (aLen_cons (aLen_cons aLen_nil)))))))
    (ds_one (ds_aug (i := 3) sc_order_of_point.nd rfl (by first | exact .inl rfl | exact .inr rfl) (by decide) de_int iadd_d))))
    (ds_one (ds_ret (de_fr (de_var 3)))))))
theorem ok_group_of_curve (Z : Zs mg) (D : Dn K mg "group_of_curve" s_group_of_curve ["p", "curve"]) (h_order_of_point : Has P w K mg base 3 "order_of_point" ["p", "curve", "u"] F_order_of_point) (h_points_of : Has P w K mg base 1 "points_of" ["p", "curve"] F_points_of) : Has P w K mg base 4 "group_of_curve" ["p", "curve"] F_group_of_curve :=
  fn_has D sc_group_of_curve [] g_group_of_curve fun cdv A outer s H E fA hr =>
    (ds_cons (ds_set (i := 2) sc_group_of_curve.nd rfl (by first | exact .inl rfl | exact .inr rfl) (by decide) (de_pk (de_call h_points_of hr (by first | omega | decide) (by rfl) (da_cons (de_fr (de_var 0)) (da_cons (de_fr (de_var 1)) da_nil)) (aLen_cons (aLen_cons aLen_nil)))))
    (ds_cons (ds_set (i := 3) sc_group_of_curve.nd rfl (by first | exact .inl rfl | exact .inr rfl) (by decide) (de_pk (de_callB (max_d rfl hr.hd (u201 hr)) (by rfl) Z.max (by rfl) (da_cons (de_lc (own := [(("point" : Str), 4)]) rfl sc_group_of_curve.nd (di_seq (de_var 2)) (blkOk_by (by rfl)) (fun _ _ _ _ _ => (dg_name (i := 4) sc_group_of_curve.nd rfl (by first | exact .inl rfl | exact .inr rfl) (by decide))) (fun _ _ _ _ _ => dp_nil) (fun _ _ _ _ _ => (de_call h_order_of_point hr (by first | omega | decide) (by rfl) (da_cons (de_fr (de_var 0)) (da_cons (de_fr (de_var 1)) (da_cons (de_fr (de_var 4)) da_nil))) (aLen_cons (aLen_cons (aLen_cons aLen_nil)))))) da_nil))))
    (ds_one (ds_ret (de_fr (de_callTy tuple_d (by rfl) Z.tuple (by rfl) (da_cons (de_lc (own := [(("factor" : Str), 5)]) rfl sc_group_of_curve.nd (di_seq (de_tup (da_cons (de_fr (de_bin div_d (de_callB len_d (by rfl) Z.len (by rfl) (da_cons (de_var 2) da_nil)) (de_var 3))) (da_cons (de_fr (de_var 3)) da_nil)))) (blkOk_by (by rfl)) (fun _ _ _ _ _ => (dg_name (i := 5) sc_group_of_curve.nd rfl (by first | exact .inl rfl | exact .inr rfl) (by decide))) (fun _ _ _ _ _ => (dp_one (dt_cmp gt_d (de_var 5) de_int))) (fun _ _ _ _ _ => (de_var 5))) da_nil)))))))
theorem ok__law_plain (Z : Zs mg) (D : Dn K mg "_law_plain" s__law_plain ["thing"]) : ∀ n : Nat, Has P w K mg base (0 + n + 1) "_law_plain" ["thing"] (F__law_plain n)
  | 0 => fn_has D sc__law_plain [] _ fun _ _ _ _ _ _ _ _ => ds_void
  | n + 1 => by
    have h__law_plain := ok__law_plain Z D  n
    exact fn_has D sc__law_plain [] (g__law_plain (F__law_plain n)) fun cdv A outer s H E fA hr =>
    (ds_cons (ds_if (dt_truth (de_isi (T := "tuple") (by decide) (by rfl) Z.isinstance (by rfl) Z.tuple (by rfl) (de_var 0))) (ds_one (ds_ret (de_cmp (eq_d (u65 hr)) (de_lc (own := [(("one" : Str), 1)]) rfl sc__law_plain.nd (di_seq (de_var 0)) (blkOk_by (by rfl)) (fun _ _ _ _ _ => (dg_name (i := 1) sc__law_plain.nd rfl (by first | exact .inl rfl | exact .inr rfl) (by decide))) (fun _ _ _ _ _ => (dp_one (dt_not (dt_truth (de_call h__law_plain hr (by first | omega | decide) (by rfl) (da_cons (de_fr (de_var 1)) da_nil) (aLen_cons aLen_nil)))))) (fun _ _ _ _ _ => (de_var 1))) (de_lst da_nil)))) ds_nil)
    (ds_one (ds_ret (de_fr (de_or (de_cmp is_x (de_var 0) de_non) (de_one (de_and (de_isi (T := "int") (by decide) (by rfl) Z.isinstance (by rfl) Z.int (by rfl) (de_var 0)) (de_one (de_not (de_isi (T := "bool") (by decide) (by rfl) Z.isinstance (by rfl) Z.bool (by rfl) (de_var 0)))))))))))
theorem ok__law_over (Z : Zs mg) (D : Dn K mg "_law_over" s__law_over ["p", "a", "b"]) : Has P w K mg base 1 "_law_over" ["p", "a", "b"] F__law_over :=
  fn_has D sc__law_over [] g__law_over fun cdv A outer s H E fA hr =>
    (ds_one (ds_ret (de_fr (de_ix (ixA_d (u2 hr)) (de_lc (own := [(("k" : Str), 3)]) rfl sc__law_over.nd (di_range1 (by rfl) Z.range (da_cons (de_var 0) da_nil)) (blkOk_by (by rfl)) (fun _ _ _ _ _ => (dg_name (i := 3) sc__law_over.nd rfl (by first | exact .inl rfl | exact .inr rfl) (by decide))) (fun _ _ _ _ _ => (dp_one (dt_cmp (eq_d (u65 hr)) (de_bin mod_d (de_callTy int_d (by rfl) Z.int (by rfl) (da_cons (de_bin sub_d (de_bin mul_d (de_var 3) (de_var 2)) (de_var 1)) da_nil)) (de_var 0)) de_int))) (fun _ _ _ _ _ => (de_var 3))) de_int))))
theorem ok__law_added (Z : Zs mg) (D : Dn K mg "_law_added" s__law_added ["p", "curve", "u", "v"]) (h__law_over : Has P w K mg base 1 "_law_over" ["p", "a", "b"] F__law_over) : Has P w K mg base 2 "_law_added" ["p", "curve", "u", "v"] F__law_added :=
  fn_has D sc__law_added [] g__law_added fun cdv A outer s H E fA hr =>
    (ds_cons (ds_if (PW.pt (dw_or (dt_cmp is_x (de_var 2) de_non) (dw_or1 (dt_cmp is_x (de_var 3) de_non)))) (ds_one (ds_ret (de_fr (de_ifExp (dt_cmp is_x (de_var 2) de_non) (de_fr (de_var 3)) (de_fr (de_var 2)))))) ds_nil)
    (ds_cons (ds_if (PW.pt (dw_and (dt_cmp (eq_d (u65 hr)) (de_ix (ixA_d (u2 hr)) (de_var 2) de_int) (de_ix (ixA_d (u2 hr)) (de_var 3) de_int)) (dw_and1 (dt_cmp (eq_d (u65 hr)) (de_bin mod_d (de_callTy int_d (by rfl) Z.int (by rfl) (da_cons (de_bin add_d (de_ix (ixA_d (u2 hr)) (de_var 2) de_int) (de_ix (ixA_d (u2 hr)) (de_var 3) de_int)) da_nil)) (de_var 0)) de_int)))) (ds_one (ds_ret de_non)) ds_nil)
    (ds_cons (ds_if (dt_cmp (eq_d (u65 hr)) (de_var 2) (de_var 3)) (ds_one (ds_set (i := 4) sc__law_added.nd rfl (by first | exact .inl rfl | exact .inr rfl) (by decide) (de_pk (de_call h__law_over hr (by first | omega | decide) (by rfl) (da_cons (de_fr (de_var 0)) (da_cons (de_fr (de_bin mod_d (de_callTy int_d (by rfl) Z.int (by rfl) (da_cons (de_bin add_d (de_bin mul_d (de_bin mul_d de_int (de_ix (ixA_d (u2 hr)) (de_var 2) de_int)) (de_ix (ixA_d (u2 hr)) (de_var 2) de_int)) (de_ix (ixA_d (u2 hr)) (de_var 1) de_int)) da_nil)) (de_var 0))) (da_cons (de_fr (de_bin mul_d de_int (de_ix (ixA_d (u2 hr)) (de_var 2) de_int))) da_nil))) (aLen_cons (aLen_cons (aLen_cons aLen_nil))))))) (ds_one (ds_set (i := 4) sc__law_added.nd rfl (by first | exact .inl rfl | exact .inr rfl) (by decide) (de_pk (de_call h__law_over hr (by first | omega | decide) (by rfl) (da_cons (de_fr (de_var 0)) (da_cons (de_fr (de_bin mod_d (de_callTy int_d (by rfl) Z.int (by rfl) (da_cons (de_bin sub_d (de_ix (ixA_d (u2 hr)) (de_var 3) de_int) (de_ix (ixA_d (u2 hr)) (de_var 2) de_int)) da_nil)) (de_var 0))) (da_cons (de_fr (de_bin sub_d (de_ix (ixA_d (u2 hr)) (de_var 3) de_int) (de_ix (ixA_d (u2 hr)) (de_var 2) de_int))) da_nil))) (aLen_cons (aLen_cons (aLen_cons aLen_nil))))))))
    (ds_cons (ds_set (i := 5) sc__law_added.nd rfl (by first | exact .inl rfl | exact .inr rfl) (by decide) (de_bin mod_d (de_callTy int_d (by rfl) Z.int (by rfl) (da_cons (de_bin sub_d (de_bin sub_d (de_bin mul_d (de_var 4) (de_var 4)) (de_ix (ixA_d (u2 hr)) (de_var 2) de_int)) (de_ix (ixA_d (u2 hr)) (de_var 3) de_int)) da_nil)) (de_var 0)))
    (ds_one (ds_ret (de_tup (da_cons (de_fr (de_var 5)) (da_cons (de_fr (de_bin mod_d (de_callTy int_d (by rfl) Z.int (by rfl) (da_cons (de_bin sub_d (de_bin mul_d (de_var 4) (de_bin sub_d (de_ix (ixA_d (u2 hr)) (de_var 2) de_int) (de_var 5))) (de_ix (ixA_d (u2 hr)) (de_var 2) de_int)) da_nil)) (de_var 0))) da_nil)))))))))
theorem ok__law_multiples (Z : Zs mg) (D : Dn K mg "_law_multiples" s__law_multiples ["p", "curve", "u"]) (h__law_added : Has P w K mg base 2 "_law_added" ["p", "curve", "u", "v"] F__law_added) : Has P w K mg base 3 "_law_multiples" ["p", "curve", "u"] F__law_multiples :=
  fn_has D sc__law_multiples [] g__law_multiples fun cdv A outer s H E fA hr =>
    (ds_cons (ds_set (i := 3) sc__law_multiples.nd rfl (by first | exact .inl rfl | exact .inr rfl) (by decide) (de_lst (da_cons de_non da_nil)))
    (ds_cons (ds_for PassesOwn.never rfl (di_range1 (by rfl) Z.range (da_cons (de_bin add_d (de_bin mul_d de_int (de_var 0)) de_int) da_nil)) (dg_name (i := 4) sc__law_multiples.nd rfl (by first | exact .inl rfl | exact .inr rfl) (by decide)) (ds_cons (ds_set (i := 5) sc__law_multiples.nd rfl (by first | exact .inl rfl | exact .inr rfl) (by decide) (de_pk (de_call h__law_added hr (by first | omega | decide) (by rfl) (da_cons (de_fr (de_var 0)) (da_cons (de_fr (de_var 1)) (da_cons (de_fr (de_ix (ixA_d (u2 hr)) (de_var 3) (de_neg de_int))) (da_cons (de_fr (de_var 2)) da_nil)))) (aLen_cons (aLen_cons (aLen_cons (aLen_cons aLen_nil)))))))
    (ds_cons (ds_if (dt_cmp is_x (de_var 5) de_non) (ds_one ds_break) ds_nil)
    (ds_one (ds_expr (de_app (de_var 3) (da_cons (de_fr (de_var 5)) da_nil)))))))
    (ds_one (ds_ret (de_fr (de_var 3))))))
theorem ok_times_point (Z : Zs mg) (D : Dn K mg "times_point" s_times_point ["p", "curve", "k", "u"]) (h_added_points : Has P w K mg base 2 "added_points" ["p", "curve", "u", "v"] F_added_points) : ∀ n : Nat, Has P w K mg base (2 + n + 1) "times_point" ["p", "curve", "k", "u"] (F_times_point n)
  | 0 => fn_has D sc_times_point [] _ fun _ _ _ _ _ _ _ _ => ds_void
  | n + 1 => by
    have h_times_point := ok_times_point Z D h_added_points n
    exact fn_has D sc_times_point [] (g_times_point (F_times_point n)) fun cdv A outer s H E fA hr =>
    (ds_cons (ds_if (dt_cmp lt_d (de_var 2) de_int) (ds_one (ds_ret (de_fr (de_call h_times_point hr (by first | omega | decide) (by rfl) (da_cons (de_fr (de_var 0)) (da_cons (de_fr (de_var 1)) (da_cons (de_neg (de_var 2)) (da_cons (de_fr (de_ifExp (dt_cmp is_x (de_var 3) de_non) de_non (de_tup (da_cons (de_fr (de_ix (ixA_d (u2 hr)) (de_var 3) de_int)) (da_cons (de_fr (de_bin mod_d (de_neg (de_ix (ixA_d (u2 hr)) (de_var 3) de_int)) (de_var 0))) da_nil))))) da_nil)))) (aLen_cons (aLen_cons (aLen_cons (aLen_cons aLen_nil)))))))) ds_nil)
    (ds_cons (ds_set (i := 4) sc_times_point.nd rfl (by first | exact .inl rfl | exact .inr rfl) (by decide) de_non)
    (ds_cons (ds_while 1048576 PassesOwn.never (dt_cmp gt_d (de_var 2) de_int) (ds_cons (ds_if (dt_cmp (eq_d (u65 hr)) (de_bin mod_d (de_var 2) de_int) de_int) (ds_one (ds_set (i := 4) sc_times_point.nd rfl (by first | exact .inl rfl | exact .inr rfl) (by decide) (de_pk (de_call h_added_points hr (by first | omega | decide) (by rfl) (da_cons (de_fr (de_var 0)) (da_cons (de_fr (de_var 1)) (da_cons (de_fr (de_var 4)) (da_cons (de_fr (de_var 3)) da_nil)))) (aLen_cons (aLen_cons (aLen_cons (aLen_cons aLen_nil)))))))) ds_nil)
    (ds_cons (ds_set (i := 3) sc_times_point.nd rfl (by first | exact .inl rfl | exact .inr rfl) (by decide) (de_pk (de_call h_added_points hr (by first | omega | decide) (by rfl) (da_cons (de_fr (de_var 0)) (da_cons (de_fr (de_var 1)) (da_cons (de_fr (de_var 3)) (da_cons (de_fr (de_var 3)) da_nil)))) (aLen_cons (aLen_cons (aLen_cons (aLen_cons aLen_nil)))))))
    (ds_one (ds_set (i := 2) sc_times_point.nd rfl (by first | exact .inl rfl | exact .inr rfl) (by decide) (de_bin div_d (de_var 2) de_int))))))
    (ds_one (ds_ret (de_fr (de_var 4)))))))
theorem ok__law_points_right (Z : Zs mg) (D : Dn K mg "_law_points_right" s__law_points_right ["w", "p", "curve"]) (h__law_added : Has P w K mg base 2 "_law_added" ["p", "curve", "u", "v"] F__law_added) (h__law_multiples : Has P w K mg base 3 "_law_multiples" ["p", "curve", "u"] F__law_multiples) (h__law_next : Has P w K mg base 1 "_law_next" ["w", "many"] F__law_next) (h__law_pick : Has P w K mg base 2 "_law_pick" ["w", "rows"] F__law_pick) (h__law_plain : Has P w K mg base 5 "_law_plain" ["thing"] (F__law_plain 4)) (h__law_points : Has P w K mg base 1 "_law_points" ["p", "curve"] F__law_points) (h_added_points : Has P w K mg base 2 "added_points" ["p", "curve", "u", "v"] F_added_points) (h_group_of_curve : Has P w K mg base 4 "group_of_curve" ["p", "curve"] F_group_of_curve) (h_order_of_point : Has P w K mg base 3 "order_of_point" ["p", "curve", "u"] F_order_of_point) (h_points_of : Has P w K mg base 1 "points_of" ["p", "curve"] F_points_of) (h_times_point : Has P w K mg base 5 "times_point" ["p", "curve", "k", "u"] (F_times_point 2)) : Has P w K mg base 6 "_law_points_right" ["w", "p", "curve"] F__law_points_right :=
  fn_has D sc__law_points_right [0] g__law_points_right fun cdv A outer s H E fA hr =>
    (ds_cons (ds_set (i := 3) sc__law_points_right.nd rfl (by first | exact .inl rfl | exact .inr rfl) (by decide) (de_pk (de_call h__law_points hr (by first | omega | decide) (by rfl) (da_cons (de_fr (de_var 1)) (da_cons (de_fr (de_var 2)) da_nil)) (aLen_cons (aLen_cons aLen_nil)))))
    (ds_cons (ds_set (i := 4) sc__law_points_right.nd rfl (by first | exact .inl rfl | exact .inr rfl) (by decide) (de_pk (de_call h_points_of hr (by first | omega | decide) (by rfl) (da_cons (de_fr (de_var 1)) (da_cons (de_fr (de_var 2)) da_nil)) (aLen_cons (aLen_cons aLen_nil)))))
    (ds_cons (ds_if (PW.pt (dw_or (dt_not (dt_truth (de_call h__law_plain hr (by first | omega | decide) (by rfl) (da_cons (de_fr (de_var 4)) da_nil) (aLen_cons aLen_nil)))) (dw_or1 (dt_cmp (ne_d (u65 hr)) (de_var 4) (de_bin add_d (de_tup (da_cons de_non da_nil)) (de_callTy tuple_d (by rfl) Z.tuple (by rfl) (da_cons (de_var 3) da_nil))))))) (ds_one (ds_ret de_bl)) ds_nil)
    (ds_cons (ds_set (i := 5) sc__law_points_right.nd rfl (by first | exact .inl rfl | exact .inr rfl) (by decide) (de_lst da_nil))
    (ds_cons (ds_for PassesOwn.never rfl (di_seq (de_var 3)) (dg_name (i := 6) sc__law_points_right.nd rfl (by first | exact .inl rfl | exact .inr rfl) (by decide)) (ds_one (ds_expr (de_app (de_var 5) (da_cons (de_fr (de_callB len_d (by rfl) Z.len (by rfl) (da_cons (de_call h__law_multiples hr (by first | omega | decide) (by rfl) (da_cons (de_fr (de_var 1)) (da_cons (de_fr (de_var 2)) (da_cons (de_fr (de_var 6)) da_nil))) (aLen_cons (aLen_cons (aLen_cons aLen_nil)))) da_nil))) da_nil)))))
    (ds_cons (ds_par (i := 7) (j := 8) rfl sc__law_points_right.nd rfl rfl (by decide) (by decide) (by decide) rfl rfl (da_cons (de_fr (de_bin add_d (de_callB len_d (by rfl) Z.len (by rfl) (da_cons (de_var 3) da_nil)) de_int)) (da_cons (de_fr (de_callB (max_d rfl hr.hd (u201 hr)) (by rfl) Z.max (by rfl) (da_cons (de_bin add_d (de_lst (da_cons de_int da_nil)) (de_var 5)) da_nil))) da_nil)) (by rfl))
    (ds_cons (ds_set (i := 9) sc__law_points_right.nd rfl (by first | exact .inl rfl | exact .inr rfl) (by decide) (de_pk (de_cp (de_ifExp (dt_cmp (eq_d (u65 hr)) (de_var 7) de_int) (de_tup da_nil) (de_fr (de_ifExp (dt_cmp (eq_d (u65 hr)) (de_var 7) (de_var 8)) (de_tup (da_cons (de_fr (de_var 7)) da_nil)) (de_tup (da_cons (de_fr (de_bin div_d (de_var 7) (de_var 8))) (da_cons (de_fr (de_var 8)) da_nil)))))))))
    (ds_cons (ds_set (i := 4) sc__law_points_right.nd rfl (by first | exact .inl rfl | exact .inr rfl) (by decide) (de_pk (de_call h_group_of_curve hr (by first | omega | decide) (by rfl) (da_cons (de_fr (de_var 1)) (da_cons (de_fr (de_var 2)) da_nil)) (aLen_cons (aLen_cons aLen_nil)))))
    (ds_cons (ds_if (PW.pt (dw_or (dt_not (dt_truth (de_call h__law_plain hr (by first | omega | decide) (by rfl) (da_cons (de_fr (de_var 4)) da_nil) (aLen_cons aLen_nil)))) (dw_or1 (dt_cmp (ne_d (u65 hr)) (de_var 4) (de_var 9))))) (ds_one (ds_ret de_bl)) ds_nil)
    (ds_cons (ds_for PassesOwn.never rfl (di_range1 (by rfl) Z.range (da_cons de_int da_nil)) (dg_name (i := 10) sc__law_points_right.nd rfl (by first | exact .inl rfl | exact .inr rfl) (by decide)) (ds_cons (ds_set (i := 6) sc__law_points_right.nd rfl (by first | exact .inl rfl | exact .inr rfl) (by decide) (de_pk (de_cp (de_ifExp (dt_cmp (ne_d (u65 hr)) (de_var 3) (de_lst da_nil)) (de_fr (de_call h__law_pick hr (by first | omega | decide) (by rfl) (da_cons (de_var 0) (da_cons (de_fr (de_bin add_d (de_lst (da_cons de_non da_nil)) (de_var 3))) da_nil)) (aLen_cons (aLen_cons aLen_nil)))) de_non))))
    (ds_cons (ds_set (i := 11) sc__law_points_right.nd rfl (by first | exact .inl rfl | exact .inr rfl) (by decide) (de_pk (de_call h__law_pick hr (by first | omega | decide) (by rfl) (da_cons (de_var 0) (da_cons (de_fr (de_bin add_d (de_bin add_d (de_lst (da_cons de_non (da_cons (de_fr (de_var 6)) (da_cons (de_fr (de_ifExp (dt_cmp is_x (de_var 6) de_non) (de_fr (de_var 6)) (de_tup (da_cons (de_fr (de_ix (ixA_d (u2 hr)) (de_var 6) de_int)) (da_cons (de_fr (de_bin mod_d (de_callTy int_d (by rfl) Z.int (by rfl) (da_cons (de_bin sub_d de_int (de_ix (ixA_d (u2 hr)) (de_var 6) de_int)) da_nil)) (de_var 1))) da_nil))))) da_nil)))) (de_var 3)) (de_var 3))) da_nil)) (aLen_cons (aLen_cons aLen_nil)))))
    (ds_cons (ds_set (i := 4) sc__law_points_right.nd rfl (by first | exact .inl rfl | exact .inr rfl) (by decide) (de_pk (de_call h_added_points hr (by first | omega | decide) (by rfl) (da_cons (de_fr (de_var 1)) (da_cons (de_fr (de_var 2)) (da_cons (de_fr (de_var 6)) (da_cons (de_fr (de_var 11)) da_nil)))) (aLen_cons (aLen_cons (aLen_cons (aLen_cons aLen_nil)))))))
    (ds_cons (ds_if (PW.pt (dw_or (dt_not (dt_truth (de_call h__law_plain hr (by first | omega | decide) (by rfl) (da_cons (de_fr (de_var 4)) da_nil) (aLen_cons aLen_nil)))) (dw_or1 (dt_cmp (ne_d (u65 hr)) (de_var 4) (de_call h__law_added hr (by first | omega | decide) (by rfl) (da_cons (de_fr (de_var 1)) (da_cons (de_fr (de_var 2)) (da_cons (de_fr (de_var 6)) (da_cons (de_fr (de_var 11)) da_nil)))) (aLen_cons (aLen_cons (aLen_cons (aLen_cons aLen_nil))))))))) (ds_one (ds_ret de_bl)) ds_nil)
    (ds_cons (ds_set (i := 12) sc__law_points_right.nd rfl (by first | exact .inl rfl | exact .inr rfl) (by decide) (de_pk (de_cp (de_ifExp (dt_cmp isnot_x (de_var 6) de_non) (de_fr (de_call h__law_multiples hr (by first | omega | decide) (by rfl) (da_cons (de_fr (de_var 1)) (da_cons (de_fr (de_var 2)) (da_cons (de_fr (de_var 6)) da_nil))) (aLen_cons (aLen_cons (aLen_cons aLen_nil))))) (de_fr (de_lst (da_cons de_non da_nil)))))))
    (ds_cons (ds_set (i := 4) sc__law_points_right.nd rfl (by first | exact .inl rfl | exact .inr rfl) (by decide) (de_pk (de_call h_order_of_point hr (by first | omega | decide) (by rfl) (da_cons (de_fr (de_var 1)) (da_cons (de_fr (de_var 2)) (da_cons (de_fr (de_var 6)) da_nil))) (aLen_cons (aLen_cons (aLen_cons aLen_nil))))))
    (ds_cons (ds_if (PW.pt (dw_or (dt_not (dt_truth (de_call h__law_plain hr (by first | omega | decide) (by rfl) (da_cons (de_fr (de_var 4)) da_nil) (aLen_cons aLen_nil)))) (dw_or1 (dt_cmp (ne_d (u65 hr)) (de_var 4) (de_callB len_d (by rfl) Z.len (by rfl) (da_cons (de_var 12) da_nil)))))) (ds_one (ds_ret de_bl)) ds_nil)
    (ds_one (ds_for PassesOwn.never rfl (di_seq (de_tup (da_cons (de_fr (de_bin sub_d (de_call h__law_next hr (by first | omega | decide) (by rfl) (da_cons (de_var 0) (da_cons de_int da_nil)) (aLen_cons (aLen_cons aLen_nil))) de_int)) (da_cons de_int (da_cons (de_neg de_int) (da_cons de_int da_nil)))))) (dg_name (i := 13) sc__law_points_right.nd rfl (by first | exact .inl rfl | exact .inr rfl) (by decide)) (ds_cons (ds_set (i := 4) sc__law_points_right.nd rfl (by first | exact .inl rfl | exact .inr rfl) (by decide) (de_pk (de_call h_times_point hr (by first | omega | decide) (by rfl) (da_cons (de_fr (de_var 1)) (da_cons (de_fr (de_var 2)) (da_cons (de_fr (de_var 13)) (da_cons (de_fr (de_var 6)) da_nil)))) (aLen_cons (aLen_cons (aLen_cons (aLen_cons aLen_nil)))))))
    (ds_one (ds_if (PW.pt (dw_or (dt_not (dt_truth (de_call h__law_plain hr (by first | omega | decide) (by rfl) (da_cons (de_fr (de_var 4)) da_nil) (aLen_cons aLen_nil)))) (dw_or1 (dt_cmp (ne_d (u65 hr)) (de_var 4) (de_ix (ixA_d (u2 hr)) (de_var 12) (de_bin mod_d (de_callTy int_d (by rfl) Z.int (by rfl) (da_cons (de_var 13) da_nil)) (de_callB len_d (by rfl) Z.len (by rfl) (da_cons (de_var 12) da_nil)))))))) (ds_one (ds_ret de_bl)) ds_nil)))))))))))))
    (ds_one (ds_ret de_bl))))))))))))
theorem ok__law_turned (Z : Zs mg) (D : Dn K mg "_law_turned" s__law_turned ["p", "curve", "u"]) : Has P w K mg base 1 "_law_turned" ["p", "curve", "u"] F__law_turned :=
  fn_has D sc__law_turned [] g__law_turned fun cdv A outer s H E fA hr =>
    (ds_one (ds_ret (de_tup (da_cons (de_fr (de_bin mod_d (de_callTy int_d (by rfl) Z.int (by rfl) (da_cons (de_bin mul_d (de_bin mul_d (de_bin mul_d (de_bin mul_d (de_ix (ixA_d (u2 hr)) (de_var 1) de_int) (de_var 2)) (de_var 2)) (de_var 2)) (de_var 2)) da_nil)) (de_var 0))) (da_cons (de_fr (de_bin mod_d (de_callTy int_d (by rfl) Z.int (by rfl) (da_cons (de_bin mul_d (de_bin mul_d (de_bin mul_d (de_bin mul_d (de_bin mul_d (de_bin mul_d (de_ix (ixA_d (u2 hr)) (de_var 1) de_int) (de_var 2)) (de_var 2)) (de_var 2)) (de_var 2)) (de_var 2)) (de_var 2)) da_nil)) (de_var 0))) da_nil)))))
theorem ok_curve_form (Z : Zs mg) (D : Dn K mg "curve_form" s_curve_form ["p", "curve"]) (h__turned : Has P w K mg base 1 "_turned" ["p", "curve", "u"] F__turned) : Has P w K mg base 2 "curve_form" ["p", "curve"] F_curve_form :=
  fn_has D sc_curve_form [] g_curve_form fun cdv A outer s H E fA hr =>
    (ds_one (ds_ret (de_fr (de_callB (min_d rfl hr.hd (u201 hr)) (by rfl) Z.min (by rfl) (da_cons (de_lc (own := [(("u" : Str), 2)]) rfl sc_curve_form.nd (di_range2 (by rfl) Z.range (da_cons de_int (da_cons (de_var 0) da_nil))) (blkOk_by (by rfl)) (fun _ _ _ _ _ => (dg_name (i := 2) sc_curve_form.nd rfl (by first | exact .inl rfl | exact .inr rfl) (by decide))) (fun _ _ _ _ _ => dp_nil) (fun _ _ _ _ _ => (de_tup (da_cons (de_fr (de_call h__turned hr (by first | omega | decide) (by rfl) (da_cons (de_fr (de_var 0)) (da_cons (de_fr (de_var 1)) (da_cons (de_fr (de_var 2)) da_nil))) (aLen_cons (aLen_cons (aLen_cons aLen_nil))))) (da_cons (de_fr (de_var 2)) da_nil))))) da_nil)))))
theorem ok__law_forms (Z : Zs mg) (D : Dn K mg "_law_forms" s__law_forms ["p"]) (h__law_is_curve : Has P w K mg base 1 "_law_is_curve" ["p", "curve"] F__law_is_curve) (h__law_turned : Has P w K mg base 1 "_law_turned" ["p", "curve", "u"] F__law_turned) : Has P w K mg base 2 "_law_forms" ["p"] F__law_forms :=
  fn_has D sc__law_forms [] g__law_forms fun cdv A outer s H E fA hr =>
    (ds_cons (ds_par (i := 1) (j := 2) rfl sc__law_forms.nd rfl rfl (by decide) (by decide) (by decide) rfl rfl (da_cons (de_lst da_nil) (da_cons de_dnewN da_nil)) (by rfl))
    (ds_cons (ds_for PassesOwn.never rfl (di_range1 (by rfl) Z.range (da_cons (de_var 0) da_nil)) (dg_name (i := 3) sc__law_forms.nd rfl (by first | exact .inl rfl | exact .inr rfl) (by decide)) (ds_one (ds_for PassesOwn.never rfl (di_range1 (by rfl) Z.range (da_cons (de_var 0) da_nil)) (dg_name (i := 4) sc__law_forms.nd rfl (by first | exact .inl rfl | exact .inr rfl) (by decide)) (ds_one (ds_if (PW.pt (dw_and (dt_truth (de_call h__law_is_curve hr (by first | omega | decide) (by rfl) (da_cons (de_fr (de_var 0)) (da_cons (de_tup (da_cons (de_fr (de_var 3)) (da_cons (de_fr (de_var 4)) da_nil))) da_nil)) (aLen_cons (aLen_cons aLen_nil)))) (dw_and1 (dt_cmp (ninA_d (u66 hr)) (de_tup (da_cons (de_fr (de_var 3)) (da_cons (de_fr (de_var 4)) da_nil))) (de_var 2))))) (ds_cons (ds_expr (de_app (de_var 1) (da_cons (de_tup (da_cons (de_fr (de_var 3)) (da_cons (de_fr (de_var 4)) da_nil))) da_nil)))
    (ds_one (ds_for PassesOwn.never rfl (di_range2 (by rfl) Z.range (da_cons de_int (da_cons (de_var 0) da_nil))) (dg_name (i := 5) sc__law_forms.nd rfl (by first | exact .inl rfl | exact .inr rfl) (by decide)) (ds_one (ds_asg de_bl (dg_sub (u201 hr) (de_var 2) (de_call h__law_turned hr (by first | omega | decide) (by rfl) (da_cons (de_fr (de_var 0)) (da_cons (de_tup (da_cons (de_fr (de_var 3)) (da_cons (de_fr (de_var 4)) da_nil))) (da_cons (de_fr (de_var 5)) da_nil))) (aLen_cons (aLen_cons (aLen_cons aLen_nil)))))))))) ds_nil)))))
    (ds_one (ds_ret (de_tup (da_cons (de_fr (de_var 1)) (da_cons (de_fr (de_callB lenA_d (by rfl) Z.len (by rfl) (da_cons (de_var 2) da_nil))) da_nil)))))))
theorem ok_all_curves (Z : Zs mg) (D : Dn K mg "all_curves" s_all_curves ["p"]) (h_curve_form : Has P w K mg base 2 "curve_form" ["p", "curve"] F_curve_form) : Has P w K mg base 3 "all_curves" ["p"] F_all_curves :=
  fn_has D sc_all_curves [] g_all_curves fun cdv A outer s H E fA hr =>
    (ds_cons (ds_setLc2P (i := 1) (own := [(("a" : Str), 2), (("b" : Str), 3)]) (vs1 := [3]) rfl sc_all_curves.nd rfl rfl (by decide) (by rfl) (di_range1 (by rfl) Z.range (da_cons (de_var 0) da_nil)) (blkOk_by (by rfl)) (fun _ _ _ _ _ => (dg_name (i := 2) sc_all_curves.nd rfl (by first | exact .inl rfl | exact .inr rfl) (by decide))) (fun _ _ _ _ _ => dp_nil) (fun _ _ _ _ _ => (di_range1 (by rfl) Z.range (da_cons (de_var 0) da_nil))) (fun _ _ _ _ _ => (dg_name (i := 3) sc_all_curves.nd rfl (by first | exact .inl rfl | exact .inr rfl) (by decide))) (fun _ _ _ _ _ => (dp_one (dt_cmp (ne_d (u65 hr)) (de_bin mod_d (de_bin add_d (de_bin mul_d (de_bin mul_d (de_bin mul_d de_int (de_var 2)) (de_var 2)) (de_var 2)) (de_bin mul_d (de_bin mul_d de_int (de_var 3)) (de_var 3))) (de_var 0)) de_int))) (fun _ _ _ _ _ => (de_tup (da_cons (de_fr (de_var 2)) (da_cons (de_fr (de_var 3)) da_nil)))))
    (ds_one (ds_ret (de_fr (de_callTy tuple_d (by rfl) Z.tuple (by rfl) (da_cons (de_lc (own := [(("curve" : Str), 4)]) rfl sc_all_curves.nd (di_seq (de_var 1)) (blkOk_by (by rfl)) (fun _ _ _ _ _ => (dg_name (i := 4) sc_all_curves.nd rfl (by first | exact .inl rfl | exact .inr rfl) (by decide))) (fun _ _ _ _ _ => (dp_one (dt_cmp (eq_d (u65 hr)) (de_ix (ixA_d (u2 hr)) (de_call h_curve_form hr (by first | omega | decide) (by rfl) (da_cons (de_fr (de_var 0)) (da_cons (de_fr (de_var 4)) da_nil)) (aLen_cons (aLen_cons aLen_nil))) de_int) (de_var 4)))) (fun _ _ _ _ _ => (de_var 4))) da_nil))))))
theorem ok_law (Z : Zs mg) {fL : Addr} {fdL : FuncData} (D : FunD K "law" "law" (defArgs s_law) (defBody s_law) (defScope s_law) [] [] fL fdL) (h__law_draws : Has P w K mg base 1 "_law_draws" ["script", "many"] F__law_draws) (h__law_forms : Has P w K mg base 2 "_law_forms" ["p"] F__law_forms) (h__law_is_curve : Has P w K mg base 1 "_law_is_curve" ["p", "curve"] F__law_is_curve) (h__law_next : Has P w K mg base 1 "_law_next" ["w", "many"] F__law_next) (h__law_over : Has P w K mg base 1 "_law_over" ["p", "a", "b"] F__law_over) (h__law_pick : Has P w K mg base 2 "_law_pick" ["w", "rows"] F__law_pick) (h__law_plain : Has P w K mg base 5 "_law_plain" ["thing"] (F__law_plain 4)) (h__law_points_right : Has P w K mg base 6 "_law_points_right" ["w", "p", "curve"] F__law_points_right) (h__law_turned : Has P w K mg base 1 "_law_turned" ["p", "curve", "u"] F__law_turned) (h_all_curves : Has P w K mg base 3 "all_curves" ["p"] F_all_curves) (h_curve_form : Has P w K mg base 2 "curve_form" ["p", "curve"] F_curve_form) (h_curve_keepers : Has P w K mg base 2 "curve_keepers" ["p", "curve"] F_curve_keepers) (h_shape_number : Has P w K mg base 2 "shape_number" ["p", "curve"] F_shape_number) : FnOk P w K mg base CX0 7 fL fdL ["script"] (spD K 1 F_law) :=
  fn_d (fun_ofD D) sc_law [] g_law (by decide) fun cdv A outer s H E hr =>
    (ds_cons (ds_set (i := 1) sc_law.nd rfl (by first | exact .inl rfl | exact .inr rfl) (by decide) (de_disp (.cons pe_str (de_call h__law_draws hr (by first | omega | decide) (by rfl) (da_cons (de_fr (de_var 0)) (da_cons de_int da_nil)) (aLen_cons (aLen_cons aLen_nil))) (.cons pe_str de_int .nil))))
    (ds_cons (ds_set (i := 2) sc_law.nd rfl (by first | exact .inl rfl | exact .inr rfl) (by decide) (de_pk (de_call h__law_pick hr (by first | omega | decide) (by rfl) (da_cons (de_var 1) (da_cons (de_fr (de_lst (da_cons de_int (da_cons de_int (da_cons de_int (da_cons de_int (da_cons de_int (da_cons de_int da_nil)))))))) da_nil)) (aLen_cons (aLen_cons aLen_nil)))))
    (ds_cons (ds_set (i := 3) sc_law.nd rfl (by first | exact .inl rfl | exact .inr rfl) (by decide) (de_tup (da_cons (de_fr (de_call h__law_next hr (by first | omega | decide) (by rfl) (da_cons (de_var 1) (da_cons (de_fr (de_var 2)) da_nil)) (aLen_cons (aLen_cons aLen_nil)))) (da_cons (de_fr (de_call h__law_next hr (by first | omega | decide) (by rfl) (da_cons (de_var 1) (da_cons (de_fr (de_var 2)) da_nil)) (aLen_cons (aLen_cons aLen_nil)))) da_nil))))
    (ds_cons (ds_for PassesOwn.never rfl (di_range1 (by rfl) Z.range (da_cons de_int da_nil)) (dg_name (i := 4) sc_law.nd rfl (by first | exact .inl rfl | exact .inr rfl) (by decide)) (ds_one (ds_if (dt_not (dt_truth (de_call h__law_is_curve hr (by first | omega | decide) (by rfl) (da_cons (de_fr (de_var 2)) (da_cons (de_fr (de_var 3)) da_nil)) (aLen_cons (aLen_cons aLen_nil))))) (ds_one (ds_set (i := 3) sc_law.nd rfl (by first | exact .inl rfl | exact .inr rfl) (by decide) (de_tup (da_cons (de_fr (de_call h__law_next hr (by first | omega | decide) (by rfl) (da_cons (de_var 1) (da_cons (de_fr (de_var 2)) da_nil)) (aLen_cons (aLen_cons aLen_nil)))) (da_cons (de_fr (de_bin add_d de_int (de_call h__law_next hr (by first | omega | decide) (by rfl) (da_cons (de_var 1) (da_cons (de_fr (de_bin sub_d (de_var 2) de_int)) da_nil)) (aLen_cons (aLen_cons aLen_nil))))) da_nil))))) ds_nil)))
    (ds_cons (ds_if (dt_not (dt_truth (de_call h__law_is_curve hr (by first | omega | decide) (by rfl) (da_cons (de_fr (de_var 2)) (da_cons (de_fr (de_var 3)) da_nil)) (aLen_cons (aLen_cons aLen_nil))))) (ds_one (ds_set (i := 3) sc_law.nd rfl (by first | exact .inl rfl | exact .inr rfl) (by decide) (de_tup (da_cons de_int (da_cons de_int da_nil))))) ds_nil)
    (ds_cons (ds_if (dt_not (dt_truth (de_call h__law_points_right hr (by first | omega | decide) (by rfl) (da_cons (de_var 1) (da_cons (de_fr (de_var 2)) (da_cons (de_fr (de_var 3)) da_nil))) (aLen_cons (aLen_cons (aLen_cons aLen_nil)))))) (ds_one (ds_ret de_bl)) ds_nil)
    (ds_cons (ds_setLcP (i := 5) (own := [(("u" : Str), 14)]) rfl sc_law.nd rfl rfl (by decide) (by rfl) (di_range2 (by rfl) Z.range (da_cons de_int (da_cons (de_var 2) da_nil))) (blkOk_by (by rfl)) (fun _ _ _ _ _ => (dg_name (i := 14) sc_law.nd rfl (by first | exact .inl rfl | exact .inr rfl) (by decide))) (fun _ _ _ _ _ => dp_nil) (fun _ _ _ _ _ => (de_call h__law_turned hr (by first | omega | decide) (by rfl) (da_cons (de_fr (de_var 2)) (da_cons (de_fr (de_var 3)) (da_cons (de_fr (de_var 14)) da_nil))) (aLen_cons (aLen_cons (aLen_cons aLen_nil))))))
    (ds_cons (ds_set (i := 6) sc_law.nd rfl (by first | exact .inl rfl | exact .inr rfl) (by decide) (de_pk (de_callB (min_d rfl hr.hd (u201 hr)) (by rfl) Z.min (by rfl) (da_cons (de_var 5) da_nil))))
    (ds_cons (ds_set (i := 7) sc_law.nd rfl (by first | exact .inl rfl | exact .inr rfl) (by decide) (de_pk (de_call h__law_pick hr (by first | omega | decide) (by rfl) (da_cons (de_var 1) (da_cons (de_fr (de_var 5)) da_nil)) (aLen_cons (aLen_cons aLen_nil)))))
    (ds_cons (ds_for PassesOwn.never rfl (di_seq (de_tup (da_cons (de_fr (de_var 3)) (da_cons (de_fr (de_var 7)) da_nil)))) (dg_name (i := 8) sc_law.nd rfl (by first | exact .inl rfl | exact .inr rfl) (by decide)) (ds_cons (ds_set (i := 9) sc_law.nd rfl (by first | exact .inl rfl | exact .inr rfl) (by decide) (de_pk (de_call h_curve_form hr (by first | omega | decide) (by rfl) (da_cons (de_fr (de_var 2)) (da_cons (de_fr (de_var 8)) da_nil)) (aLen_cons (aLen_cons aLen_nil)))))
    (ds_one (ds_if (PW.pt (dw_or (dt_not (dt_truth (de_call h__law_plain hr (by first | omega | decide) (by rfl) (da_cons (de_fr (de_var 9)) da_nil) (aLen_cons aLen_nil)))) (dw_or1 (dt_cmp (ne_d (u65 hr)) (de_var 9) (de_tup (da_cons (de_fr (de_var 6)) (da_cons (de_fr (de_ix (ixA_d (u2 hr)) (de_lc (own := [(("u" : Str), 14)]) rfl sc_law.nd (di_range2 (by rfl) Z.range (da_cons de_int (da_cons (de_var 2) da_nil))) (blkOk_by (by rfl)) (fun _ _ _ _ _ => (dg_name (i := 14) sc_law.nd rfl (by first | exact .inl rfl | exact .inr rfl) (by decide))) (fun _ _ _ _ _ => (dp_one (dt_cmp (eq_d (u65 hr)) (de_call h__law_turned hr (by first | omega | decide) (by rfl) (da_cons (de_fr (de_var 2)) (da_cons (de_fr (de_var 8)) (da_cons (de_fr (de_var 14)) da_nil))) (aLen_cons (aLen_cons (aLen_cons aLen_nil)))) (de_var 6)))) (fun _ _ _ _ _ => (de_var 14))) de_int)) da_nil))))))) (ds_one (ds_ret de_bl)) ds_nil))))
    (ds_cons (ds_set (i := 9) sc_law.nd rfl (by first | exact .inl rfl | exact .inr rfl) (by decide) (de_pk (de_call h_curve_keepers hr (by first | omega | decide) (by rfl) (da_cons (de_fr (de_var 2)) (da_cons (de_fr (de_var 3)) da_nil)) (aLen_cons (aLen_cons aLen_nil)))))
    (ds_cons (ds_if (PW.pt (dw_or (dt_not (dt_truth (de_call h__law_plain hr (by first | omega | decide) (by rfl) (da_cons (de_fr (de_var 9)) da_nil) (aLen_cons aLen_nil)))) (dw_or1 (dt_cmp (ne_d (u65 hr)) (de_var 9) (de_callTy tuple_d (by rfl) Z.tuple (by rfl) (da_cons (de_lc (own := [(("u" : Str), 14)]) rfl sc_law.nd (di_range2 (by rfl) Z.range (da_cons de_int (da_cons (de_var 2) da_nil))) (blkOk_by (by rfl)) (fun _ _ _ _ _ => (dg_name (i := 14) sc_law.nd rfl (by first | exact .inl rfl | exact .inr rfl) (by decide))) (fun _ _ _ _ _ => (dp_one (dt_cmp (eq_d (u65 hr)) (de_call h__law_turned hr (by first | omega | decide) (by rfl) (da_cons (de_fr (de_var 2)) (da_cons (de_fr (de_var 3)) (da_cons (de_fr (de_var 14)) da_nil))) (aLen_cons (aLen_cons (aLen_cons aLen_nil)))) (de_var 3)))) (fun _ _ _ _ _ => (de_var 14))) da_nil)))))) (ds_one (ds_ret de_bl)) ds_nil)
    (ds_cons (ds_asg (de_var 3) (dg_tup rfl (dgs_cons (dg_name (i := 10) sc_law.nd rfl (by first | exact .inl rfl | exact .inr rfl) (by decide)) (dgs_cons (dg_name (i := 11) sc_law.nd rfl (by first | exact .inl rfl | exact .inr rfl) (by decide)) dgs_nil))))
    (ds_cons (ds_set (i := 9) sc_law.nd rfl (by first | exact .inl rfl | exact .inr rfl) (by decide) (de_pk (de_call h_shape_number hr (by first | omega | decide) (by rfl) (da_cons (de_fr (de_var 2)) (da_cons (de_fr (de_var 3)) da_nil)) (aLen_cons (aLen_cons aLen_nil)))))
    (ds_cons (ds_if (PW.pt (dw_or (dt_not (dt_truth (de_call h__law_plain hr (by first | omega | decide) (by rfl) (da_cons (de_fr (de_var 9)) da_nil) (aLen_cons aLen_nil)))) (dw_or (dt_cmp (ne_d (u65 hr)) (de_var 9) (de_call h__law_over hr (by first | omega | decide) (by rfl) (da_cons (de_fr (de_var 2)) (da_cons (de_fr (de_bin mul_d (de_bin mul_d (de_bin mul_d de_int (de_var 10)) (de_var 10)) (de_var 10))) (da_cons (de_fr (de_bin add_d (de_bin mul_d (de_bin mul_d (de_bin mul_d de_int (de_var 10)) (de_var 10)) (de_var 10)) (de_bin mul_d (de_bin mul_d de_int (de_var 11)) (de_var 11)))) da_nil))) (aLen_cons (aLen_cons (aLen_cons aLen_nil))))) (dw_or1 (dt_cmp (ne_d (u65 hr)) (de_call h_shape_number hr (by first | omega | decide) (by rfl) (da_cons (de_fr (de_var 2)) (da_cons (de_fr (de_var 7)) da_nil)) (aLen_cons (aLen_cons aLen_nil))) (de_var 9)))))) (ds_one (ds_ret de_bl)) ds_nil)
    (ds_cons (ds_if (dt_cmp lt_d (de_var 2) de_int) (ds_cons (ds_asg (de_call h__law_forms hr (by first | omega | decide) (by rfl) (da_cons (de_fr (de_var 2)) da_nil) (aLen_cons aLen_nil)) (dg_tup rfl (dgs_cons (dg_name (i := 12) sc_law.nd rfl (by first | exact .inl rfl | exact .inr rfl) (by decide)) (dgs_cons (dg_name (i := 13) sc_law.nd rfl (by first | exact .inl rfl | exact .inr rfl) (by decide)) dgs_nil))))
    (ds_cons (ds_set (i := 9) sc_law.nd rfl (by first | exact .inl rfl | exact .inr rfl) (by decide) (de_pk (de_call h_all_curves hr (by first | omega | decide) (by rfl) (da_cons (de_fr (de_var 2)) da_nil) (aLen_cons aLen_nil))))
    (ds_cons (ds_if (PW.pt (dw_or (dt_not (dt_truth (de_call h__law_plain hr (by first | omega | decide) (by rfl) (da_cons (de_fr (de_var 9)) da_nil) (aLen_cons aLen_nil)))) (dw_or (dt_cmp (ne_d (u65 hr)) (de_callTy list_d (by rfl) Z.list (by rfl) (da_cons (de_var 9) da_nil)) (de_var 12)) (dw_or1 (dt_cmp (ne_d (u65 hr)) (de_var 13) (de_bin sub_d (de_bin mul_d (de_var 2) (de_var 2)) (de_var 2))))))) (ds_one (ds_ret de_bl)) ds_nil)
    (ds_one (ds_if (dt_cmp (ne_d (u65 hr)) (de_callB (sum_d rfl hr.hd) (by rfl) Z.sum (by rfl) (da_cons (de_lc (own := [(("form" : Str), 15)]) rfl sc_law.nd (di_seq (de_var 9)) (blkOk_by (by rfl)) (fun _ _ _ _ _ => (dg_name (i := 15) sc_law.nd rfl (by first | exact .inl rfl | exact .inr rfl) (by decide))) (fun _ _ _ _ _ => dp_nil) (fun _ _ _ _ _ => (de_bin div_d (de_bin sub_d (de_var 2) de_int) (de_callB len_d (by rfl) Z.len (by rfl) (da_cons (de_call h_curve_keepers hr (by first | omega | decide) (by rfl) (da_cons (de_fr (de_var 2)) (da_cons (de_fr (de_var 15)) da_nil)) (aLen_cons (aLen_cons aLen_nil))) da_nil))))) da_nil)) (de_bin sub_d (de_bin mul_d (de_var 2) (de_var 2)) (de_var 2))) (ds_one (ds_ret de_bl)) ds_nil))))) ds_nil)
    (ds_one (ds_ret de_bl))))))))))))))))))
end
/-! the head -/
def d__law_next : He.DefD := ⟨("_law_next", none), "_law_next", "_law_next", defArgs s__law_next, defBody s__law_next, defScope s__law_next, [], []⟩
def d__law_pick : He.DefD := ⟨("_law_pick", none), "_law_pick", "_law_pick", defArgs s__law_pick, defBody s__law_pick, defScope s__law_pick, [], []⟩
def d__turned : He.DefD := ⟨("_turned", none), "_turned", "_turned", defArgs s__turned, defBody s__turned, defScope s__turned, [], []⟩
def d_curve_keepers : He.DefD := ⟨("curve_keepers", none), "curve_keepers", "curve_keepers", defArgs s_curve_keepers, defBody s_curve_keepers, defScope s_curve_keepers, [], []⟩
def d_undone_number : He.DefD := ⟨("undone_number", none), "undone_number", "undone_number", defArgs s_undone_number, defBody s_undone_number, defScope s_undone_number, [], []⟩
def d_shape_number : He.DefD := ⟨("shape_number", none), "shape_number", "shape_number", defArgs s_shape_number, defBody s_shape_number, defScope s_shape_number, [], []⟩
def d__law_draws : He.DefD := ⟨("_law_draws", none), "_law_draws", "_law_draws", defArgs s__law_draws, defBody s__law_draws, defScope s__law_draws, [], []⟩
def d__law_is_curve : He.DefD := ⟨("_law_is_curve", none), "_law_is_curve", "_law_is_curve", defArgs s__law_is_curve, defBody s__law_is_curve, defScope s__law_is_curve, [], []⟩
def d__law_points : He.DefD := ⟨("_law_points", none), "_law_points", "_law_points", defArgs s__law_points, defBody s__law_points, defScope s__law_points, [], []⟩
def d_points_of : He.DefD := ⟨("points_of", none), "points_of", "points_of", defArgs s_points_of, defBody s_points_of, defScope s_points_of, [], []⟩
def d_added_points : He.DefD := ⟨("added_points", none), "added_points", "added_points", defArgs s_added_points, defBody s_added_points, defScope s_added_points, [], []⟩
def d_order_of_point : He.DefD := ⟨("order_of_point", none), "order_of_point", "order_of_point", defArgs s_order_of_point, defBody s_order_of_point, defScope s_order_of_point, [], []⟩
def d_group_of_curve : He.DefD := ⟨("group_of_curve", none), "group_of_curve", "group_of_curve", defArgs s_group_of_curve, defBody s_group_of_curve, defScope s_group_of_curve, [], []⟩
def d__law_plain : He.DefD := ⟨("_law_plain", none), "_law_plain", "_law_plain", defArgs s__law_plain, defBody s__law_plain, defScope s__law_plain, [], []⟩
def d__law_over : He.DefD := ⟨("_law_over", none), "_law_over", "_law_over", defArgs s__law_over, defBody s__law_over, defScope s__law_over, [], []⟩
def d__law_added : He.DefD := ⟨("_law_added", none), "_law_added", "_law_added", defArgs s__law_added, defBody s__law_added, defScope s__law_added, [], []⟩
def d__law_multiples : He.DefD := ⟨("_law_multiples", none), "_law_multiples", "_law_multiples", defArgs s__law_multiples, defBody s__law_multiples, defScope s__law_multiples, [], []⟩
def d_times_point : He.DefD := ⟨("times_point", none), "times_point", "times_point", defArgs s_times_point, defBody s_times_point, defScope s_times_point, [], []⟩
def d__law_points_right : He.DefD := ⟨("_law_points_right", none), "_law_points_right", "_law_points_right", defArgs s__law_points_right, defBody s__law_points_right, defScope s__law_points_right, [], []⟩
def d__law_turned : He.DefD := ⟨("_law_turned", none), "_law_turned", "_law_turned", defArgs s__law_turned, defBody s__law_turned, defScope s__law_turned, [], []⟩
def d_curve_form : He.DefD := ⟨("curve_form", none), "curve_form", "curve_form", defArgs s_curve_form, defBody s_curve_form, defScope s_curve_form, [], []⟩
def d__law_forms : He.DefD := ⟨("_law_forms", none), "_law_forms", "_law_forms", defArgs s__law_forms, defBody s__law_forms, defScope s__law_forms, [], []⟩
def d_all_curves : He.DefD := ⟨("all_curves", none), "all_curves", "all_curves", defArgs s_all_curves, defBody s_all_curves, defScope s_all_curves, [], []⟩
def d_law : He.DefD := ⟨("law", none), "law", "law", defArgs s_law, defBody s_law, defScope s_law, [], []⟩
def fn : List He.DefD := [d__law_next, d__law_pick, d__turned, d_curve_keepers, d_undone_number, d_shape_number, d__law_draws, d__law_is_curve, d__law_points, d_points_of, d_added_points, d_order_of_point, d_group_of_curve, d__law_plain, d__law_over, d__law_added, d__law_multiples, d_times_point, d__law_points_right, d__law_turned, d_curve_form, d__law_forms, d_all_curves, d_law]
def fa0 : List He.Fa := [.glo "_law_next", .glo "_law_pick", .glo "_turned", .glo "curve_keepers", .glo "undone_number", .glo "shape_number", .glo "_law_draws", .glo "_law_is_curve", .glo "_law_points", .glo "points_of", .glo "added_points", .glo "order_of_point", .glo "group_of_curve", .glo "_law_plain", .glo "_law_over", .glo "_law_added", .glo "_law_multiples", .glo "times_point", .glo "_law_points_right", .glo "_law_turned", .glo "curve_form", .glo "_law_forms", .glo "all_curves", .glo "law", .free "abs", .free "bool", .free "int", .free "isinstance", .free "len", .free "list"]
def fa1 : List He.Fa := [.free "max", .free "min", .free "range", .free "sum", .free "tuple"]
def fa : List He.Fa := fa0 ++ fa1
def loose : List PySem.Str := ["undone_number", "points_of", "added_points", "times_point", "order_of_point", "_turned", "curve_form", "all_curves", "curve_keepers", "shape_number", "group_of_curve", "_law_draws", "_law_next", "_law_pick", "_law_plain", "_law_points", "_law_over", "_law_added", "_law_multiples", "_law_turned", "_law_is_curve", "_law_forms", "_law_points_right"]
abbrev R : PySem.W.OpenRow := PySem.W.OpenLaw.row PySem.Challenge.rw_turnwarrant_k85_whole_curves_modulo_prim
abbrev hk : PySem.W.Hook := He.hookD 4 fa fn
def ob (s : PySem.W.SharedT) : He.AlD := He.obsDG 4 fa fn (HandSHeadRun.getT s)
theorem ob_eq (s : PySem.W.SharedT) : ob s = hk.obs s.abs := He.obsDG_eq (HandSHeadRun.getT_eq s)
theorem run (w : World) : HandSHeadRun.RunEq R (PySem.W.view R.prog [26]) hk ob 1680 loose w := by
  intro os
  kernel_rfl
theorem facts {P : Program} {w : World} {K : PySem.W.Frag} {h : Heap} {mg : Str → Option Value} {f : Addr} (X : K.In h) (G : h.Ns mainGlobals mg) (hfa : mg ("law" : Str) = some (.ref f)) (c : He.SaysD fa fn K) :
    ∃ fd : FuncData, (∀ (s : Shared) (v : Value), BindsTo s fd ⟨[v], []⟩ [("script", v)]) ∧ ∀ base : Heap, K.In base → base.Ns mainGlobals mg → FnOk P w K mg base CX0 7 f fd ["script"] (spD K 1 F_law) := by
  have Z : Zs mg := ⟨He.free_ok X G (c.fact 24 (f := .free "abs") rfl), He.free_ok X G (c.fact 25 (f := .free "bool") rfl), He.free_ok X G (c.fact 26 (f := .free "int") rfl), He.free_ok X G (c.fact 27 (f := .free "isinstance") rfl), He.free_ok X G (c.fact 28 (f := .free "len") rfl), He.free_ok X G (c.fact 29 (f := .free "list") rfl), He.free_ok X G (c.fact 30 (f := .free "max") rfl), He.free_ok X G (c.fact 31 (f := .free "min") rfl), He.free_ok X G (c.fact 32 (f := .free "range") rfl), He.free_ok X G (c.fact 33 (f := .free "sum") rfl), He.free_ok X G (c.fact 34 (f := .free "tuple") rfl)⟩
  have D__law_next : Dn K mg "_law_next" s__law_next ["w", "many"] := by
    obtain ⟨fd, F⟩ := c.def_ 0 (d := d__law_next) rfl
    exact dn_mk F (He.glo_ok X G (c.fact 0 (f := .glo "_law_next") rfl)) fun _ _ _ _ _ _ us hl => match us, hl with | [_, _], _ => rfl
  have D__law_pick : Dn K mg "_law_pick" s__law_pick ["w", "rows"] := by
    obtain ⟨fd, F⟩ := c.def_ 1 (d := d__law_pick) rfl
    exact dn_mk F (He.glo_ok X G (c.fact 1 (f := .glo "_law_pick") rfl)) fun _ _ _ _ _ _ us hl => match us, hl with | [_, _], _ => rfl
  have D__turned : Dn K mg "_turned" s__turned ["p", "curve", "u"] := by
    obtain ⟨fd, F⟩ := c.def_ 2 (d := d__turned) rfl
    exact dn_mk F (He.glo_ok X G (c.fact 2 (f := .glo "_turned") rfl)) fun _ _ _ _ _ _ us hl => match us, hl with | [_, _, _], _ => rfl
  have D_curve_keepers : Dn K mg "curve_keepers" s_curve_keepers ["p", "curve"] := by
    obtain ⟨fd, F⟩ := c.def_ 3 (d := d_curve_keepers) rfl
    exact dn_mk F (He.glo_ok X G (c.fact 3 (f := .glo "curve_keepers") rfl)) fun _ _ _ _ _ _ us hl => match us, hl with | [_, _], _ => rfl
  have D_undone_number : Dn K mg "undone_number" s_undone_number ["p", "x"] := by
    obtain ⟨fd, F⟩ := c.def_ 4 (d := d_undone_number) rfl
    exact dn_mk F (He.glo_ok X G (c.fact 4 (f := .glo "undone_number") rfl)) fun _ _ _ _ _ _ us hl => match us, hl with | [_, _], _ => rfl
  have D_shape_number : Dn K mg "shape_number" s_shape_number ["p", "curve"] := by
    obtain ⟨fd, F⟩ := c.def_ 5 (d := d_shape_number) rfl
    exact dn_mk F (He.glo_ok X G (c.fact 5 (f := .glo "shape_number") rfl)) fun _ _ _ _ _ _ us hl => match us, hl with | [_, _], _ => rfl
  have D__law_draws : Dn K mg "_law_draws" s__law_draws ["script", "many"] := by
    obtain ⟨fd, F⟩ := c.def_ 6 (d := d__law_draws) rfl
    exact dn_mk F (He.glo_ok X G (c.fact 6 (f := .glo "_law_draws") rfl)) fun _ _ _ _ _ _ us hl => match us, hl with | [_, _], _ => rfl
  have D__law_is_curve : Dn K mg "_law_is_curve" s__law_is_curve ["p", "curve"] := by
    obtain ⟨fd, F⟩ := c.def_ 7 (d := d__law_is_curve) rfl
    exact dn_mk F (He.glo_ok X G (c.fact 7 (f := .glo "_law_is_curve") rfl)) fun _ _ _ _ _ _ us hl => match us, hl with | [_, _], _ => rfl
  have D__law_points : Dn K mg "_law_points" s__law_points ["p", "curve"] := by
    obtain ⟨fd, F⟩ := c.def_ 8 (d := d__law_points) rfl
    exact dn_mk F (He.glo_ok X G (c.fact 8 (f := .glo "_law_points") rfl)) fun _ _ _ _ _ _ us hl => match us, hl with | [_, _], _ => rfl
  have D_points_of : Dn K mg "points_of" s_points_of ["p", "curve"] := by
    obtain ⟨fd, F⟩ := c.def_ 9 (d := d_points_of) rfl
    exact dn_mk F (He.glo_ok X G (c.fact 9 (f := .glo "points_of") rfl)) fun _ _ _ _ _ _ us hl => match us, hl with | [_, _], _ => rfl
  have D_added_points : Dn K mg "added_points" s_added_points ["p", "curve", "u", "v"] := by
    obtain ⟨fd, F⟩ := c.def_ 10 (d := d_added_points) rfl
    exact dn_mk F (He.glo_ok X G (c.fact 10 (f := .glo "added_points") rfl)) fun _ _ _ _ _ _ us hl => match us, hl with | [_, _, _, _], _ => rfl
  have D_order_of_point : Dn K mg "order_of_point" s_order_of_point ["p", "curve", "u"] := by
    obtain ⟨fd, F⟩ := c.def_ 11 (d := d_order_of_point) rfl
    exact dn_mk F (He.glo_ok X G (c.fact 11 (f := .glo "order_of_point") rfl)) fun _ _ _ _ _ _ us hl => match us, hl with | [_, _, _], _ => rfl
  have D_group_of_curve : Dn K mg "group_of_curve" s_group_of_curve ["p", "curve"] := by
    obtain ⟨fd, F⟩ := c.def_ 12 (d := d_group_of_curve) rfl
    exact dn_mk F (He.glo_ok X G (c.fact 12 (f := .glo "group_of_curve") rfl)) fun _ _ _ _ _ _ us hl => match us, hl with | [_, _], _ => rfl
  have D__law_plain : Dn K mg "_law_plain" s__law_plain ["thing"] := by
    obtain ⟨fd, F⟩ := c.def_ 13 (d := d__law_plain) rfl
    exact dn_mk F (He.glo_ok X G (c.fact 13 (f := .glo "_law_plain") rfl)) fun _ _ _ _ _ _ us hl => match us, hl with | [_], _ => rfl
  have D__law_over : Dn K mg "_law_over" s__law_over ["p", "a", "b"] := by
    obtain ⟨fd, F⟩ := c.def_ 14 (d := d__law_over) rfl
    exact dn_mk F (He.glo_ok X G (c.fact 14 (f := .glo "_law_over") rfl)) fun _ _ _ _ _ _ us hl => match us, hl with | [_, _, _], _ => rfl
  have D__law_added : Dn K mg "_law_added" s__law_added ["p", "curve", "u", "v"] := by
    obtain ⟨fd, F⟩ := c.def_ 15 (d := d__law_added) rfl
    exact dn_mk F (He.glo_ok X G (c.fact 15 (f := .glo "_law_added") rfl)) fun _ _ _ _ _ _ us hl => match us, hl with | [_, _, _, _], _ => rfl
  have D__law_multiples : Dn K mg "_law_multiples" s__law_multiples ["p", "curve", "u"] := by
    obtain ⟨fd, F⟩ := c.def_ 16 (d := d__law_multiples) rfl
    exact dn_mk F (He.glo_ok X G (c.fact 16 (f := .glo "_law_multiples") rfl)) fun _ _ _ _ _ _ us hl => match us, hl with | [_, _, _], _ => rfl
  have D_times_point : Dn K mg "times_point" s_times_point ["p", "curve", "k", "u"] := by
    obtain ⟨fd, F⟩ := c.def_ 17 (d := d_times_point) rfl
    exact dn_mk F (He.glo_ok X G (c.fact 17 (f := .glo "times_point") rfl)) fun _ _ _ _ _ _ us hl => match us, hl with | [_, _, _, _], _ => rfl
  have D__law_points_right : Dn K mg "_law_points_right" s__law_points_right ["w", "p", "curve"] := by
    obtain ⟨fd, F⟩ := c.def_ 18 (d := d__law_points_right) rfl
    exact dn_mk F (He.glo_ok X G (c.fact 18 (f := .glo "_law_points_right") rfl)) fun _ _ _ _ _ _ us hl => match us, hl with | [_, _, _], _ => rfl
  have D__law_turned : Dn K mg "_law_turned" s__law_turned ["p", "curve", "u"] := by
    obtain ⟨fd, F⟩ := c.def_ 19 (d := d__law_turned) rfl
    exact dn_mk F (He.glo_ok X G (c.fact 19 (f := .glo "_law_turned") rfl)) fun _ _ _ _ _ _ us hl => match us, hl with | [_, _, _], _ => rfl
  have D_curve_form : Dn K mg "curve_form" s_curve_form ["p", "curve"] := by
    obtain ⟨fd, F⟩ := c.def_ 20 (d := d_curve_form) rfl
    exact dn_mk F (He.glo_ok X G (c.fact 20 (f := .glo "curve_form") rfl)) fun _ _ _ _ _ _ us hl => match us, hl with | [_, _], _ => rfl
  have D__law_forms : Dn K mg "_law_forms" s__law_forms ["p"] := by
    obtain ⟨fd, F⟩ := c.def_ 21 (d := d__law_forms) rfl
    exact dn_mk F (He.glo_ok X G (c.fact 21 (f := .glo "_law_forms") rfl)) fun _ _ _ _ _ _ us hl => match us, hl with | [_], _ => rfl
  have D_all_curves : Dn K mg "all_curves" s_all_curves ["p"] := by
    obtain ⟨fd, F⟩ := c.def_ 22 (d := d_all_curves) rfl
    exact dn_mk F (He.glo_ok X G (c.fact 22 (f := .glo "all_curves") rfl)) fun _ _ _ _ _ _ us hl => match us, hl with | [_], _ => rfl
  obtain ⟨fd, F⟩ := c.def_ 23 (d := d_law) rfl
  have e := hfa.symm.trans (He.glo_ok X G (c.fact 23 (f := .glo "law") rfl))
  cases e
  have b := FunD.bindsA (ps := ["script"]) F fun _ _ _ _ _ _ us hl => match us, hl with | [_], _ => rfl
  refine ⟨fd, fun s v => b s [v] rfl, fun base _ _ => ?_⟩
  have h__law_next : Has P w K mg base 1 "_law_next" _ _ := ok__law_next Z D__law_next 
  have h__law_pick : Has P w K mg base 2 "_law_pick" _ _ := ok__law_pick Z D__law_pick h__law_next
  have h__turned : Has P w K mg base 1 "_turned" _ _ := ok__turned Z D__turned 
  have h_curve_keepers : Has P w K mg base 2 "curve_keepers" _ _ := ok_curve_keepers Z D_curve_keepers h__turned
  have h_undone_number : Has P w K mg base 1 "undone_number" _ _ := ok_undone_number Z D_undone_number 
  have h_shape_number : Has P w K mg base 2 "shape_number" _ _ := ok_shape_number Z D_shape_number h_undone_number
  have h__law_draws : Has P w K mg base 1 "_law_draws" _ _ := ok__law_draws Z D__law_draws 
  have h__law_is_curve : Has P w K mg base 1 "_law_is_curve" _ _ := ok__law_is_curve Z D__law_is_curve 
  have h__law_points : Has P w K mg base 1 "_law_points" _ _ := ok__law_points Z D__law_points 
  have h_points_of : Has P w K mg base 1 "points_of" _ _ := ok_points_of Z D_points_of 
  have h_added_points : Has P w K mg base 2 "added_points" _ _ := ok_added_points Z D_added_points h_undone_number
  have h_order_of_point : Has P w K mg base 3 "order_of_point" _ _ := ok_order_of_point Z D_order_of_point h_added_points
  have h_group_of_curve : Has P w K mg base 4 "group_of_curve" _ _ := ok_group_of_curve Z D_group_of_curve h_order_of_point h_points_of
  have h__law_plain : Has P w K mg base 5 "_law_plain" _ _ := ok__law_plain Z D__law_plain  4
  have h__law_over : Has P w K mg base 1 "_law_over" _ _ := ok__law_over Z D__law_over 
  have h__law_added : Has P w K mg base 2 "_law_added" _ _ := ok__law_added Z D__law_added h__law_over
  have h__law_multiples : Has P w K mg base 3 "_law_multiples" _ _ := ok__law_multiples Z D__law_multiples h__law_added
  have h_times_point : Has P w K mg base 5 "times_point" _ _ := ok_times_point Z D_times_point h_added_points 2
  have h__law_points_right : Has P w K mg base 6 "_law_points_right" _ _ := ok__law_points_right Z D__law_points_right h__law_added h__law_multiples h__law_next h__law_pick h__law_plain h__law_points h_added_points h_group_of_curve h_order_of_point h_points_of h_times_point
  have h__law_turned : Has P w K mg base 1 "_law_turned" _ _ := ok__law_turned Z D__law_turned 
  have h_curve_form : Has P w K mg base 2 "curve_form" _ _ := ok_curve_form Z D_curve_form h__turned
  have h__law_forms : Has P w K mg base 2 "_law_forms" _ _ := ok__law_forms Z D__law_forms h__law_is_curve h__law_turned
  have h_all_curves : Has P w K mg base 3 "all_curves" _ _ := ok_all_curves Z D_all_curves h_curve_form
  exact ok_law Z F h__law_draws h__law_forms h__law_is_curve h__law_next h__law_over h__law_pick h__law_plain h__law_points_right h__law_turned h_all_curves h_curve_form h_curve_keepers h_shape_number
end K85

set_option Elab.async false
set_option linter.all false
set_option autoImplicit false
set_option maxRecDepth 100000
set_option maxHeartbeats 4000000
namespace K85
open PySem PySem.Spec PyProof.Rows L2 DL
theorem next_same : F__law_next = nextF := rfl
theorem pick_same : F__law_pick = pickF := rfl
/-! _turned -/
def t__turned (a_p : Int) (a_curve : (Int × Int)) (a_u : Int) : Option (Int × Int) :=
(mulO a_u a_u).bind fun v1 =>
(modO v1 a_p).bind fun v2 =>
(mulO a_curve.1 v2).bind fun v3 =>
(mulO v3 v2).bind fun v4 =>
(modO v4 a_p).bind fun v5 =>
(mulO a_curve.2 v2).bind fun v6 =>
(mulO v6 v2).bind fun v7 =>
(mulO v7 v2).bind fun v8 =>
(modO v8 a_p).bind fun v9 =>
some (v5, v9)
theorem sim__turned {a_p : Int} {a_curve : (Int × Int)} {a_u : Int} {r : (Int × Int)} (h : t__turned a_p a_curve a_u = some r) : F__turned [.sh (eI a_p), .sh ((e2 eI eI) a_curve), .sh (eI a_u)] = some (.sh ((e2 eI eI) r), [.sh (eI a_p), .sh ((e2 eI eI) a_curve), .sh (eI a_u)]) := by
  unfold t__turned at h
  refine run_wp rfl (fun i => by intro z; cases z) ?_
  show Wp (g__turned [.sh (eI a_p), .sh ((e2 eI eI) a_curve), .sh (eI a_u), .no]) _
  unfold g__turned
  obtain ⟨v1, hv1, h⟩ := bnd h
  obtain ⟨v2, hv2, h⟩ := bnd h
  refine wp_seq (ρ1 := [.sh (eI a_p), .sh ((e2 eI eI) a_curve), .sh (eI a_u), .sh (eI v2)]) (set_s (bin_s (bin_s ev_2 ev_2 (mul_t hv1)) ev_0 (mod_t hv2))) ?_
  obtain ⟨v3, hv3, h⟩ := bnd h
  obtain ⟨v4, hv4, h⟩ := bnd h
  obtain ⟨v5, hv5, h⟩ := bnd h
  obtain ⟨v6, hv6, h⟩ := bnd h
  obtain ⟨v7, hv7, h⟩ := bnd h
  obtain ⟨v8, hv8, h⟩ := bnd h
  obtain ⟨v9, hv9, h⟩ := bnd h
  refine wp_ret (tup_ (ac_ (fr_s (bin_s (bin_s (bin_s (bin_s ev_1 (ec _ _) (show ixA ((e2 eI eI) a_curve) (eI 0) = some (.sh (eI a_curve.1)) from rfl)) ev_3 (mul_t hv3)) ev_3 (mul_t hv4)) ev_0 (mod_t hv5))) (ac_ (fr_s (bin_s (bin_s (bin_s (bin_s (bin_s ev_1 (ec _ _) (show ixA ((e2 eI eI) a_curve) (eI 1) = some (.sh (eI a_curve.2)) from rfl)) ev_3 (mul_t hv6)) ev_3 (mul_t hv7)) ev_3 (mul_t hv8)) ev_0 (mod_t hv9))) (an_ _))) rfl (few' rfl)) ?_
  cases h
  exact rt_i rfl rfl
/-! curve_keepers -/
def t_curve_keepers (a_p : Int) (a_curve : (Int × Int)) : Option (List Int) :=
(rngO2 1 a_p).bind fun r2 =>
(szO (lcO (fun (x3 : Int) => (t__turned a_p a_curve x3).bind fun v4 => if (eqE (e2 eI eI) v4 a_curve) = true then (some (some x3)) else some none) r2)).bind fun y5 =>
some y5
theorem sim_curve_keepers {a_p : Int} {a_curve : (Int × Int)} {r : (List Int)} (h : t_curve_keepers a_p a_curve = some r) : F_curve_keepers [.sh (eI a_p), .sh ((e2 eI eI) a_curve)] = some (.sh ((eT eI) r), [.sh (eI a_p), .sh ((e2 eI eI) a_curve)]) := by
  unfold t_curve_keepers at h
  refine run_wp rfl (fun i => by intro z; cases z) ?_
  show Wp (g_curve_keepers [.sh (eI a_p), .sh ((e2 eI eI) a_curve), .no]) _
  unfold g_curve_keepers
  obtain ⟨r2, hr2, h⟩ := bnd h
  obtain ⟨y5, hy5, h⟩ := bnd h
  refine wp_ret (fr_s (call_s (ac_ (lc_ (W := [.sh (eI a_p), .sh ((e2 eI eI) a_curve), .no]) (e := eI) (e' := eI) (irng_ (e := eI) (ac_ (ec _ _) (ac_ ev_0 (an_ _))) rfl (rng2_t hr2)) rfl rfl (fun x3 _ _ h => by obtain ⟨v4, hv4, h⟩ := bnd h; exact ite_elim h (fun c1 h => by rw [← Option.some.inj h]; exact ⟨[.sh (eI a_p), .sh ((e2 eI eI) a_curve), .sh (eI x3)], rfl, _, _, tcong (tb_ (bin_s (fn_s (ρ2 := [.sh (eI a_p), .sh ((e2 eI eI) a_curve), .sh (eI x3)]) (ac_ (fr_s ev_0) (ac_ (fr_s ev_1) (ac_ (fr_s ev_2) (an_ _)))) rfl rfl (sim__turned (a_p := a_p) (a_curve := a_curve) (a_u := x3) hv4) rfl) ev_1 (eq_e (e := (e2 eI eI)) v4 a_curve))) c1, (fr_s ev_2), rfl⟩) (fun c1 h => by rw [← Option.some.inj h]; exact ⟨[.sh (eI a_p), .sh ((e2 eI eI) a_curve), .sh (eI x3)], rfl, _, tcong (tb_ (bin_s (fn_s (ρ2 := [.sh (eI a_p), .sh ((e2 eI eI) a_curve), .sh (eI x3)]) (ac_ (fr_s ev_0) (ac_ (fr_s ev_1) (ac_ (fr_s ev_2) (an_ _)))) rfl rfl (sim__turned (a_p := a_p) (a_curve := a_curve) (a_u := x3) hv4) rfl) ev_1 (eq_e (e := (e2 eI eI)) v4 a_curve))) c1, rfl⟩)) hy5) (an_ _)) rfl (tupL_e (e := eI) y5))) ?_
  cases h
  exact rt_i rfl rfl
/-! undone_number -/
def t_undone_number (a_p : Int) (a_x : Int) : Option Int :=
(modO a_x a_p).bind fun v1 =>
whileB (r := Int) (fun (s2 : (Int × Int × Int × Int)) => some (s2.2.1 != 0)) (fun (s2 : (Int × Int × Int × Int)) => (divO s2.1 s2.2.1).bind fun v4 =>
(mulO v4 s2.2.1).bind fun v5 =>
(some (s2.1 - v5)).bind fun x6 =>
(mulO v4 s2.2.2.2).bind fun v7 =>
(some (s2.2.2.1 - v7)).bind fun x8 =>
some (.nx (s2.2.1, x6, s2.2.2.2, x8))) 1048576 (a_p, v1, 0, 1) (fun (s9 : (Int × Int × Int × Int)) => (modO s9.2.2.1 a_p).bind fun v11 =>
some v11) (fun x => some x)
theorem sim_undone_number {a_p : Int} {a_x : Int} {r : Int} (h : t_undone_number a_p a_x = some r) : F_undone_number [.sh (eI a_p), .sh (eI a_x)] = some (.sh (eI r), [.sh (eI a_p), .sh (eI a_x)]) := by
  unfold t_undone_number at h
  refine run_wp rfl (fun i => by intro z; cases z) ?_
  show Wp (g_undone_number [.sh (eI a_p), .sh (eI a_x), .no, .no, .no, .no, .no]) _
  unfold g_undone_number
  obtain ⟨v1, hv1, h⟩ := bnd h
  refine wp_seq (ρ1 := [.sh (eI a_p), .sh (eI a_x), .sh (eI a_p), .sh (eI v1), .no, .no, .no]) (par_ (ac_ (fr_s ev_0) (ac_ (fr_s (bin_s ev_1 ev_0 (mod_t hv1))) (an_ _))) rfl rfl) ?_
  refine wp_seq (ρ1 := [.sh (eI a_p), .sh (eI a_x), .sh (eI a_p), .sh (eI v1), .sh (eI 0), .sh (eI 1), .no]) (asg_ (fr_s (tup_ (ac_ (ec _ _) (ac_ (ec _ _) (an_ _))) rfl (few' rfl))) rfl) ?_
  refine wp_seqW (wp_while (R := (fun (s2 : (Int × Int × Int × Int)) ρ => ∃ j3, ρ = [.sh (eI a_p), .sh (eI a_x), .sh (eI s2.1), .sh (eI s2.2.1), .sh (eI s2.2.2.1), .sh (eI s2.2.2.2), j3])) (Qr := fun (x : Int) => Rt [.sh (eI a_p), .sh (eI a_x)] [] (.sh (eI x)) [.sh (eI a_p), .sh (eI a_x)]) (s0 := (a_p, v1, 0, 1)) ⟨_, rfl⟩ (fun s2 ρ k hR h => ?_) (fun s2 s' ρ hR hc h => ?_) h ?_ (fun x rv ρ hk hq => by cases hk; exact hq))
  · obtain ⟨j3, rfl⟩ := hR
    rw [← Option.some.inj h]
    exact ⟨[.sh (eI a_p), .sh (eI a_x), .sh (eI s2.1), .sh (eI s2.2.1), .sh (eI s2.2.2.1), .sh (eI s2.2.2.2), j3], (tv_ (pk_s ev_3) rfl (tru_i _)), ⟨_, rfl⟩⟩
  · obtain ⟨j3, rfl⟩ := hR
    obtain ⟨v4, hv4, h⟩ := bnd h
    refine wp_seq (ρ1 := [.sh (eI a_p), .sh (eI a_x), .sh (eI s2.1), .sh (eI s2.2.1), .sh (eI s2.2.2.1), .sh (eI s2.2.2.2), .sh (eI v4)]) (set_s (bin_s ev_2 ev_3 (div_t hv4))) ?_
    obtain ⟨v5, hv5, h⟩ := bnd h
    obtain ⟨x6, hx6, h⟩ := bnd h
    refine wp_seq (ρ1 := [.sh (eI a_p), .sh (eI a_x), .sh (eI s2.2.1), .sh (eI x6), .sh (eI s2.2.2.1), .sh (eI s2.2.2.2), .sh (eI v4)]) (by rw [← Option.some.inj hx6]; exact (par_ (ac_ (fr_s ev_3) (ac_ (fr_s (bin_s ev_2 (bin_s ev_6 ev_3 (mul_t hv5)) (sub_i _ _))) (an_ _))) rfl rfl)) ?_
    obtain ⟨v7, hv7, h⟩ := bnd h
    obtain ⟨x8, hx8, h⟩ := bnd h
    refine wp_st (ρ1 := [.sh (eI a_p), .sh (eI a_x), .sh (eI s2.2.1), .sh (eI x6), .sh (eI s2.2.2.2), .sh (eI x8), .sh (eI v4)]) (by rw [← Option.some.inj hx8]; exact (par_ (ac_ (fr_s ev_5) (ac_ (fr_s (bin_s ev_4 (bin_s ev_6 ev_5 (mul_t hv7)) (sub_i _ _))) (an_ _))) rfl rfl)) ?_
    cases h
    exact pb_nx ⟨_, rfl⟩
  · intro s9 ρ hR h
    obtain ⟨j10, rfl⟩ := hR
    refine qs_nx ?_
    obtain ⟨v11, hv11, h⟩ := bnd h
    refine wp_ret (bin_s ev_4 ev_0 (mod_t hv11)) ?_
    cases h
    exact rt_i rfl rfl
/-! shape_number -/
def t_shape_number (a_p : Int) (a_curve : (Int × Int)) : Option Int :=
(mulO (4 * a_curve.1) a_curve.1).bind fun v1 =>
(mulO v1 a_curve.1).bind fun v2 =>
(mulO (27 * a_curve.2) a_curve.2).bind fun v3 =>
(t_undone_number a_p (v2 + v3)).bind fun v4 =>
(mulO (1728 * v2) v4).bind fun v5 =>
(modO v5 a_p).bind fun v6 =>
some v6
theorem sim_shape_number {a_p : Int} {a_curve : (Int × Int)} {r : Int} (h : t_shape_number a_p a_curve = some r) : F_shape_number [.sh (eI a_p), .sh ((e2 eI eI) a_curve)] = some (.sh (eI r), [.sh (eI a_p), .sh ((e2 eI eI) a_curve)]) := by
  unfold t_shape_number at h
  refine run_wp rfl (fun i => by intro z; cases z) ?_
  show Wp (g_shape_number [.sh (eI a_p), .sh ((e2 eI eI) a_curve), .no]) _
  unfold g_shape_number
  obtain ⟨v1, hv1, h⟩ := bnd h
  obtain ⟨v2, hv2, h⟩ := bnd h
  refine wp_seq (ρ1 := [.sh (eI a_p), .sh ((e2 eI eI) a_curve), .sh (eI v2)]) (set_s (pk_s (bin_s (bin_s (bin_s (ec _ _) (bin_s ev_1 (ec _ _) (show ixA ((e2 eI eI) a_curve) (eI 0) = some (.sh (eI a_curve.1)) from rfl)) (mul_l _ _)) (bin_s ev_1 (ec _ _) (show ixA ((e2 eI eI) a_curve) (eI 0) = some (.sh (eI a_curve.1)) from rfl)) (mul_t hv1)) (bin_s ev_1 (ec _ _) (show ixA ((e2 eI eI) a_curve) (eI 0) = some (.sh (eI a_curve.1)) from rfl)) (mul_t hv2)))) ?_
  obtain ⟨v3, hv3, h⟩ := bnd h
  obtain ⟨v4, hv4, h⟩ := bnd h
  obtain ⟨v5, hv5, h⟩ := bnd h
  obtain ⟨v6, hv6, h⟩ := bnd h
  refine wp_ret (bin_s (bin_s (bin_s (ec _ _) ev_2 (mul_l _ _)) (fn_s (ρ2 := [.sh (eI a_p), .sh ((e2 eI eI) a_curve), .sh (eI v2)]) (ac_ (fr_s ev_0) (ac_ (fr_s (bin_s ev_2 (bin_s (bin_s (ec _ _) (bin_s ev_1 (ec _ _) (show ixA ((e2 eI eI) a_curve) (eI 1) = some (.sh (eI a_curve.2)) from rfl)) (mul_l _ _)) (bin_s ev_1 (ec _ _) (show ixA ((e2 eI eI) a_curve) (eI 1) = some (.sh (eI a_curve.2)) from rfl)) (mul_t hv3)) (add_i _ _))) (an_ _))) rfl rfl (sim_undone_number (a_p := a_p) (a_x := (v2 + v3)) hv4) rfl) (mul_t hv5)) ev_0 (mod_t hv6)) ?_
  cases h
  exact rt_i rfl rfl
/-! _law_is_curve -/
def t__law_is_curve (a_p : Int) (a_curve : (Int × Int)) : Option Bool :=
(mulO (4 * a_curve.1) a_curve.1).bind fun v1 =>
(mulO v1 a_curve.1).bind fun v2 =>
(mulO (27 * a_curve.2) a_curve.2).bind fun v3 =>
(modO (v2 + v3) a_p).bind fun v4 =>
some (!decide (v4 = 0))
theorem sim__law_is_curve {a_p : Int} {a_curve : (Int × Int)} {r : Bool} (h : t__law_is_curve a_p a_curve = some r) : F__law_is_curve [.sh (eI a_p), .sh ((e2 eI eI) a_curve)] = some (.sh (eB r), [.sh (eI a_p), .sh ((e2 eI eI) a_curve)]) := by
  unfold t__law_is_curve at h
  refine run_wp rfl (fun i => by intro z; cases z) ?_
  show Wp (g__law_is_curve [.sh (eI a_p), .sh ((e2 eI eI) a_curve), .no, .no]) _
  unfold g__law_is_curve
  refine wp_seq (ρ1 := [.sh (eI a_p), .sh ((e2 eI eI) a_curve), .sh (eI a_curve.1), .sh (eI a_curve.2)]) (asg_ (fr_s ev_1) rfl) ?_
  obtain ⟨v1, hv1, h⟩ := bnd h
  obtain ⟨v2, hv2, h⟩ := bnd h
  obtain ⟨v3, hv3, h⟩ := bnd h
  obtain ⟨v4, hv4, h⟩ := bnd h
  refine wp_ret (bin_s (bin_s (call_s (ac_ (bin_s (bin_s (bin_s (bin_s (ec _ _) ev_2 (mul_l _ _)) ev_2 (mul_t hv1)) ev_2 (mul_t hv2)) (bin_s (bin_s (ec _ _) ev_3 (mul_l _ _)) ev_3 (mul_t hv3)) (add_i _ _)) (an_ _)) rfl (int_i _)) ev_0 (mod_t hv4)) (ec _ _) (ne_i _ _)) ?_
  cases h
  exact rt_i rfl rfl
/-! _law_points -/
def t__law_points (a_p : Int) (a_curve : (Int × Int)) : Option (List (Int × Int)) :=
(rngO1 a_p).bind fun r1 =>
(foldO (fun (x4 : Int) (s2 : (List (Int × Int))) => (rngO1 a_p).bind fun r6 =>
(szO (lcO (fun (x7 : Int) => (mulO x7 x7).bind fun v8 => (mulO x4 x4).bind fun v9 => (mulO v9 x4).bind fun v10 => (mulO a_curve.1 x4).bind fun v11 => (modO (((v8 - v10) - v11) - a_curve.2) a_p).bind fun v12 => if (decide (v12 = 0)) = true then (some (some (x4, x7))) else some none) r6)).bind fun y13 =>
(plusO s2 y13).bind fun v14 =>
some v14) r1 []).bind fun (s15 : (List (Int × Int))) =>
some s15
theorem sim__law_points {a_p : Int} {a_curve : (Int × Int)} {r : (List (Int × Int))} (h : t__law_points a_p a_curve = some r) : F__law_points [.sh (eI a_p), .sh ((e2 eI eI) a_curve)] = some (.sh ((eL (e2 eI eI)) r), [.sh (eI a_p), .sh ((e2 eI eI) a_curve)]) := by
  unfold t__law_points at h
  refine run_wp rfl (fun i => by intro z; cases z) ?_
  show Wp (g__law_points [.sh (eI a_p), .sh ((e2 eI eI) a_curve), .no, .no, .no, .no, .no]) _
  unfold g__law_points
  refine wp_seq (ρ1 := [.sh (eI a_p), .sh ((e2 eI eI) a_curve), .sh (eI a_curve.1), .sh (eI a_curve.2), .no, .no, .no]) (asg_ (fr_s ev_1) rfl) ?_
  refine wp_seq (ρ1 := [.sh (eI a_p), .sh ((e2 eI eI) a_curve), .sh (eI a_curve.1), .sh (eI a_curve.2), .sh ((eL (e2 eI eI)) []), .no, .no]) (set_s (pk_o (lst_ (an_ _) rfl (few' rfl)))) ?_
  obtain ⟨r1, hr1, h⟩ := bnd h
  refine wp_seqW (wp_fold (R := (fun (s2 : (List (Int × Int))) ρ => ∃ j3, ρ = [.sh (eI a_p), .sh ((e2 eI eI) a_curve), .sh (eI a_curve.1), .sh (eI a_curve.2), .sh ((eL (e2 eI eI)) s2), j3, .no])) (e := eI) (s0 := []) (irng_ (e := eI) (ac_ ev_0 (an_ _)) rfl (rng1_t hr1)) ⟨_, rfl⟩ (fun x4 s2 s' ρ hx hR h => ?_) h ?_)
  · obtain ⟨j3, rfl⟩ := hR
    refine ⟨[.sh (eI a_p), .sh ((e2 eI eI) a_curve), .sh (eI a_curve.1), .sh (eI a_curve.2), .sh ((eL (e2 eI eI)) s2), .sh (eI x4), .no], rfl, ?_⟩
    obtain ⟨r6, hr6, h⟩ := bnd h
    obtain ⟨y13, hy13, h⟩ := bnd h
    obtain ⟨v14, hv14, h⟩ := bnd h
    refine wp_st (ρ1 := [.sh (eI a_p), .sh ((e2 eI eI) a_curve), .sh (eI a_curve.1), .sh (eI a_curve.2), .sh ((eL (e2 eI eI)) v14), .sh (eI x4), .no]) (set_s (pk_o (bin_go (pk_s ev_4) (pk_o (lc_ (W := [.sh (eI a_p), .sh ((e2 eI eI) a_curve), .sh (eI a_curve.1), .sh (eI a_curve.2), .sh ((eL (e2 eI eI)) s2), .sh (eI x4), .no]) (e := eI) (e' := (e2 eI eI)) (irng_ (e := eI) (ac_ ev_0 (an_ _)) rfl (rng1_t hr6)) rfl rfl (fun x7 _ _ h => by obtain ⟨v8, hv8, h⟩ := bnd h; obtain ⟨v9, hv9, h⟩ := bnd h; obtain ⟨v10, hv10, h⟩ := bnd h; obtain ⟨v11, hv11, h⟩ := bnd h; obtain ⟨v12, hv12, h⟩ := bnd h; exact ite_elim h (fun c5 h => by rw [← Option.some.inj h]; exact ⟨[.sh (eI a_p), .sh ((e2 eI eI) a_curve), .sh (eI a_curve.1), .sh (eI a_curve.2), .sh ((eL (e2 eI eI)) s2), .sh (eI x4), .sh (eI x7)], rfl, _, _, tcong (tb_ (bin_s (bin_s (call_s (ac_ (bin_s (bin_s (bin_s (bin_s ev_6 ev_6 (mul_t hv8)) (bin_s (bin_s ev_5 ev_5 (mul_t hv9)) ev_5 (mul_t hv10)) (sub_i _ _)) (bin_s ev_2 ev_5 (mul_t hv11)) (sub_i _ _)) ev_3 (sub_i _ _)) (an_ _)) rfl (int_i _)) ev_0 (mod_t hv12)) (ec _ _) (eq_i _ _))) c5, (fr_s (tup_ (ac_ (fr_s ev_5) (ac_ (fr_s ev_6) (an_ _))) rfl (few' rfl))), rfl⟩) (fun c5 h => by rw [← Option.some.inj h]; exact ⟨[.sh (eI a_p), .sh ((e2 eI eI) a_curve), .sh (eI a_curve.1), .sh (eI a_curve.2), .sh ((eL (e2 eI eI)) s2), .sh (eI x4), .sh (eI x7)], rfl, _, tcong (tb_ (bin_s (bin_s (call_s (ac_ (bin_s (bin_s (bin_s (bin_s ev_6 ev_6 (mul_t hv8)) (bin_s (bin_s ev_5 ev_5 (mul_t hv9)) ev_5 (mul_t hv10)) (sub_i _ _)) (bin_s ev_2 ev_5 (mul_t hv11)) (sub_i _ _)) ev_3 (sub_i _ _)) (an_ _)) rfl (int_i _)) ev_0 (mod_t hv12)) (ec _ _) (eq_i _ _))) c5, rfl⟩)) hy13)) rfl rfl (plusL_e (e := (e2 eI eI)) hv14)))) ?_
    cases h
    exact ⟨_, .inl rfl, ⟨_, rfl⟩⟩
  · intro s15 ρ hR h
    obtain ⟨j16, rfl⟩ := hR
    refine qs_nx ?_
    refine wp_ret (fr_s ev_4) ?_
    cases h
    exact rt_i rfl rfl
/-! points_of -/
def t_points_of (a_p : Int) (a_curve : (Int × Int)) : Option (List (Option (Int × Int))) :=
(rngO1 a_p).bind fun r1 =>
(sdfO (fun (x2 : Int) => (mulO x2 x2).bind fun v3 => (modO v3 a_p).bind fun v4 => some v4) (fun (x2 : Int) => some x2) r1 []).bind fun z5 =>
(rngO1 a_p).bind fun r7 =>
(foldO (fun (x10 : Int) (s8 : (List (Int × Int))) => (mulO x10 x10).bind fun v12 =>
(mulO v12 x10).bind fun v13 =>
(mulO a_curve.1 x10).bind fun v14 =>
(modO ((v13 + v14) + a_curve.2) a_p).bind fun v15 =>
(szO (mapO (fun (x16 : Int) => some (x10, x16)) ((dgetO (EqE.eq eI) z5 v15).getD []))).bind fun y17 =>
(plusO s8 y17).bind fun v18 =>
some v18) r7 []).bind fun (s19 : (List (Int × Int))) =>
(plusO [none] (List.map (fun z => (some z)) s19)).bind fun v21 =>
some v21
theorem sim_points_of {a_p : Int} {a_curve : (Int × Int)} {r : (List (Option (Int × Int)))} (h : t_points_of a_p a_curve = some r) : F_points_of [.sh (eI a_p), .sh ((e2 eI eI) a_curve)] = some (.sh ((eT (eO (e2 eI eI))) r), [.sh (eI a_p), .sh ((e2 eI eI) a_curve)]) := by
  unfold t_points_of at h
  refine run_wp rfl (fun i => by intro z; cases z) ?_
  show Wp (g_points_of [.sh (eI a_p), .sh ((e2 eI eI) a_curve), .no, .no, .no, .no, .no, .no]) _
  unfold g_points_of
  refine wp_seq (ρ1 := [.sh (eI a_p), .sh ((e2 eI eI) a_curve), .sh (eI a_curve.1), .sh (eI a_curve.2), .no, .no, .no, .no]) (asg_ (fr_s ev_1) rfl) ?_
  refine wp_seq (ρ1 := [.sh (eI a_p), .sh ((e2 eI eI) a_curve), .sh (eI a_curve.1), .sh (eI a_curve.2), .ow (.dct (List.map (ekv eI (eL eI)) [])), .no, .no, .no]) (set_o (dct_ _)) ?_
  obtain ⟨r1, hr1, h⟩ := bnd h
  obtain ⟨z5, hz5, h⟩ := bnd h
  refine wp_seq (ρ1 := [.sh (eI a_p), .sh ((e2 eI eI) a_curve), .sh (eI a_curve.1), .sh (eI a_curve.2), .ow (.dct (List.map (ekv eI (eL eI)) z5)), .no, .no, .no]) (sdf_ (i := 4) (j := 5) (ρ := [.sh (eI a_p), .sh ((e2 eI eI) a_curve), .sh (eI a_curve.1), .sh (eI a_curve.2), .ow (.dct (List.map (ekv eI (eL eI)) [])), .no, .no, .no]) (s := .no) (W := [.sh (eI a_p), .sh ((e2 eI eI) a_curve), .sh (eI a_curve.1), .sh (eI a_curve.2), .no, .no, .no, .no]) (e := eI) (ev := eI) (irng_ (e := eI) (ac_ ev_0 (an_ _)) rfl (rng1_t hr1)) rfl rfl (fun x2 _ _ h => by obtain ⟨v3, hv3, h⟩ := bnd h; obtain ⟨v4, hv4, h⟩ := bnd h; rw [← Option.some.inj h]; exact (pk_s (bin_s (bin_s ev_5 ev_5 (mul_t hv3)) ev_0 (mod_t hv4)))) (fun x2 _ _ h => by rw [← Option.some.inj h]; exact (fr_s ev_5)) hz5) ?_
  refine wp_seq (ρ1 := [.sh (eI a_p), .sh ((e2 eI eI) a_curve), .sh (eI a_curve.1), .sh (eI a_curve.2), .ow (.dct (List.map (ekv eI (eL eI)) z5)), .no, .sh ((eL (e2 eI eI)) []), .no]) (set_s (pk_o (lst_ (an_ _) rfl (few' rfl)))) ?_
  obtain ⟨r7, hr7, h⟩ := bnd h
  refine wp_seqW (wp_fold (R := (fun (s8 : (List (Int × Int))) ρ => ∃ j9, ρ = [.sh (eI a_p), .sh ((e2 eI eI) a_curve), .sh (eI a_curve.1), .sh (eI a_curve.2), .ow (.dct (List.map (ekv eI (eL eI)) z5)), .no, .sh ((eL (e2 eI eI)) s8), j9])) (e := eI) (s0 := []) (irng_ (e := eI) (ac_ ev_0 (an_ _)) rfl (rng1_t hr7)) ⟨_, rfl⟩ (fun x10 s8 s' ρ hx hR h => ?_) h ?_)
  · obtain ⟨j9, rfl⟩ := hR
    refine ⟨[.sh (eI a_p), .sh ((e2 eI eI) a_curve), .sh (eI a_curve.1), .sh (eI a_curve.2), .ow (.dct (List.map (ekv eI (eL eI)) z5)), .no, .sh ((eL (e2 eI eI)) s8), .sh (eI x10)], rfl, ?_⟩
    obtain ⟨v12, hv12, h⟩ := bnd h
    obtain ⟨v13, hv13, h⟩ := bnd h
    obtain ⟨v14, hv14, h⟩ := bnd h
    obtain ⟨v15, hv15, h⟩ := bnd h
    obtain ⟨y17, hy17, h⟩ := bnd h
    obtain ⟨v18, hv18, h⟩ := bnd h
    refine wp_st (ρ1 := [.sh (eI a_p), .sh ((e2 eI eI) a_curve), .sh (eI a_curve.1), .sh (eI a_curve.2), .ow (.dct (List.map (ekv eI (eL eI)) z5)), .no, .sh ((eL (e2 eI eI)) v18), .sh (eI x10)]) (set_s (pk_o (bin_go (pk_s ev_6) (pk_o (lm_ (W := [.sh (eI a_p), .sh ((e2 eI eI) a_curve), .sh (eI a_curve.1), .sh (eI a_curve.2), .ow (.dct (List.map (ekv eI (eL eI)) z5)), .no, .sh ((eL (e2 eI eI)) s8), .sh (eI x10)]) (e := eI) (e' := (e2 eI eI)) (iseq_l (e := eI) (fr_s (dget_ (ev := (eL eI)) (kvs := z5) (d := []) eva_4 rfl (pk_s (bin_s (bin_s (bin_s (bin_s (bin_s ev_7 ev_7 (mul_t hv12)) ev_7 (mul_t hv13)) (bin_s ev_2 ev_7 (mul_t hv14)) (add_i _ _)) ev_3 (add_i _ _)) ev_0 (mod_t hv15))) rfl (fr_o (lst_ (an_ _) rfl (few' rfl)))))) rfl rfl (fun x16 _ _ h => by rw [← Option.some.inj h]; exact ⟨[.sh (eI a_p), .sh ((e2 eI eI) a_curve), .sh (eI a_curve.1), .sh (eI a_curve.2), .ow (.dct (List.map (ekv eI (eL eI)) z5)), .sh (eI x16), .sh ((eL (e2 eI eI)) s8), .sh (eI x10)], [.sh (eI a_p), .sh ((e2 eI eI) a_curve), .sh (eI a_curve.1), .sh (eI a_curve.2), .ow (.dct (List.map (ekv eI (eL eI)) z5)), .sh (eI x16), .sh ((eL (e2 eI eI)) s8), .sh (eI x10)], rfl, (fr_s (tup_ (ac_ (fr_s ev_7) (ac_ (fr_s ev_5) (an_ _))) rfl (few' rfl))), rfl⟩) hy17)) rfl rfl (plusL_e (e := (e2 eI eI)) hv18)))) ?_
    cases h
    exact ⟨_, .inl rfl, ⟨_, rfl⟩⟩
  · intro s19 ρ hR h
    obtain ⟨j20, rfl⟩ := hR
    refine qs_nx ?_
    obtain ⟨v21, hv21, h⟩ := bnd h
    refine wp_ret (fr_s (bin_gs (pk_s (tup_ (ac_ (ec _ _) (an_ _)) rfl (few' rfl))) (pk_s (call_s (ac_ ev_6 (an_ _)) rfl (tupL_e (e := (e2 eI eI)) s19))) rfl (dcoT (e := (e2 eI eI)) (e' := (eO (e2 eI eI))) (g := fun z => (some z)) (fun _ => rfl) s19) (plusT_e (e := (eO (e2 eI eI))) hv21))) ?_
    cases h
    exact rt_i rfl rfl
/-! added_points -/
def t_added_points (a_p : Int) (a_curve : (Int × Int)) (a_u : (Option (Int × Int))) (a_v : (Option (Int × Int))) : Option (Option (Int × Int)) :=
if ((Option.isNone a_u) || (Option.isNone a_v)) = true then (some (if (Option.isNone a_u) = true then a_v else a_u)) else ((a_u).bind fun v2 =>
(a_v).bind fun v3 =>
((if (decide (v2.1 = v3.1)) = true then ((modO (v2.2 + v3.2) a_p).bind fun v4 => some (decide (v4 = 0))) else some false)).bind fun v5 =>
if v5 = true then (some none) else ((if (eqE (eO (e2 eI eI)) a_u a_v) = true then ((mulO (3 * v2.1) v2.1).bind fun v16 =>
(t_undone_number a_p (2 * v2.2)).bind fun v17 =>
(mulO (v16 + a_curve.1) v17).bind fun v18 =>
(modO v18 a_p).bind fun v19 =>
some v19) else ((t_undone_number a_p (v3.1 - v2.1)).bind fun v20 =>
(mulO (v3.2 - v2.2) v20).bind fun v21 =>
(modO v21 a_p).bind fun v22 =>
some v22)).bind fun s23 =>
(mulO s23 s23).bind fun v24 =>
(modO ((v24 - v2.1) - v3.1) a_p).bind fun v25 =>
(mulO s23 (v2.1 - v25)).bind fun v26 =>
(modO (v26 - v2.2) a_p).bind fun v27 =>
some (some (v25, v27))))
theorem sim_added_points {a_p : Int} {a_curve : (Int × Int)} {a_u : (Option (Int × Int))} {a_v : (Option (Int × Int))} {r : (Option (Int × Int))} (h : t_added_points a_p a_curve a_u a_v = some r) : F_added_points [.sh (eI a_p), .sh ((e2 eI eI) a_curve), .sh ((eO (e2 eI eI)) a_u), .sh ((eO (e2 eI eI)) a_v)] = some (.sh ((eO (e2 eI eI)) r), [.sh (eI a_p), .sh ((e2 eI eI) a_curve), .sh ((eO (e2 eI eI)) a_u), .sh ((eO (e2 eI eI)) a_v)]) := by
  unfold t_added_points at h
  refine run_wp rfl (fun i => by intro z; cases z) ?_
  show Wp (g_added_points [.sh (eI a_p), .sh ((e2 eI eI) a_curve), .sh ((eO (e2 eI eI)) a_u), .sh ((eO (e2 eI eI)) a_v), .no, .no, .no, .no, .no, .no]) _
  unfold g_added_points
  refine wp_seqW ?_
  refine ite_elim h (fun c1 h => ?_) (fun c1 h => ?_)
  · refine wp_if_t (tor_ (tb_ (bin_s ev_2 (ec _ _) (isndx_e (e := (e2 eI eI)) a_u))) (tb_ (bin_s ev_3 (ec _ _) (isndx_e (e := (e2 eI eI)) a_v)))) c1 ?_
    refine wp_ret (fr_s (eif_e (e := (eO (e2 eI eI))) (x := a_v) (y := a_u) (tb_ (bin_s ev_2 (ec _ _) (isndx_e (e := (e2 eI eI)) a_u))) (fr_s ev_3) (fr_s ev_2))) ?_
    refine qs_rt ?_
    cases h
    exact rt_i rfl rfl
  · refine wp_if_f (tor_ (tb_ (bin_s ev_2 (ec _ _) (isndx_e (e := (e2 eI eI)) a_u))) (tb_ (bin_s ev_3 (ec _ _) (isndx_e (e := (e2 eI eI)) a_v)))) c1 ?_
    refine wp_nil ?_
    refine qs_nx ?_
    obtain ⟨v2, hv2, h⟩ := bnd h
    refine wp_seq (ρ1 := [.sh (eI a_p), .sh ((e2 eI eI) a_curve), .sh ((eO (e2 eI eI)) a_u), .sh ((eO (e2 eI eI)) a_v), .sh (eI v2.1), .sh (eI v2.2), .no, .no, .no, .no]) (asg_ (fr_s (opn (e := (e2 eI eI)) ev_2 hv2)) rfl) ?_
    obtain ⟨v3, hv3, h⟩ := bnd h
    refine wp_seq (ρ1 := [.sh (eI a_p), .sh ((e2 eI eI) a_curve), .sh ((eO (e2 eI eI)) a_u), .sh ((eO (e2 eI eI)) a_v), .sh (eI v2.1), .sh (eI v2.2), .sh (eI v3.1), .sh (eI v3.2), .no, .no]) (asg_ (fr_s (opn (e := (e2 eI eI)) ev_3 hv3)) rfl) ?_
    obtain ⟨v5, hv5, h⟩ := bnd h
    refine wp_seqW ?_
    refine ite_elim h (fun c7 h => ?_) (fun c7 h => ?_)
    · refine wp_if_t (show _ = some (v5, ([.sh (eI a_p), .sh ((e2 eI eI) a_curve), .sh ((eO (e2 eI eI)) a_u), .sh ((eO (e2 eI eI)) a_v), .sh (eI v2.1), .sh (eI v2.2), .sh (eI v3.1), .sh (eI v3.2), .no, .no] : Rho)) from ite_elim hv5 (fun c6 h => by obtain ⟨v4, hv4, h⟩ := bnd h; rw [← Option.some.inj h]; exact tan_t (tb_ (bin_s ev_4 ev_6 (eq_i _ _))) c6 (tb_ (bin_s (bin_s (bin_s ev_5 ev_7 (add_i _ _)) ev_0 (mod_t hv4)) (ec _ _) (eq_i _ _)))) (fun c6 h => by rw [← Option.some.inj h]; exact tan_f (tb_ (bin_s ev_4 ev_6 (eq_i _ _))) c6)) c7 ?_
      refine wp_ret (ec _ _) ?_
      refine qs_rt ?_
      cases h
      exact rt_i rfl rfl
    · refine wp_if_f (show _ = some (v5, ([.sh (eI a_p), .sh ((e2 eI eI) a_curve), .sh ((eO (e2 eI eI)) a_u), .sh ((eO (e2 eI eI)) a_v), .sh (eI v2.1), .sh (eI v2.2), .sh (eI v3.1), .sh (eI v3.2), .no, .no] : Rho)) from ite_elim hv5 (fun c6 h => by obtain ⟨v4, hv4, h⟩ := bnd h; rw [← Option.some.inj h]; exact tan_t (tb_ (bin_s ev_4 ev_6 (eq_i _ _))) c6 (tb_ (bin_s (bin_s (bin_s ev_5 ev_7 (add_i _ _)) ev_0 (mod_t hv4)) (ec _ _) (eq_i _ _)))) (fun c6 h => by rw [← Option.some.inj h]; exact tan_f (tb_ (bin_s ev_4 ev_6 (eq_i _ _))) c6)) c7 ?_
      refine wp_nil ?_
      refine qs_nx ?_
      refine wp_seqW (wp_join (R := (fun (s23 : Int) ρ => ρ = [.sh (eI a_p), .sh ((e2 eI eI) a_curve), .sh ((eO (e2 eI eI)) a_u), .sh ((eO (e2 eI eI)) a_v), .sh (eI v2.1), .sh (eI v2.2), .sh (eI v3.1), .sh (eI v3.2), .sh (eI s23), .no])) (fun s h => ?_) h ?_)
      · refine ite_elim h (fun c8 h => ?_) (fun c8 h => ?_)
        · refine wp_if_t (tb_ (bin_s ev_2 ev_3 (eq_e (e := (eO (e2 eI eI))) a_u a_v))) c8 ?_
          obtain ⟨v16, hv16, h⟩ := bnd h
          obtain ⟨v17, hv17, h⟩ := bnd h
          obtain ⟨v18, hv18, h⟩ := bnd h
          obtain ⟨v19, hv19, h⟩ := bnd h
          refine wp_st (ρ1 := [.sh (eI a_p), .sh ((e2 eI eI) a_curve), .sh ((eO (e2 eI eI)) a_u), .sh ((eO (e2 eI eI)) a_v), .sh (eI v2.1), .sh (eI v2.2), .sh (eI v3.1), .sh (eI v3.2), .sh (eI v19), .no]) (set_s (bin_s (bin_s (bin_s (bin_s (bin_s (ec _ _) ev_4 (mul_l _ _)) ev_4 (mul_t hv16)) (bin_s ev_1 (ec _ _) (show ixA ((e2 eI eI) a_curve) (eI 0) = some (.sh (eI a_curve.1)) from rfl)) (add_i _ _)) (fn_s (ρ2 := [.sh (eI a_p), .sh ((e2 eI eI) a_curve), .sh ((eO (e2 eI eI)) a_u), .sh ((eO (e2 eI eI)) a_v), .sh (eI v2.1), .sh (eI v2.2), .sh (eI v3.1), .sh (eI v3.2), .no, .no]) (ac_ (fr_s ev_0) (ac_ (fr_s (bin_s (ec _ _) ev_5 (mul_l _ _))) (an_ _))) rfl rfl (sim_undone_number (a_p := a_p) (a_x := (2 * v2.2)) hv17) rfl) (mul_t hv18)) ev_0 (mod_t hv19))) ?_
          cases h
          exact ⟨_, rfl, rfl⟩
        · refine wp_if_f (tb_ (bin_s ev_2 ev_3 (eq_e (e := (eO (e2 eI eI))) a_u a_v))) c8 ?_
          obtain ⟨v20, hv20, h⟩ := bnd h
          obtain ⟨v21, hv21, h⟩ := bnd h
          obtain ⟨v22, hv22, h⟩ := bnd h
          refine wp_st (ρ1 := [.sh (eI a_p), .sh ((e2 eI eI) a_curve), .sh ((eO (e2 eI eI)) a_u), .sh ((eO (e2 eI eI)) a_v), .sh (eI v2.1), .sh (eI v2.2), .sh (eI v3.1), .sh (eI v3.2), .sh (eI v22), .no]) (set_s (bin_s (bin_s (bin_s ev_7 ev_5 (sub_i _ _)) (fn_s (ρ2 := [.sh (eI a_p), .sh ((e2 eI eI) a_curve), .sh ((eO (e2 eI eI)) a_u), .sh ((eO (e2 eI eI)) a_v), .sh (eI v2.1), .sh (eI v2.2), .sh (eI v3.1), .sh (eI v3.2), .no, .no]) (ac_ (fr_s ev_0) (ac_ (fr_s (bin_s ev_6 ev_4 (sub_i _ _))) (an_ _))) rfl rfl (sim_undone_number (a_p := a_p) (a_x := (v3.1 - v2.1)) hv20) rfl) (mul_t hv21)) ev_0 (mod_t hv22))) ?_
          cases h
          exact ⟨_, rfl, rfl⟩
      · intro s23 ρ hR h
        obtain rfl := hR
        refine qs_nx ?_
        obtain ⟨v24, hv24, h⟩ := bnd h
        obtain ⟨v25, hv25, h⟩ := bnd h
        refine wp_seq (ρ1 := [.sh (eI a_p), .sh ((e2 eI eI) a_curve), .sh ((eO (e2 eI eI)) a_u), .sh ((eO (e2 eI eI)) a_v), .sh (eI v2.1), .sh (eI v2.2), .sh (eI v3.1), .sh (eI v3.2), .sh (eI s23), .sh (eI v25)]) (set_s (bin_s (bin_s (bin_s (bin_s ev_8 ev_8 (mul_t hv24)) ev_4 (sub_i _ _)) ev_6 (sub_i _ _)) ev_0 (mod_t hv25))) ?_
        obtain ⟨v26, hv26, h⟩ := bnd h
        obtain ⟨v27, hv27, h⟩ := bnd h
        refine wp_ret (tup_ (ac_ (fr_s ev_9) (ac_ (fr_s (bin_s (bin_s (bin_s ev_8 (bin_s ev_4 ev_9 (sub_i _ _)) (mul_t hv26)) ev_5 (sub_i _ _)) ev_0 (mod_t hv27))) (an_ _))) rfl (few' rfl)) ?_
        cases h
        exact rt_i rfl rfl
/-! order_of_point -/
def t_order_of_point (a_p : Int) (a_curve : (Int × Int)) (a_u : (Option (Int × Int))) : Option Int :=
whileB (r := Int) (fun (s1 : (Int × (Option (Int × Int)))) => some (!Option.isNone s1.2)) (fun (s1 : (Int × (Option (Int × Int)))) => (t_added_points a_p a_curve s1.2 a_u).bind fun v2 =>
(some (s1.1 + 1)).bind fun x3 =>
some (.nx (x3, v2))) 1048576 (1, a_u) (fun (s4 : (Int × (Option (Int × Int)))) => some s4.1) (fun x => some x)
theorem sim_order_of_point {a_p : Int} {a_curve : (Int × Int)} {a_u : (Option (Int × Int))} {r : Int} (h : t_order_of_point a_p a_curve a_u = some r) : F_order_of_point [.sh (eI a_p), .sh ((e2 eI eI) a_curve), .sh ((eO (e2 eI eI)) a_u)] = some (.sh (eI r), [.sh (eI a_p), .sh ((e2 eI eI) a_curve), .sh ((eO (e2 eI eI)) a_u)]) := by
  unfold t_order_of_point at h
  refine run_wp rfl (fun i => by intro z; cases z) ?_
  show Wp (g_order_of_point [.sh (eI a_p), .sh ((e2 eI eI) a_curve), .sh ((eO (e2 eI eI)) a_u), .no, .no]) _
  unfold g_order_of_point
  refine wp_seq (ρ1 := [.sh (eI a_p), .sh ((e2 eI eI) a_curve), .sh ((eO (e2 eI eI)) a_u), .sh (eI 1), .no]) (set_s (ec _ _)) ?_
  refine wp_seq (ρ1 := [.sh (eI a_p), .sh ((e2 eI eI) a_curve), .sh ((eO (e2 eI eI)) a_u), .sh (eI 1), .sh ((eO (e2 eI eI)) a_u)]) (set_s (pk_s (cp_s ev_2))) ?_
  refine wp_seqW (wp_while (R := (fun (s1 : (Int × (Option (Int × Int)))) ρ => ρ = [.sh (eI a_p), .sh ((e2 eI eI) a_curve), .sh ((eO (e2 eI eI)) a_u), .sh (eI s1.1), .sh ((eO (e2 eI eI)) s1.2)])) (Qr := fun (x : Int) => Rt [.sh (eI a_p), .sh ((e2 eI eI) a_curve), .sh ((eO (e2 eI eI)) a_u)] [] (.sh (eI x)) [.sh (eI a_p), .sh ((e2 eI eI) a_curve), .sh ((eO (e2 eI eI)) a_u)]) (s0 := (1, a_u)) rfl (fun s1 ρ k hR h => ?_) (fun s1 s' ρ hR hc h => ?_) h ?_ (fun x rv ρ hk hq => by cases hk; exact hq))
  · obtain rfl := hR
    rw [← Option.some.inj h]
    exact ⟨[.sh (eI a_p), .sh ((e2 eI eI) a_curve), .sh ((eO (e2 eI eI)) a_u), .sh (eI s1.1), .sh ((eO (e2 eI eI)) s1.2)], (tb_ (bin_s ev_4 (ec _ _) (notndx_e (e := (e2 eI eI)) s1.2))), rfl⟩
  · obtain rfl := hR
    obtain ⟨v2, hv2, h⟩ := bnd h
    refine wp_seq (ρ1 := [.sh (eI a_p), .sh ((e2 eI eI) a_curve), .sh ((eO (e2 eI eI)) a_u), .sh (eI s1.1), .sh ((eO (e2 eI eI)) v2)]) (set_s (pk_s (fn_s (ρ2 := [.sh (eI a_p), .sh ((e2 eI eI) a_curve), .sh ((eO (e2 eI eI)) a_u), .sh (eI s1.1), .sh ((eO (e2 eI eI)) s1.2)]) (ac_ (fr_s ev_0) (ac_ (fr_s ev_1) (ac_ (fr_s ev_4) (ac_ (fr_s ev_2) (an_ _))))) rfl rfl (sim_added_points (a_p := a_p) (a_curve := a_curve) (a_u := s1.2) (a_v := a_u) hv2) rfl))) ?_
    obtain ⟨x3, hx3, h⟩ := bnd h
    refine wp_st (ρ1 := [.sh (eI a_p), .sh ((e2 eI eI) a_curve), .sh ((eO (e2 eI eI)) a_u), .sh (eI x3), .sh ((eO (e2 eI eI)) v2)]) (by rw [← Option.some.inj hx3]; exact (aug_ rfl (pk_s (ec _ _)) rfl (iadd_i _ _))) ?_
    cases h
    exact pb_nx rfl
  · intro s4 ρ hR h
    obtain rfl := hR
    refine qs_nx ?_
    refine wp_ret (fr_s ev_3) ?_
    cases h
    exact rt_i rfl rfl
/-! group_of_curve -/
def t_group_of_curve (a_p : Int) (a_curve : (Int × Int)) : Option (List Int) :=
(t_points_of a_p a_curve).bind fun v1 =>
(szO (mapO (fun (x3 : (Option (Int × Int))) => (t_order_of_point a_p a_curve x3).bind fun v4 => some v4) v1)).bind fun y5 =>
(maxO eI y5).bind fun v6 =>
(divO (List.length v1 : Int) v6).bind fun v8 =>
(szO (lcO (fun (x9 : Int) => if (decide (1 < x9)) = true then (some (some x9)) else some none) [v8, v6])).bind fun y10 =>
some y10
theorem sim_group_of_curve {a_p : Int} {a_curve : (Int × Int)} {r : (List Int)} (h : t_group_of_curve a_p a_curve = some r) : F_group_of_curve [.sh (eI a_p), .sh ((e2 eI eI) a_curve)] = some (.sh ((eT eI) r), [.sh (eI a_p), .sh ((e2 eI eI) a_curve)]) := by
  unfold t_group_of_curve at h
  refine run_wp rfl (fun i => by intro z; cases z) ?_
  show Wp (g_group_of_curve [.sh (eI a_p), .sh ((e2 eI eI) a_curve), .no, .no, .no, .no]) _
  unfold g_group_of_curve
  obtain ⟨v1, hv1, h⟩ := bnd h
  refine wp_seq (ρ1 := [.sh (eI a_p), .sh ((e2 eI eI) a_curve), .sh ((eT (eO (e2 eI eI))) v1), .no, .no, .no]) (set_s (pk_s (fn_s (ρ2 := [.sh (eI a_p), .sh ((e2 eI eI) a_curve), .no, .no, .no, .no]) (ac_ (fr_s ev_0) (ac_ (fr_s ev_1) (an_ _))) rfl rfl (sim_points_of (a_p := a_p) (a_curve := a_curve) hv1) rfl))) ?_
  obtain ⟨y5, hy5, h⟩ := bnd h
  obtain ⟨v6, hv6, h⟩ := bnd h
  refine wp_seq (ρ1 := [.sh (eI a_p), .sh ((e2 eI eI) a_curve), .sh ((eT (eO (e2 eI eI))) v1), .sh (eI v6), .no, .no]) (set_s (pk_s (call_s (ac_ (lm_ (W := [.sh (eI a_p), .sh ((e2 eI eI) a_curve), .sh ((eT (eO (e2 eI eI))) v1), .no, .no, .no]) (e := (eO (e2 eI eI))) (e' := eI) (iseq_t (e := (eO (e2 eI eI))) (fr_s ev_2)) rfl rfl (fun x3 _ _ h => by obtain ⟨v4, hv4, h⟩ := bnd h; rw [← Option.some.inj h]; exact ⟨[.sh (eI a_p), .sh ((e2 eI eI) a_curve), .sh ((eT (eO (e2 eI eI))) v1), .no, .sh ((eO (e2 eI eI)) x3), .no], [.sh (eI a_p), .sh ((e2 eI eI) a_curve), .sh ((eT (eO (e2 eI eI))) v1), .no, .sh ((eO (e2 eI eI)) x3), .no], rfl, (fr_s (fn_s (ρ2 := [.sh (eI a_p), .sh ((e2 eI eI) a_curve), .sh ((eT (eO (e2 eI eI))) v1), .no, .sh ((eO (e2 eI eI)) x3), .no]) (ac_ (fr_s ev_0) (ac_ (fr_s ev_1) (ac_ (fr_s ev_4) (an_ _)))) rfl rfl (sim_order_of_point (a_p := a_p) (a_curve := a_curve) (a_u := x3) hv4) rfl)), rfl⟩) hy5) (an_ _)) rfl (maxL_e hv6)))) ?_
  obtain ⟨v8, hv8, h⟩ := bnd h
  obtain ⟨y10, hy10, h⟩ := bnd h
  refine wp_ret (fr_s (call_s (ac_ (lc_ (W := [.sh (eI a_p), .sh ((e2 eI eI) a_curve), .sh ((eT (eO (e2 eI eI))) v1), .sh (eI v6), .no, .no]) (e := eI) (e' := eI) (iseq_t (e := eI) (fr_s (tup_ (ac_ (fr_s (bin_s (call_s (ac_ ev_2 (an_ _)) rfl (lenT_e (e := (eO (e2 eI eI))) v1)) ev_3 (div_t hv8))) (ac_ (fr_s ev_3) (an_ _))) rfl (few' rfl)))) rfl rfl (fun x9 _ _ h => by exact ite_elim h (fun c7 h => by rw [← Option.some.inj h]; exact ⟨[.sh (eI a_p), .sh ((e2 eI eI) a_curve), .sh ((eT (eO (e2 eI eI))) v1), .sh (eI v6), .no, .sh (eI x9)], rfl, _, _, tcong (tb_ (bin_s ev_5 (ec _ _) (cmp_i _ _ _))) c7, (fr_s ev_5), rfl⟩) (fun c7 h => by rw [← Option.some.inj h]; exact ⟨[.sh (eI a_p), .sh ((e2 eI eI) a_curve), .sh ((eT (eO (e2 eI eI))) v1), .sh (eI v6), .no, .sh (eI x9)], rfl, _, tcong (tb_ (bin_s ev_5 (ec _ _) (cmp_i _ _ _))) c7, rfl⟩)) hy10) (an_ _)) rfl (tupL_e (e := eI) y10))) ?_
  cases h
  exact rt_i rfl rfl
/-! _law_plain -/
def t__law_plain : Nat → Dv → Option Bool
  | 0, _ => none
  | fuel + 1, a_thing =>
    (isiO "tuple" a_thing).bind fun v1 =>
    if v1 = true then ((itemsO a_thing).bind fun v4 =>
    (szO (lcO (fun (x5 : Dv) => (t__law_plain fuel x5).bind fun v6 => if (!v6) = true then (some (some x5)) else some none) v4)).bind fun y7 =>
    (eqD ((eL eA) y7) ((eL eA) [])).bind fun v8 =>
    some (v8)) else (((if (isNone a_thing) = true then some true else ((isiO "int" a_thing).bind fun v9 => ((if v9 = true then ((isiO "bool" a_thing).bind fun v10 => some (!v10)) else some false)).bind fun v11 => some v11))).bind fun v13 =>
    some v13)
theorem sim__law_plain : ∀ {fuel : Nat} {a_thing : Dv} {r : Bool} (h : t__law_plain fuel a_thing = some r), F__law_plain fuel [.sh (eA a_thing)] = some (.sh (eB r), [.sh (eA a_thing)])
  | 0, _, _, h => by cases h
  | fuel + 1, a_thing, r, h => by
    unfold t__law_plain at h
    refine run_wp rfl (fun i => by intro z; cases z) ?_
    show Wp (g__law_plain (F__law_plain fuel) [.sh (eA a_thing), .no]) _
    unfold g__law_plain
    obtain ⟨v1, hv1, h⟩ := bnd h
    refine wp_seqW ?_
    refine ite_elim h (fun c2 h => ?_) (fun c2 h => ?_)
    · refine wp_if_t (tv_ (pk_s (un_gs ev_0 rfl (isi_a hv1))) rfl (tru_b _)) c2 ?_
      obtain ⟨v4, hv4, h⟩ := bnd h
      obtain ⟨y7, hy7, h⟩ := bnd h
      obtain ⟨v8, hv8, h⟩ := bnd h
      refine wp_ret (bin_gs (pk_o (lc_ (W := [.sh (eA a_thing), .no]) (e := eA) (e' := eA) (iseq_a (fr_s ev_0) hv4) rfl rfl (fun x5 _ _ h => by obtain ⟨v6, hv6, h⟩ := bnd h; exact ite_elim h (fun c3 h => by rw [← Option.some.inj h]; exact ⟨[.sh (eA a_thing), .sh (eA x5)], rfl, _, _, tcong (tno_ (tv_ (pk_s (fn_s (ρ2 := [.sh (eA a_thing), .sh (eA x5)]) (ac_ (fr_s ev_1) (an_ _)) rfl rfl (sim__law_plain (a_thing := x5) hv6) rfl)) rfl (tru_b _))) c3, (fr_s ev_1), rfl⟩) (fun c3 h => by rw [← Option.some.inj h]; exact ⟨[.sh (eA a_thing), .sh (eA x5)], rfl, _, tcong (tno_ (tv_ (pk_s (fn_s (ρ2 := [.sh (eA a_thing), .sh (eA x5)]) (ac_ (fr_s ev_1) (an_ _)) rfl rfl (sim__law_plain (a_thing := x5) hv6) rfl)) rfl (tru_b _))) c3, rfl⟩)) hy7)) (pk_o (lst_ (an_ _) rfl (few' rfl))) rfl rfl (eq_a hv8)) ?_
      refine qs_rt ?_
      cases h
      exact rt_i rfl rfl
    · refine wp_if_f (tv_ (pk_s (un_gs ev_0 rfl (isi_a hv1))) rfl (tru_b _)) c2 ?_
      refine wp_nil ?_
      refine qs_nx ?_
      obtain ⟨v13, hv13, h⟩ := bnd h
      refine wp_ret (fr_s (show _ = some (Rv.sh (eB v13), ([.sh (eA a_thing), .no] : Rho)) from ite_elim hv13 (fun c14 h => by rw [← Option.some.inj h]; exact eor_tb (bin_s ev_0 (ec _ _) (isndx_a _)) c14) (fun c14 h => by obtain ⟨v9, hv9, h⟩ := bnd h; obtain ⟨v11, hv11, h⟩ := bnd h; rw [← Option.some.inj h]; exact eor_f (pk_s (bin_s ev_0 (ec _ _) (isndx_a _))) rfl rfl c14 (show _ = some (Rv.sh (eB v11), ([.sh (eA a_thing), .no] : Rho)) from ite_elim hv11 (fun c12 h => by obtain ⟨v10, hv10, h⟩ := bnd h; rw [← Option.some.inj h]; exact eand_t (pk_s (un_gs ev_0 rfl (isi_a hv9))) rfl rfl c12 (enot_ (pk_s (un_gs ev_0 rfl (isi_a hv10))) rfl (tru_b _))) (fun c12 h => by rw [← Option.some.inj h]; exact eand_fb (un_gs ev_0 rfl (isi_a hv9)) c12))))) ?_
      cases h
      exact rt_i rfl rfl
/-! _law_over -/
def t__law_over (a_p : Int) (a_a : Int) (a_b : Int) : Option Int :=
(rngO1 a_p).bind fun r2 =>
(szO (lcO (fun (x3 : Int) => (mulO x3 a_b).bind fun v4 => (modO (v4 - a_a) a_p).bind fun v5 => if (decide (v5 = 0)) = true then (some (some x3)) else some none) r2)).bind fun y6 =>
(atI y6 0).bind fun v7 =>
some v7
theorem sim__law_over {a_p : Int} {a_a : Int} {a_b : Int} {r : Int} (h : t__law_over a_p a_a a_b = some r) : F__law_over [.sh (eI a_p), .sh (eI a_a), .sh (eI a_b)] = some (.sh (eI r), [.sh (eI a_p), .sh (eI a_a), .sh (eI a_b)]) := by
  unfold t__law_over at h
  refine run_wp rfl (fun i => by intro z; cases z) ?_
  show Wp (g__law_over [.sh (eI a_p), .sh (eI a_a), .sh (eI a_b), .no]) _
  unfold g__law_over
  obtain ⟨r2, hr2, h⟩ := bnd h
  obtain ⟨y6, hy6, h⟩ := bnd h
  obtain ⟨v7, hv7, h⟩ := bnd h
  refine wp_ret (fr_s (bin_gs (pk_o (lc_ (W := [.sh (eI a_p), .sh (eI a_a), .sh (eI a_b), .no]) (e := eI) (e' := eI) (irng_ (e := eI) (ac_ ev_0 (an_ _)) rfl (rng1_t hr2)) rfl rfl (fun x3 _ _ h => by obtain ⟨v4, hv4, h⟩ := bnd h; obtain ⟨v5, hv5, h⟩ := bnd h; exact ite_elim h (fun c1 h => by rw [← Option.some.inj h]; exact ⟨[.sh (eI a_p), .sh (eI a_a), .sh (eI a_b), .sh (eI x3)], rfl, _, _, tcong (tb_ (bin_s (bin_s (call_s (ac_ (bin_s (bin_s ev_3 ev_2 (mul_t hv4)) ev_1 (sub_i _ _)) (an_ _)) rfl (int_i _)) ev_0 (mod_t hv5)) (ec _ _) (eq_i _ _))) c1, (fr_s ev_3), rfl⟩) (fun c1 h => by rw [← Option.some.inj h]; exact ⟨[.sh (eI a_p), .sh (eI a_a), .sh (eI a_b), .sh (eI x3)], rfl, _, tcong (tb_ (bin_s (bin_s (call_s (ac_ (bin_s (bin_s ev_3 ev_2 (mul_t hv4)) ev_1 (sub_i _ _)) (an_ _)) rfl (int_i _)) ev_0 (mod_t hv5)) (ec _ _) (eq_i _ _))) c1, rfl⟩)) hy6)) (pk_s (ec _ _)) rfl rfl (ixl_e (e := eI) hv7))) ?_
  cases h
  exact rt_i rfl rfl
/-! _law_added -/
def t__law_added (a_p : Int) (a_curve : (Int × Int)) (a_u : (Option (Int × Int))) (a_v : (Option (Int × Int))) : Option (Option (Int × Int)) :=
if ((Option.isNone a_u) || (Option.isNone a_v)) = true then (some (if (Option.isNone a_u) = true then a_v else a_u)) else ((a_u).bind fun v2 =>
(a_v).bind fun v3 =>
((if (decide (v2.1 = v3.1)) = true then ((a_u).bind fun v4 => (a_v).bind fun v5 => (modO (v4.2 + v5.2) a_p).bind fun v6 => some (decide (v6 = 0))) else some false)).bind fun v7 =>
if v7 = true then (some none) else ((if (eqE (eO (e2 eI eI)) a_u a_v) = true then ((a_u).bind fun v23 =>
(a_u).bind fun v24 =>
(mulO (3 * v23.1) v24.1).bind fun v25 =>
(modO (v25 + a_curve.1) a_p).bind fun v26 =>
(a_u).bind fun v27 =>
(t__law_over a_p v26 (2 * v27.2)).bind fun v28 =>
some v28) else ((a_v).bind fun v29 =>
(a_u).bind fun v30 =>
(modO (v29.2 - v30.2) a_p).bind fun v31 =>
(a_v).bind fun v32 =>
(a_u).bind fun v33 =>
(t__law_over a_p v31 (v32.1 - v33.1)).bind fun v34 =>
some v34)).bind fun s35 =>
(mulO s35 s35).bind fun v36 =>
(a_u).bind fun v37 =>
(a_v).bind fun v38 =>
(modO ((v36 - v37.1) - v38.1) a_p).bind fun v39 =>
(a_u).bind fun v40 =>
(mulO s35 (v40.1 - v39)).bind fun v41 =>
(a_u).bind fun v42 =>
(modO (v41 - v42.2) a_p).bind fun v43 =>
some (some (v39, v43))))
theorem sim__law_added {a_p : Int} {a_curve : (Int × Int)} {a_u : (Option (Int × Int))} {a_v : (Option (Int × Int))} {r : (Option (Int × Int))} (h : t__law_added a_p a_curve a_u a_v = some r) : F__law_added [.sh (eI a_p), .sh ((e2 eI eI) a_curve), .sh ((eO (e2 eI eI)) a_u), .sh ((eO (e2 eI eI)) a_v)] = some (.sh ((eO (e2 eI eI)) r), [.sh (eI a_p), .sh ((e2 eI eI) a_curve), .sh ((eO (e2 eI eI)) a_u), .sh ((eO (e2 eI eI)) a_v)]) := by
  unfold t__law_added at h
  refine run_wp rfl (fun i => by intro z; cases z) ?_
  show Wp (g__law_added [.sh (eI a_p), .sh ((e2 eI eI) a_curve), .sh ((eO (e2 eI eI)) a_u), .sh ((eO (e2 eI eI)) a_v), .no, .no]) _
  unfold g__law_added
  refine wp_seqW ?_
  refine ite_elim h (fun c1 h => ?_) (fun c1 h => ?_)
  · refine wp_if_t (tor_ (tb_ (bin_s ev_2 (ec _ _) (isndx_e (e := (e2 eI eI)) a_u))) (tb_ (bin_s ev_3 (ec _ _) (isndx_e (e := (e2 eI eI)) a_v)))) c1 ?_
    refine wp_ret (fr_s (eif_e (e := (eO (e2 eI eI))) (x := a_v) (y := a_u) (tb_ (bin_s ev_2 (ec _ _) (isndx_e (e := (e2 eI eI)) a_u))) (fr_s ev_3) (fr_s ev_2))) ?_
    refine qs_rt ?_
    cases h
    exact rt_i rfl rfl
  · refine wp_if_f (tor_ (tb_ (bin_s ev_2 (ec _ _) (isndx_e (e := (e2 eI eI)) a_u))) (tb_ (bin_s ev_3 (ec _ _) (isndx_e (e := (e2 eI eI)) a_v)))) c1 ?_
    refine wp_nil ?_
    refine qs_nx ?_
    obtain ⟨v2, hv2, h⟩ := bnd h
    obtain ⟨v3, hv3, h⟩ := bnd h
    obtain ⟨v7, hv7, h⟩ := bnd h
    refine wp_seqW ?_
    refine ite_elim h (fun c9 h => ?_) (fun c9 h => ?_)
    · refine wp_if_t (show _ = some (v7, ([.sh (eI a_p), .sh ((e2 eI eI) a_curve), .sh ((eO (e2 eI eI)) a_u), .sh ((eO (e2 eI eI)) a_v), .no, .no] : Rho)) from ite_elim hv7 (fun c8 h => by obtain ⟨v4, hv4, h⟩ := bnd h; obtain ⟨v5, hv5, h⟩ := bnd h; obtain ⟨v6, hv6, h⟩ := bnd h; rw [← Option.some.inj h]; exact tan_t (tb_ (bin_s (bin_s (opn (e := (e2 eI eI)) ev_2 hv2) (ec _ _) (show ixA ((e2 eI eI) v2) (eI 0) = some (.sh (eI v2.1)) from rfl)) (bin_s (opn (e := (e2 eI eI)) ev_3 hv3) (ec _ _) (show ixA ((e2 eI eI) v3) (eI 0) = some (.sh (eI v3.1)) from rfl)) (eq_i _ _))) c8 (tb_ (bin_s (bin_s (call_s (ac_ (bin_s (bin_s (opn (e := (e2 eI eI)) ev_2 hv4) (ec _ _) (show ixA ((e2 eI eI) v4) (eI 1) = some (.sh (eI v4.2)) from rfl)) (bin_s (opn (e := (e2 eI eI)) ev_3 hv5) (ec _ _) (show ixA ((e2 eI eI) v5) (eI 1) = some (.sh (eI v5.2)) from rfl)) (add_i _ _)) (an_ _)) rfl (int_i _)) ev_0 (mod_t hv6)) (ec _ _) (eq_i _ _)))) (fun c8 h => by rw [← Option.some.inj h]; exact tan_f (tb_ (bin_s (bin_s (opn (e := (e2 eI eI)) ev_2 hv2) (ec _ _) (show ixA ((e2 eI eI) v2) (eI 0) = some (.sh (eI v2.1)) from rfl)) (bin_s (opn (e := (e2 eI eI)) ev_3 hv3) (ec _ _) (show ixA ((e2 eI eI) v3) (eI 0) = some (.sh (eI v3.1)) from rfl)) (eq_i _ _))) c8)) c9 ?_
      refine wp_ret (ec _ _) ?_
      refine qs_rt ?_
      cases h
      exact rt_i rfl rfl
    · refine wp_if_f (show _ = some (v7, ([.sh (eI a_p), .sh ((e2 eI eI) a_curve), .sh ((eO (e2 eI eI)) a_u), .sh ((eO (e2 eI eI)) a_v), .no, .no] : Rho)) from ite_elim hv7 (fun c8 h => by obtain ⟨v4, hv4, h⟩ := bnd h; obtain ⟨v5, hv5, h⟩ := bnd h; obtain ⟨v6, hv6, h⟩ := bnd h; rw [← Option.some.inj h]; exact tan_t (tb_ (bin_s (bin_s (opn (e := (e2 eI eI)) ev_2 hv2) (ec _ _) (show ixA ((e2 eI eI) v2) (eI 0) = some (.sh (eI v2.1)) from rfl)) (bin_s (opn (e := (e2 eI eI)) ev_3 hv3) (ec _ _) (show ixA ((e2 eI eI) v3) (eI 0) = some (.sh (eI v3.1)) from rfl)) (eq_i _ _))) c8 (tb_ (bin_s (bin_s (call_s (ac_ (bin_s (bin_s (opn (e := (e2 eI eI)) ev_2 hv4) (ec _ _) (show ixA ((e2 eI eI) v4) (eI 1) = some (.sh (eI v4.2)) from rfl)) (bin_s (opn (e := (e2 eI eI)) ev_3 hv5) (ec _ _) (show ixA ((e2 eI eI) v5) (eI 1) = some (.sh (eI v5.2)) from rfl)) (add_i _ _)) (an_ _)) rfl (int_i _)) ev_0 (mod_t hv6)) (ec _ _) (eq_i _ _)))) (fun c8 h => by rw [← Option.some.inj h]; exact tan_f (tb_ (bin_s (bin_s (opn (e := (e2 eI eI)) ev_2 hv2) (ec _ _) (show ixA ((e2 eI eI) v2) (eI 0) = some (.sh (eI v2.1)) from rfl)) (bin_s (opn (e := (e2 eI eI)) ev_3 hv3) (ec _ _) (show ixA ((e2 eI eI) v3) (eI 0) = some (.sh (eI v3.1)) from rfl)) (eq_i _ _))) c8)) c9 ?_
      refine wp_nil ?_
      refine qs_nx ?_
      refine wp_seqW (wp_join (R := (fun (s35 : Int) ρ => ρ = [.sh (eI a_p), .sh ((e2 eI eI) a_curve), .sh ((eO (e2 eI eI)) a_u), .sh ((eO (e2 eI eI)) a_v), .sh (eI s35), .no])) (fun s h => ?_) h ?_)
      · refine ite_elim h (fun c10 h => ?_) (fun c10 h => ?_)
        · refine wp_if_t (tb_ (bin_s ev_2 ev_3 (eq_e (e := (eO (e2 eI eI))) a_u a_v))) c10 ?_
          obtain ⟨v23, hv23, h⟩ := bnd h
          obtain ⟨v24, hv24, h⟩ := bnd h
          obtain ⟨v25, hv25, h⟩ := bnd h
          obtain ⟨v26, hv26, h⟩ := bnd h
          obtain ⟨v27, hv27, h⟩ := bnd h
          obtain ⟨v28, hv28, h⟩ := bnd h
          refine wp_st (ρ1 := [.sh (eI a_p), .sh ((e2 eI eI) a_curve), .sh ((eO (e2 eI eI)) a_u), .sh ((eO (e2 eI eI)) a_v), .sh (eI v28), .no]) (set_s (pk_s (fn_s (ρ2 := [.sh (eI a_p), .sh ((e2 eI eI) a_curve), .sh ((eO (e2 eI eI)) a_u), .sh ((eO (e2 eI eI)) a_v), .no, .no]) (ac_ (fr_s ev_0) (ac_ (fr_s (bin_s (call_s (ac_ (bin_s (bin_s (bin_s (ec _ _) (bin_s (opn (e := (e2 eI eI)) ev_2 hv23) (ec _ _) (show ixA ((e2 eI eI) v23) (eI 0) = some (.sh (eI v23.1)) from rfl)) (mul_l _ _)) (bin_s (opn (e := (e2 eI eI)) ev_2 hv24) (ec _ _) (show ixA ((e2 eI eI) v24) (eI 0) = some (.sh (eI v24.1)) from rfl)) (mul_t hv25)) (bin_s ev_1 (ec _ _) (show ixA ((e2 eI eI) a_curve) (eI 0) = some (.sh (eI a_curve.1)) from rfl)) (add_i _ _)) (an_ _)) rfl (int_i _)) ev_0 (mod_t hv26))) (ac_ (fr_s (bin_s (ec _ _) (bin_s (opn (e := (e2 eI eI)) ev_2 hv27) (ec _ _) (show ixA ((e2 eI eI) v27) (eI 1) = some (.sh (eI v27.2)) from rfl)) (mul_l _ _))) (an_ _)))) rfl rfl (sim__law_over (a_p := a_p) (a_a := v26) (a_b := (2 * v27.2)) hv28) rfl))) ?_
          cases h
          exact ⟨_, rfl, rfl⟩
        · refine wp_if_f (tb_ (bin_s ev_2 ev_3 (eq_e (e := (eO (e2 eI eI))) a_u a_v))) c10 ?_
          obtain ⟨v29, hv29, h⟩ := bnd h
          obtain ⟨v30, hv30, h⟩ := bnd h
          obtain ⟨v31, hv31, h⟩ := bnd h
          obtain ⟨v32, hv32, h⟩ := bnd h
          obtain ⟨v33, hv33, h⟩ := bnd h
          obtain ⟨v34, hv34, h⟩ := bnd h
          refine wp_st (ρ1 := [.sh (eI a_p), .sh ((e2 eI eI) a_curve), .sh ((eO (e2 eI eI)) a_u), .sh ((eO (e2 eI eI)) a_v), .sh (eI v34), .no]) (set_s (pk_s (fn_s (ρ2 := [.sh (eI a_p), .sh ((e2 eI eI) a_curve), .sh ((eO (e2 eI eI)) a_u), .sh ((eO (e2 eI eI)) a_v), .no, .no]) (ac_ (fr_s ev_0) (ac_ (fr_s (bin_s (call_s (ac_ (bin_s (bin_s (opn (e := (e2 eI eI)) ev_3 hv29) (ec _ _) (show ixA ((e2 eI eI) v29) (eI 1) = some (.sh (eI v29.2)) from rfl)) (bin_s (opn (e := (e2 eI eI)) ev_2 hv30) (ec _ _) (show ixA ((e2 eI eI) v30) (eI 1) = some (.sh (eI v30.2)) from rfl)) (sub_i _ _)) (an_ _)) rfl (int_i _)) ev_0 (mod_t hv31))) (ac_ (fr_s (bin_s (bin_s (opn (e := (e2 eI eI)) ev_3 hv32) (ec _ _) (show ixA ((e2 eI eI) v32) (eI 0) = some (.sh (eI v32.1)) from rfl)) (bin_s (opn (e := (e2 eI eI)) ev_2 hv33) (ec _ _) (show ixA ((e2 eI eI) v33) (eI 0) = some (.sh (eI v33.1)) from rfl)) (sub_i _ _))) (an_ _)))) rfl rfl (sim__law_over (a_p := a_p) (a_a := v31) (a_b := (v32.1 - v33.1)) hv34) rfl))) ?_
          cases h
          exact ⟨_, rfl, rfl⟩
      · intro s35 ρ hR h
        obtain rfl := hR
        refine qs_nx ?_
        obtain ⟨v36, hv36, h⟩ := bnd h
        obtain ⟨v37, hv37, h⟩ := bnd h
        obtain ⟨v38, hv38, h⟩ := bnd h
        obtain ⟨v39, hv39, h⟩ := bnd h
        refine wp_seq (ρ1 := [.sh (eI a_p), .sh ((e2 eI eI) a_curve), .sh ((eO (e2 eI eI)) a_u), .sh ((eO (e2 eI eI)) a_v), .sh (eI s35), .sh (eI v39)]) (set_s (bin_s (call_s (ac_ (bin_s (bin_s (bin_s ev_4 ev_4 (mul_t hv36)) (bin_s (opn (e := (e2 eI eI)) ev_2 hv37) (ec _ _) (show ixA ((e2 eI eI) v37) (eI 0) = some (.sh (eI v37.1)) from rfl)) (sub_i _ _)) (bin_s (opn (e := (e2 eI eI)) ev_3 hv38) (ec _ _) (show ixA ((e2 eI eI) v38) (eI 0) = some (.sh (eI v38.1)) from rfl)) (sub_i _ _)) (an_ _)) rfl (int_i _)) ev_0 (mod_t hv39))) ?_
        obtain ⟨v40, hv40, h⟩ := bnd h
        obtain ⟨v41, hv41, h⟩ := bnd h
        obtain ⟨v42, hv42, h⟩ := bnd h
        obtain ⟨v43, hv43, h⟩ := bnd h
        refine wp_ret (tup_ (ac_ (fr_s ev_5) (ac_ (fr_s (bin_s (call_s (ac_ (bin_s (bin_s ev_4 (bin_s (bin_s (opn (e := (e2 eI eI)) ev_2 hv40) (ec _ _) (show ixA ((e2 eI eI) v40) (eI 0) = some (.sh (eI v40.1)) from rfl)) ev_5 (sub_i _ _)) (mul_t hv41)) (bin_s (opn (e := (e2 eI eI)) ev_2 hv42) (ec _ _) (show ixA ((e2 eI eI) v42) (eI 1) = some (.sh (eI v42.2)) from rfl)) (sub_i _ _)) (an_ _)) rfl (int_i _)) ev_0 (mod_t hv43))) (an_ _))) rfl (few' rfl)) ?_
        cases h
        exact rt_i rfl rfl
/-! _law_multiples -/
def t__law_multiples (a_p : Int) (a_curve : (Int × Int)) (a_u : (Option (Int × Int))) : Option (List (Option (Int × Int))) :=
(rngO1 ((2 * a_p) + 9)).bind fun r1 =>
forB (fun (x5 : Int) (s2 : (List (Option (Int × Int)))) => (atI s2 (-1)).bind fun v6 =>
(t__law_added a_p a_curve v6 a_u).bind fun v7 =>
if (Option.isNone v7) = true then (some (.bk s2)) else ((pushO s2 v7).bind fun v9 =>
some (.nx v9))) r1 [none] (fun (s10 : (List (Option (Int × Int)))) => some s10) (fun x => some x)
theorem sim__law_multiples {a_p : Int} {a_curve : (Int × Int)} {a_u : (Option (Int × Int))} {r : (List (Option (Int × Int)))} (h : t__law_multiples a_p a_curve a_u = some r) : F__law_multiples [.sh (eI a_p), .sh ((e2 eI eI) a_curve), .sh ((eO (e2 eI eI)) a_u)] = some (.sh ((eL (eO (e2 eI eI))) r), [.sh (eI a_p), .sh ((e2 eI eI) a_curve), .sh ((eO (e2 eI eI)) a_u)]) := by
  unfold t__law_multiples at h
  refine run_wp rfl (fun i => by intro z; cases z) ?_
  show Wp (g__law_multiples [.sh (eI a_p), .sh ((e2 eI eI) a_curve), .sh ((eO (e2 eI eI)) a_u), .no, .no, .no]) _
  unfold g__law_multiples
  refine wp_seq (ρ1 := [.sh (eI a_p), .sh ((e2 eI eI) a_curve), .sh ((eO (e2 eI eI)) a_u), .ow (.lst (List.map (eO (e2 eI eI)) [none])), .no, .no]) (set_o (lst_ (ac_ (ec _ _) (an_ _)) rfl (few' rfl))) ?_
  obtain ⟨r1, hr1, h⟩ := bnd h
  refine wp_seqW (wp_for (R := (fun (s2 : (List (Option (Int × Int)))) ρ => ∃ j3 j4, ρ = [.sh (eI a_p), .sh ((e2 eI eI) a_curve), .sh ((eO (e2 eI eI)) a_u), .ow (.lst (List.map (eO (e2 eI eI)) s2)), j3, j4])) (Qr := fun (x : (List (Option (Int × Int)))) => Rt [.sh (eI a_p), .sh ((e2 eI eI) a_curve), .sh ((eO (e2 eI eI)) a_u)] [] (.sh ((eL (eO (e2 eI eI))) x)) [.sh (eI a_p), .sh ((e2 eI eI) a_curve), .sh ((eO (e2 eI eI)) a_u)]) (e := eI) (s0 := [none]) (irng_ (e := eI) (ac_ (bin_s (bin_s (ec _ _) ev_0 (mul_l _ _)) (ec _ _) (add_i _ _)) (an_ _)) rfl (rng1_t hr1)) ⟨_, _, rfl⟩ (fun x5 s2 s' ρ hx hR h => ?_) h ?_ (fun x rv ρ hk hq => by cases hk; exact hq))
  · obtain ⟨j3, j4, rfl⟩ := hR
    refine ⟨[.sh (eI a_p), .sh ((e2 eI eI) a_curve), .sh ((eO (e2 eI eI)) a_u), .ow (.lst (List.map (eO (e2 eI eI)) s2)), .sh (eI x5), j4], rfl, ?_⟩
    obtain ⟨v6, hv6, h⟩ := bnd h
    obtain ⟨v7, hv7, h⟩ := bnd h
    refine wp_seq (ρ1 := [.sh (eI a_p), .sh ((e2 eI eI) a_curve), .sh ((eO (e2 eI eI)) a_u), .ow (.lst (List.map (eO (e2 eI eI)) s2)), .sh (eI x5), .sh ((eO (e2 eI eI)) v7)]) (set_s (pk_s (fn_s (ρ2 := [.sh (eI a_p), .sh ((e2 eI eI) a_curve), .sh ((eO (e2 eI eI)) a_u), .ow (.lst (List.map (eO (e2 eI eI)) s2)), .sh (eI x5), j4]) (ac_ (fr_s ev_0) (ac_ (fr_s ev_1) (ac_ (fr_s (bin_gs (pk_al eva_3) (pk_s (un_gs (ec _ _) rfl (neg_i _))) rfl rfl (ixl_e (e := (eO (e2 eI eI))) hv6))) (ac_ (fr_s ev_2) (an_ _))))) rfl rfl (sim__law_added (a_p := a_p) (a_curve := a_curve) (a_u := v6) (a_v := a_u) hv7) rfl))) ?_
    refine wp_seqW ?_
    refine ite_elim h (fun c8 h => ?_) (fun c8 h => ?_)
    · refine wp_if_t (tb_ (bin_s ev_5 (ec _ _) (isndx_e (e := (e2 eI eI)) v7))) c8 ?_
      cases h
      refine wp_brk ?_
      refine qs_bk ?_
      exact pb_bk ⟨_, _, rfl⟩
    · refine wp_if_f (tb_ (bin_s ev_5 (ec _ _) (isndx_e (e := (e2 eI eI)) v7))) c8 ?_
      refine wp_nil ?_
      refine qs_nx ?_
      obtain ⟨v9, hv9, h⟩ := bnd h
      refine wp_st (ρ1 := [.sh (eI a_p), .sh ((e2 eI eI) a_curve), .sh ((eO (e2 eI eI)) a_u), .ow (.lst (List.map (eO (e2 eI eI)) v9)), .sh (eI x5), .sh ((eO (e2 eI eI)) v7)]) (expr_ (push_ (e := (eO (e2 eI eI))) hv9 eva_3 rfl (ac_ (fr_s ev_5) (an_ _)) rfl)) ?_
      cases h
      exact pb_nx ⟨_, _, rfl⟩
  · intro s10 ρ hR h
    obtain ⟨j11, j12, rfl⟩ := hR
    refine qs_nx ?_
    refine wp_ret (fr_al (ds := List.map (eO (e2 eI eI)) s10) eva_3 rfl) ?_
    cases h
    exact rt_i rfl rfl
/-! times_point -/
def t_times_point : Nat → Int → (Int × Int) → Int → (Option (Int × Int)) → Option (Option (Int × Int))
  | 0, _, _, _, _ => none
  | fuel + 1, a_p, a_curve, a_k, a_u =>
    if (decide (a_k < 0)) = true then (((if (Option.isNone a_u) = true then (some none) else ((a_u).bind fun v2 => (a_u).bind fun v3 => (modO (-v3.2) a_p).bind fun v4 => some (some (v2.1, v4))))).bind fun v5 =>
    (t_times_point fuel a_p a_curve (-a_k) v5).bind fun v8 =>
    some v8) else (whileB (r := (Option (Int × Int))) (fun (s9 : (Int × (Option (Int × Int)) × (Option (Int × Int)))) => some (decide (0 < s9.1))) (fun (s9 : (Int × (Option (Int × Int)) × (Option (Int × Int)))) => (if (decide ((s9.1 % 2) = 1)) = true then ((t_added_points a_p a_curve s9.2.2 s9.2.1).bind fun v12 =>
    some v12) else (some s9.2.2)).bind fun s13 =>
    (t_added_points a_p a_curve s9.2.1 s9.2.1).bind fun v14 =>
    (some (s9.1 / 2)).bind fun x15 =>
    some (.nx (x15, v14, s13))) 1048576 (a_k, a_u, none) (fun (s16 : (Int × (Option (Int × Int)) × (Option (Int × Int)))) => some s16.2.2) (fun x => some x))
theorem sim_times_point : ∀ {fuel : Nat} {a_p : Int} {a_curve : (Int × Int)} {a_k : Int} {a_u : (Option (Int × Int))} {r : (Option (Int × Int))} (h : t_times_point fuel a_p a_curve a_k a_u = some r), F_times_point fuel [.sh (eI a_p), .sh ((e2 eI eI) a_curve), .sh (eI a_k), .sh ((eO (e2 eI eI)) a_u)] = some (.sh ((eO (e2 eI eI)) r), [.sh (eI a_p), .sh ((e2 eI eI) a_curve), .sh (eI a_k), .sh ((eO (e2 eI eI)) a_u)])
  | 0, _, _, _, _, _, h => by cases h
  | fuel + 1, a_p, a_curve, a_k, a_u, r, h => by
    unfold t_times_point at h
    refine run_wp rfl (fun i => by intro z; cases z) ?_
    show Wp (g_times_point (F_times_point fuel) [.sh (eI a_p), .sh ((e2 eI eI) a_curve), .sh (eI a_k), .sh ((eO (e2 eI eI)) a_u), .no]) _
    unfold g_times_point
    refine wp_seqW ?_
    refine ite_elim h (fun c1 h => ?_) (fun c1 h => ?_)
    · refine wp_if_t (tb_ (bin_s ev_2 (ec _ _) (cmp_i _ _ _))) c1 ?_
      obtain ⟨v5, hv5, h⟩ := bnd h
      obtain ⟨v8, hv8, h⟩ := bnd h
      refine wp_ret (fr_s (fn_s (ρ2 := [.sh (eI a_p), .sh ((e2 eI eI) a_curve), .sh (eI a_k), .sh ((eO (e2 eI eI)) a_u), .no]) (ac_ (fr_s ev_0) (ac_ (fr_s ev_1) (ac_ (un_gs ev_2 rfl (neg_i _)) (ac_ (fr_s (show _ = some (Rv.sh ((eO (e2 eI eI)) v5), ([.sh (eI a_p), .sh ((e2 eI eI) a_curve), .sh (eI a_k), .sh ((eO (e2 eI eI)) a_u), .no] : Rho)) from ite_elim hv5 (fun c6 h => by rw [← Option.some.inj h]; exact eif_t (tb_ (bin_s ev_3 (ec _ _) (isndx_e (e := (e2 eI eI)) a_u))) c6 (ec _ _)) (fun c7 h => by obtain ⟨v2, hv2, h⟩ := bnd h; obtain ⟨v3, hv3, h⟩ := bnd h; obtain ⟨v4, hv4, h⟩ := bnd h; rw [← Option.some.inj h]; exact eif_f (tb_ (bin_s ev_3 (ec _ _) (isndx_e (e := (e2 eI eI)) a_u))) c7 (tup_ (ac_ (fr_s (bin_s (opn (e := (e2 eI eI)) ev_3 hv2) (ec _ _) (show ixA ((e2 eI eI) v2) (eI 0) = some (.sh (eI v2.1)) from rfl))) (ac_ (fr_s (bin_s (un_gs (bin_s (opn (e := (e2 eI eI)) ev_3 hv3) (ec _ _) (show ixA ((e2 eI eI) v3) (eI 1) = some (.sh (eI v3.2)) from rfl)) rfl (neg_i _)) ev_0 (mod_t hv4))) (an_ _))) rfl (few' rfl))))) (an_ _))))) rfl rfl (sim_times_point (a_p := a_p) (a_curve := a_curve) (a_k := (-a_k)) (a_u := v5) hv8) rfl)) ?_
      refine qs_rt ?_
      cases h
      exact rt_i rfl rfl
    · refine wp_if_f (tb_ (bin_s ev_2 (ec _ _) (cmp_i _ _ _))) c1 ?_
      refine wp_nil ?_
      refine qs_nx ?_
      refine wp_seq (ρ1 := [.sh (eI a_p), .sh ((e2 eI eI) a_curve), .sh (eI a_k), .sh ((eO (e2 eI eI)) a_u), .sh (eN ())]) (set_s (ec _ _)) ?_
      refine wp_seqW (wp_while (R := (fun (s9 : (Int × (Option (Int × Int)) × (Option (Int × Int)))) ρ => ρ = [.sh (eI a_p), .sh ((e2 eI eI) a_curve), .sh (eI s9.1), .sh ((eO (e2 eI eI)) s9.2.1), .sh ((eO (e2 eI eI)) s9.2.2)])) (Qr := fun (x : (Option (Int × Int))) => Rt [.sh (eI a_p), .sh ((e2 eI eI) a_curve), .sh (eI a_k), .sh ((eO (e2 eI eI)) a_u)] [] (.sh ((eO (e2 eI eI)) x)) [.sh (eI a_p), .sh ((e2 eI eI) a_curve), .sh (eI a_k), .sh ((eO (e2 eI eI)) a_u)]) (s0 := (a_k, a_u, none)) rfl (fun s9 ρ k hR h => ?_) (fun s9 s' ρ hR hc h => ?_) h ?_ (fun x rv ρ hk hq => by cases hk; exact hq))
      · obtain rfl := hR
        rw [← Option.some.inj h]
        exact ⟨[.sh (eI a_p), .sh ((e2 eI eI) a_curve), .sh (eI s9.1), .sh ((eO (e2 eI eI)) s9.2.1), .sh ((eO (e2 eI eI)) s9.2.2)], (tb_ (bin_s ev_2 (ec _ _) (cmp_i _ _ _))), rfl⟩
      · obtain rfl := hR
        refine wp_seqW (wp_join (R := (fun (s13 : (Option (Int × Int))) ρ => ρ = [.sh (eI a_p), .sh ((e2 eI eI) a_curve), .sh (eI s9.1), .sh ((eO (e2 eI eI)) s9.2.1), .sh ((eO (e2 eI eI)) s13)])) (fun s h => ?_) h ?_)
        · refine ite_elim h (fun c10 h => ?_) (fun c10 h => ?_)
          · refine wp_if_t (tb_ (bin_s (bin_s ev_2 (ec _ _) (mod_l _ _)) (ec _ _) (eq_i _ _))) c10 ?_
            obtain ⟨v12, hv12, h⟩ := bnd h
            refine wp_st (ρ1 := [.sh (eI a_p), .sh ((e2 eI eI) a_curve), .sh (eI s9.1), .sh ((eO (e2 eI eI)) s9.2.1), .sh ((eO (e2 eI eI)) v12)]) (set_s (pk_s (fn_s (ρ2 := [.sh (eI a_p), .sh ((e2 eI eI) a_curve), .sh (eI s9.1), .sh ((eO (e2 eI eI)) s9.2.1), .sh ((eO (e2 eI eI)) s9.2.2)]) (ac_ (fr_s ev_0) (ac_ (fr_s ev_1) (ac_ (fr_s ev_4) (ac_ (fr_s ev_3) (an_ _))))) rfl rfl (sim_added_points (a_p := a_p) (a_curve := a_curve) (a_u := s9.2.2) (a_v := s9.2.1) hv12) rfl))) ?_
            cases h
            exact ⟨_, rfl, rfl⟩
          · refine wp_if_f (tb_ (bin_s (bin_s ev_2 (ec _ _) (mod_l _ _)) (ec _ _) (eq_i _ _))) c10 ?_
            refine wp_nil ?_
            cases h
            exact ⟨_, rfl, rfl⟩
        · intro s13 ρ hR h
          obtain rfl := hR
          refine qs_nx ?_
          obtain ⟨v14, hv14, h⟩ := bnd h
          refine wp_seq (ρ1 := [.sh (eI a_p), .sh ((e2 eI eI) a_curve), .sh (eI s9.1), .sh ((eO (e2 eI eI)) v14), .sh ((eO (e2 eI eI)) s13)]) (set_s (pk_s (fn_s (ρ2 := [.sh (eI a_p), .sh ((e2 eI eI) a_curve), .sh (eI s9.1), .sh ((eO (e2 eI eI)) s9.2.1), .sh ((eO (e2 eI eI)) s13)]) (ac_ (fr_s ev_0) (ac_ (fr_s ev_1) (ac_ (fr_s ev_3) (ac_ (fr_s ev_3) (an_ _))))) rfl rfl (sim_added_points (a_p := a_p) (a_curve := a_curve) (a_u := s9.2.1) (a_v := s9.2.1) hv14) rfl))) ?_
          obtain ⟨x15, hx15, h⟩ := bnd h
          refine wp_st (ρ1 := [.sh (eI a_p), .sh ((e2 eI eI) a_curve), .sh (eI x15), .sh ((eO (e2 eI eI)) v14), .sh ((eO (e2 eI eI)) s13)]) (by rw [← Option.some.inj hx15]; exact (set_s (bin_s ev_2 (ec _ _) (div_l _ _)))) ?_
          cases h
          exact pb_nx rfl
      · intro s16 ρ hR h
        obtain rfl := hR
        refine qs_nx ?_
        refine wp_ret (fr_s ev_4) ?_
        cases h
        exact rt_i rfl rfl
/-! _law_points_right -/
def t__law_points_right (ds : List Int) (a_w : Nat) (a_p : Int) (a_curve : (Int × Int)) : Option (Bool × Nat) :=
(t__law_points a_p a_curve).bind fun v1 =>
(t_points_of a_p a_curve).bind fun v2 =>
(t__law_plain 4 ((eT (eO (e2 eI eI))) v2)).bind fun v3 =>
((if (!v3) = true then some true else ((plusO [none] (List.map (fun z => (some z)) v1)).bind fun v4 => some (!eqE (eT (eO (e2 eI eI))) v2 v4)))).bind fun v5 =>
if v5 = true then (some (false, a_w)) else ((foldO (fun (x10 : (Int × Int)) (s8 : (List Int)) => (t__law_multiples a_p a_curve (some x10)).bind fun v11 =>
(pushO s8 (List.length v11 : Int)).bind fun v12 =>
some v12) v1 []).bind fun (s13 : (List Int)) =>
(plusO [1] s13).bind fun v15 =>
(maxO eI v15).bind fun v16 =>
(some ((List.length v1 : Int) + 1)).bind fun x17 =>
((if (decide (x17 = 1)) = true then (some []) else (((if (decide (x17 = v16)) = true then (some [x17]) else ((divO x17 v16).bind fun v18 => some [v18, v16]))).bind fun v19 => some v19))).bind fun v22 =>
(t_group_of_curve a_p a_curve).bind fun v25 =>
(t__law_plain 4 ((eT eI) v25)).bind fun v26 =>
if ((!v26) || (!eqE (eT eI) v25 v22)) = true then (some (false, a_w)) else (forB (fun (x35 : Int) (s28 : Nat) => ((if (!eqE (eL (e2 eI eI)) v1 []) = true then ((plusO [none] (List.map (fun z => (some z)) v1)).bind fun v36 => (pickO ds s28 v36).bind fun v37 => some (v37.1, v37.2)) else (some (none, s28)))).bind fun v38 =>
((if (Option.isNone v38.1) = true then (some v38.1) else ((v38.1).bind fun v41 => (v38.1).bind fun v42 => (modO (0 - v42.2) a_p).bind fun v43 => some (some (v41.1, v43))))).bind fun v44 =>
(plusO [none, v38.1, v44] (List.map (fun z => (some z)) v1)).bind fun v47 =>
(plusO v47 (List.map (fun z => (some z)) v1)).bind fun v48 =>
(pickO ds v38.2 v48).bind fun v49 =>
(t_added_points a_p a_curve v38.1 v49.1).bind fun v50 =>
(t__law_plain 4 ((eO (e2 eI eI)) v50)).bind fun v51 =>
((if (!v51) = true then some true else ((t__law_added a_p a_curve v38.1 v49.1).bind fun v52 => some (!eqE (eO (e2 eI eI)) v50 v52)))).bind fun v53 =>
if v53 = true then (some (.rt (false, v49.2))) else (((if (!Option.isNone v38.1) = true then ((t__law_multiples a_p a_curve v38.1).bind fun v56 => some v56) else (some [none]))).bind fun v57 =>
(t_order_of_point a_p a_curve v38.1).bind fun v60 =>
(t__law_plain 4 (eI v60)).bind fun v61 =>
if ((!v61) || (!decide (v60 = (List.length v57 : Int)))) = true then (some (.rt (false, v49.2))) else ((nextO ds v49.2 99).bind fun v63 =>
forB (fun (x67 : Int) (s64 : Unit) => (t_times_point 2 a_p a_curve x67 v38.1).bind fun v68 =>
(t__law_plain 4 ((eO (e2 eI eI)) v68)).bind fun v69 =>
((if (!v69) = true then some true else ((modO x67 (List.length v57 : Int)).bind fun v70 => (atI v57 v70).bind fun v71 => some (!eqE (eO (e2 eI eI)) v68 v71)))).bind fun v72 =>
if v72 = true then (some (.rt (false, v63.2))) else (some (.nx ()))) [(v63.1 - 49), 0, (-1), 1000000007] () (fun (s75 : Unit) => some (.nx v63.2)) (fun x => some (.rt x))))) (rangeI 0 (Int.toNat 4)) a_w (fun (s78 : Nat) => some (true, s78)) (fun x => some x)))
theorem sim__law_points_right (ds : List Int) {a_w : Nat} {a_p : Int} {a_curve : (Int × Int)} {r : (Bool × Nat)} (h : t__law_points_right ds a_w a_p a_curve = some r) : F__law_points_right [.ow (W1 ds a_w), .sh (eI a_p), .sh ((e2 eI eI) a_curve)] = some (.sh (eB r.1), [.ow (W1 ds r.2), .sh (eI a_p), .sh ((e2 eI eI) a_curve)]) := by
  unfold t__law_points_right at h
  refine run_wp rfl (fun i => by intro z; cases z) ?_
  show Wp (g__law_points_right [.ow (W1 ds a_w), .sh (eI a_p), .sh ((e2 eI eI) a_curve), .no, .no, .no, .no, .no, .no, .no, .no, .no, .no, .no]) _
  unfold g__law_points_right
  obtain ⟨v1, hv1, h⟩ := bnd h
  refine wp_seq (ρ1 := [.ow (W1 ds a_w), .sh (eI a_p), .sh ((e2 eI eI) a_curve), .sh ((eL (e2 eI eI)) v1), .no, .no, .no, .no, .no, .no, .no, .no, .no, .no]) (set_s (pk_s (fn_s (ρ2 := [.ow (W1 ds a_w), .sh (eI a_p), .sh ((e2 eI eI) a_curve), .no, .no, .no, .no, .no, .no, .no, .no, .no, .no, .no]) (ac_ (fr_s ev_1) (ac_ (fr_s ev_2) (an_ _))) rfl rfl (sim__law_points (a_p := a_p) (a_curve := a_curve) hv1) rfl))) ?_
  obtain ⟨v2, hv2, h⟩ := bnd h
  refine wp_seq (ρ1 := [.ow (W1 ds a_w), .sh (eI a_p), .sh ((e2 eI eI) a_curve), .sh ((eL (e2 eI eI)) v1), .sh ((eT (eO (e2 eI eI))) v2), .no, .no, .no, .no, .no, .no, .no, .no, .no]) (set_s (pk_s (fn_s (ρ2 := [.ow (W1 ds a_w), .sh (eI a_p), .sh ((e2 eI eI) a_curve), .sh ((eL (e2 eI eI)) v1), .no, .no, .no, .no, .no, .no, .no, .no, .no, .no]) (ac_ (fr_s ev_1) (ac_ (fr_s ev_2) (an_ _))) rfl rfl (sim_points_of (a_p := a_p) (a_curve := a_curve) hv2) rfl))) ?_
  obtain ⟨v3, hv3, h⟩ := bnd h
  obtain ⟨v5, hv5, h⟩ := bnd h
  refine wp_seqW ?_
  refine ite_elim h (fun c7 h => ?_) (fun c7 h => ?_)
  · refine wp_if_t (show _ = some (v5, ([.ow (W1 ds a_w), .sh (eI a_p), .sh ((e2 eI eI) a_curve), .sh ((eL (e2 eI eI)) v1), .sh ((eT (eO (e2 eI eI))) v2), .no, .no, .no, .no, .no, .no, .no, .no, .no] : Rho)) from ite_elim hv5 (fun c6 h => by rw [← Option.some.inj h]; exact tor_t (tno_ (tv_ (pk_s (fn_s (ρ2 := [.ow (W1 ds a_w), .sh (eI a_p), .sh ((e2 eI eI) a_curve), .sh ((eL (e2 eI eI)) v1), .sh ((eT (eO (e2 eI eI))) v2), .no, .no, .no, .no, .no, .no, .no, .no, .no]) (ac_ (fr_s ev_4) (an_ _)) rfl rfl (sim__law_plain (a_thing := ((eT (eO (e2 eI eI))) v2)) hv3) rfl)) rfl (tru_b _))) c6) (fun c6 h => by obtain ⟨v4, hv4, h⟩ := bnd h; rw [← Option.some.inj h]; exact tor_f (tno_ (tv_ (pk_s (fn_s (ρ2 := [.ow (W1 ds a_w), .sh (eI a_p), .sh ((e2 eI eI) a_curve), .sh ((eL (e2 eI eI)) v1), .sh ((eT (eO (e2 eI eI))) v2), .no, .no, .no, .no, .no, .no, .no, .no, .no]) (ac_ (fr_s ev_4) (an_ _)) rfl rfl (sim__law_plain (a_thing := ((eT (eO (e2 eI eI))) v2)) hv3) rfl)) rfl (tru_b _))) c6 (tb_ (bin_s ev_4 (bin_gs (pk_s (tup_ (ac_ (ec _ _) (an_ _)) rfl (few' rfl))) (pk_s (call_s (ac_ ev_3 (an_ _)) rfl (tupL_e (e := (e2 eI eI)) v1))) rfl (dcoT (e := (e2 eI eI)) (e' := (eO (e2 eI eI))) (g := fun z => (some z)) (fun _ => rfl) v1) (plusT_e (e := (eO (e2 eI eI))) hv4)) (ne_e (e := (eT (eO (e2 eI eI)))) v2 v4))))) c7 ?_
    refine wp_ret (ec _ _) ?_
    refine qs_rt ?_
    cases h
    exact rt_i rfl rfl
  · refine wp_if_f (show _ = some (v5, ([.ow (W1 ds a_w), .sh (eI a_p), .sh ((e2 eI eI) a_curve), .sh ((eL (e2 eI eI)) v1), .sh ((eT (eO (e2 eI eI))) v2), .no, .no, .no, .no, .no, .no, .no, .no, .no] : Rho)) from ite_elim hv5 (fun c6 h => by rw [← Option.some.inj h]; exact tor_t (tno_ (tv_ (pk_s (fn_s (ρ2 := [.ow (W1 ds a_w), .sh (eI a_p), .sh ((e2 eI eI) a_curve), .sh ((eL (e2 eI eI)) v1), .sh ((eT (eO (e2 eI eI))) v2), .no, .no, .no, .no, .no, .no, .no, .no, .no]) (ac_ (fr_s ev_4) (an_ _)) rfl rfl (sim__law_plain (a_thing := ((eT (eO (e2 eI eI))) v2)) hv3) rfl)) rfl (tru_b _))) c6) (fun c6 h => by obtain ⟨v4, hv4, h⟩ := bnd h; rw [← Option.some.inj h]; exact tor_f (tno_ (tv_ (pk_s (fn_s (ρ2 := [.ow (W1 ds a_w), .sh (eI a_p), .sh ((e2 eI eI) a_curve), .sh ((eL (e2 eI eI)) v1), .sh ((eT (eO (e2 eI eI))) v2), .no, .no, .no, .no, .no, .no, .no, .no, .no]) (ac_ (fr_s ev_4) (an_ _)) rfl rfl (sim__law_plain (a_thing := ((eT (eO (e2 eI eI))) v2)) hv3) rfl)) rfl (tru_b _))) c6 (tb_ (bin_s ev_4 (bin_gs (pk_s (tup_ (ac_ (ec _ _) (an_ _)) rfl (few' rfl))) (pk_s (call_s (ac_ ev_3 (an_ _)) rfl (tupL_e (e := (e2 eI eI)) v1))) rfl (dcoT (e := (e2 eI eI)) (e' := (eO (e2 eI eI))) (g := fun z => (some z)) (fun _ => rfl) v1) (plusT_e (e := (eO (e2 eI eI))) hv4)) (ne_e (e := (eT (eO (e2 eI eI)))) v2 v4))))) c7 ?_
    refine wp_nil ?_
    refine qs_nx ?_
    refine wp_seq (ρ1 := [.ow (W1 ds a_w), .sh (eI a_p), .sh ((e2 eI eI) a_curve), .sh ((eL (e2 eI eI)) v1), .sh ((eT (eO (e2 eI eI))) v2), .ow (.lst (List.map eI [])), .no, .no, .no, .no, .no, .no, .no, .no]) (set_o (lst_ (an_ _) rfl (few' rfl))) ?_
    refine wp_seqW (wp_fold (R := (fun (s8 : (List Int)) ρ => ∃ j9, ρ = [.ow (W1 ds a_w), .sh (eI a_p), .sh ((e2 eI eI) a_curve), .sh ((eL (e2 eI eI)) v1), .sh ((eT (eO (e2 eI eI))) v2), .ow (.lst (List.map eI s8)), j9, .no, .no, .no, .no, .no, .no, .no])) (e := (e2 eI eI)) (s0 := []) (iseq_l (e := (e2 eI eI)) (fr_s ev_3)) ⟨_, rfl⟩ (fun x10 s8 s' ρ hx hR h => ?_) h ?_)
    · obtain ⟨j9, rfl⟩ := hR
      refine ⟨[.ow (W1 ds a_w), .sh (eI a_p), .sh ((e2 eI eI) a_curve), .sh ((eL (e2 eI eI)) v1), .sh ((eT (eO (e2 eI eI))) v2), .ow (.lst (List.map eI s8)), .sh ((e2 eI eI) x10), .no, .no, .no, .no, .no, .no, .no], rfl, ?_⟩
      obtain ⟨v11, hv11, h⟩ := bnd h
      obtain ⟨v12, hv12, h⟩ := bnd h
      refine wp_st (ρ1 := [.ow (W1 ds a_w), .sh (eI a_p), .sh ((e2 eI eI) a_curve), .sh ((eL (e2 eI eI)) v1), .sh ((eT (eO (e2 eI eI))) v2), .ow (.lst (List.map eI v12)), .sh ((e2 eI eI) x10), .no, .no, .no, .no, .no, .no, .no]) (expr_ (push_ (e := eI) hv12 eva_5 rfl (ac_ (fr_s (call_s (ac_ (fn_s (ρ2 := [.ow (W1 ds a_w), .sh (eI a_p), .sh ((e2 eI eI) a_curve), .sh ((eL (e2 eI eI)) v1), .sh ((eT (eO (e2 eI eI))) v2), .ow (.lst (List.map eI s8)), .sh ((e2 eI eI) x10), .no, .no, .no, .no, .no, .no, .no]) (ac_ (fr_s ev_1) (ac_ (fr_s ev_2) (ac_ (fr_s ev_6) (an_ _)))) rfl rfl (sim__law_multiples (a_p := a_p) (a_curve := a_curve) (a_u := (some x10)) hv11) rfl) (an_ _)) rfl (lenL_e (e := (eO (e2 eI eI))) v11))) (an_ _)) rfl)) ?_
      cases h
      exact ⟨_, .inl rfl, ⟨_, rfl⟩⟩
    · intro s13 ρ hR h
      obtain ⟨j14, rfl⟩ := hR
      refine qs_nx ?_
      obtain ⟨v15, hv15, h⟩ := bnd h
      obtain ⟨v16, hv16, h⟩ := bnd h
      obtain ⟨x17, hx17, h⟩ := bnd h
      refine wp_seq (ρ1 := [.ow (W1 ds a_w), .sh (eI a_p), .sh ((e2 eI eI) a_curve), .sh ((eL (e2 eI eI)) v1), .sh ((eT (eO (e2 eI eI))) v2), .ow (.lst (List.map eI s13)), j14, .sh (eI x17), .sh (eI v16), .no, .no, .no, .no, .no]) (by rw [← Option.some.inj hx17]; exact (par_ (ac_ (fr_s (bin_s (call_s (ac_ ev_3 (an_ _)) rfl (lenL_e (e := (e2 eI eI)) v1)) (ec _ _) (add_i _ _))) (ac_ (fr_s (call_s (ac_ (bin_go (pk_o (lst_ (ac_ (ec _ _) (an_ _)) rfl (few' rfl))) (pk_al eva_5) rfl rfl (plusL_e (e := eI) hv15)) (an_ _)) rfl (maxL_e hv16))) (an_ _))) rfl rfl)) ?_
      obtain ⟨v22, hv22, h⟩ := bnd h
      refine wp_seq (ρ1 := [.ow (W1 ds a_w), .sh (eI a_p), .sh ((e2 eI eI) a_curve), .sh ((eL (e2 eI eI)) v1), .sh ((eT (eO (e2 eI eI))) v2), .ow (.lst (List.map eI s13)), j14, .sh (eI x17), .sh (eI v16), .sh ((eT eI) v22), .no, .no, .no, .no]) (set_s (pk_s (cp_s (show _ = some (Rv.sh ((eT eI) v22), ([.ow (W1 ds a_w), .sh (eI a_p), .sh ((e2 eI eI) a_curve), .sh ((eL (e2 eI eI)) v1), .sh ((eT (eO (e2 eI eI))) v2), .ow (.lst (List.map eI s13)), j14, .sh (eI x17), .sh (eI v16), .no, .no, .no, .no, .no] : Rho)) from ite_elim hv22 (fun c23 h => by rw [← Option.some.inj h]; exact eif_t (tb_ (bin_s ev_7 (ec _ _) (eq_i _ _))) c23 (tup_ (an_ _) rfl (few' rfl))) (fun c24 h => by obtain ⟨v19, hv19, h⟩ := bnd h; rw [← Option.some.inj h]; exact eif_f (tb_ (bin_s ev_7 (ec _ _) (eq_i _ _))) c24 (fr_s (show _ = some (Rv.sh ((eT eI) v19), ([.ow (W1 ds a_w), .sh (eI a_p), .sh ((e2 eI eI) a_curve), .sh ((eL (e2 eI eI)) v1), .sh ((eT (eO (e2 eI eI))) v2), .ow (.lst (List.map eI s13)), j14, .sh (eI x17), .sh (eI v16), .no, .no, .no, .no, .no] : Rho)) from ite_elim hv19 (fun c20 h => by rw [← Option.some.inj h]; exact eif_t (tb_ (bin_s ev_7 ev_8 (eq_i _ _))) c20 (tup_ (ac_ (fr_s ev_7) (an_ _)) rfl (few' rfl))) (fun c21 h => by obtain ⟨v18, hv18, h⟩ := bnd h; rw [← Option.some.inj h]; exact eif_f (tb_ (bin_s ev_7 ev_8 (eq_i _ _))) c21 (tup_ (ac_ (fr_s (bin_s ev_7 ev_8 (div_t hv18))) (ac_ (fr_s ev_8) (an_ _))) rfl (few' rfl)))))))))) ?_
      obtain ⟨v25, hv25, h⟩ := bnd h
      refine wp_seq (ρ1 := [.ow (W1 ds a_w), .sh (eI a_p), .sh ((e2 eI eI) a_curve), .sh ((eL (e2 eI eI)) v1), .sh ((eT eI) v25), .ow (.lst (List.map eI s13)), j14, .sh (eI x17), .sh (eI v16), .sh ((eT eI) v22), .no, .no, .no, .no]) (set_s (pk_s (fn_s (ρ2 := [.ow (W1 ds a_w), .sh (eI a_p), .sh ((e2 eI eI) a_curve), .sh ((eL (e2 eI eI)) v1), .sh ((eT (eO (e2 eI eI))) v2), .ow (.lst (List.map eI s13)), j14, .sh (eI x17), .sh (eI v16), .sh ((eT eI) v22), .no, .no, .no, .no]) (ac_ (fr_s ev_1) (ac_ (fr_s ev_2) (an_ _))) rfl rfl (sim_group_of_curve (a_p := a_p) (a_curve := a_curve) hv25) rfl))) ?_
      obtain ⟨v26, hv26, h⟩ := bnd h
      refine wp_seqW ?_
      refine ite_elim h (fun c27 h => ?_) (fun c27 h => ?_)
      · refine wp_if_t (tor_ (tno_ (tv_ (pk_s (fn_s (ρ2 := [.ow (W1 ds a_w), .sh (eI a_p), .sh ((e2 eI eI) a_curve), .sh ((eL (e2 eI eI)) v1), .sh ((eT eI) v25), .ow (.lst (List.map eI s13)), j14, .sh (eI x17), .sh (eI v16), .sh ((eT eI) v22), .no, .no, .no, .no]) (ac_ (fr_s ev_4) (an_ _)) rfl rfl (sim__law_plain (a_thing := ((eT eI) v25)) hv26) rfl)) rfl (tru_b _))) (tb_ (bin_s ev_4 ev_9 (ne_e (e := (eT eI)) v25 v22)))) c27 ?_
        refine wp_ret (ec _ _) ?_
        refine qs_rt ?_
        cases h
        exact rt_i rfl rfl
      · refine wp_if_f (tor_ (tno_ (tv_ (pk_s (fn_s (ρ2 := [.ow (W1 ds a_w), .sh (eI a_p), .sh ((e2 eI eI) a_curve), .sh ((eL (e2 eI eI)) v1), .sh ((eT eI) v25), .ow (.lst (List.map eI s13)), j14, .sh (eI x17), .sh (eI v16), .sh ((eT eI) v22), .no, .no, .no, .no]) (ac_ (fr_s ev_4) (an_ _)) rfl rfl (sim__law_plain (a_thing := ((eT eI) v25)) hv26) rfl)) rfl (tru_b _))) (tb_ (bin_s ev_4 ev_9 (ne_e (e := (eT eI)) v25 v22)))) c27 ?_
        refine wp_nil ?_
        refine qs_nx ?_
        refine wp_seqW (wp_for (R := (fun (s28 : Nat) ρ => ∃ j29 j30 j31 j32 j33 j34, ρ = [.ow (W1 ds s28), .sh (eI a_p), .sh ((e2 eI eI) a_curve), .sh ((eL (e2 eI eI)) v1), j29, .ow (.lst (List.map eI s13)), j30, .sh (eI x17), .sh (eI v16), .sh ((eT eI) v22), j31, j32, j33, j34])) (Qr := fun (x : (Bool × Nat)) => Rt [.ow (W1 ds a_w), .sh (eI a_p), .sh ((e2 eI eI) a_curve)] [0] (.sh (eB x.1)) [.ow (W1 ds x.2), .sh (eI a_p), .sh ((e2 eI eI) a_curve)]) (e := eI) (s0 := a_w) (irng_ (e := eI) (ac_ (ec _ _) (an_ _)) rfl (rng1_l _)) ⟨_, _, _, _, _, _, rfl⟩ (fun x35 s28 s' ρ hx hR h => ?_) h ?_ (fun x rv ρ hk hq => by cases hk; exact hq))
        · obtain ⟨j29, j30, j31, j32, j33, j34, rfl⟩ := hR
          refine ⟨[.ow (W1 ds s28), .sh (eI a_p), .sh ((e2 eI eI) a_curve), .sh ((eL (e2 eI eI)) v1), j29, .ow (.lst (List.map eI s13)), j30, .sh (eI x17), .sh (eI v16), .sh ((eT eI) v22), .sh (eI x35), j32, j33, j34], rfl, ?_⟩
          obtain ⟨v38, hv38, h⟩ := bnd h
          refine wp_seq (ρ1 := [.ow (W1 ds v38.2), .sh (eI a_p), .sh ((e2 eI eI) a_curve), .sh ((eL (e2 eI eI)) v1), j29, .ow (.lst (List.map eI s13)), .sh ((eO (e2 eI eI)) v38.1), .sh (eI x17), .sh (eI v16), .sh ((eT eI) v22), .sh (eI x35), j32, j33, j34]) (set_s (pk_s (cp_s (show _ = some (Rv.sh ((eO (e2 eI eI)) v38.1), ([.ow (W1 ds v38.2), .sh (eI a_p), .sh ((e2 eI eI) a_curve), .sh ((eL (e2 eI eI)) v1), j29, .ow (.lst (List.map eI s13)), j30, .sh (eI x17), .sh (eI v16), .sh ((eT eI) v22), .sh (eI x35), j32, j33, j34] : Rho)) from ite_elim hv38 (fun c39 h => by obtain ⟨v36, hv36, h⟩ := bnd h; obtain ⟨v37, hv37, h⟩ := bnd h; rw [← Option.some.inj h]; exact eif_t (tb_ (bin_gs (pk_s ev_3) (pk_o (lst_ (an_ _) rfl (few' rfl))) rfl rfl (ne_e (e := (eL (e2 eI eI))) v1 []))) c39 (fr_s (fn_s (ρ2 := [.ow (W1 ds v37.2), .sh (eI a_p), .sh ((e2 eI eI) a_curve), .sh ((eL (e2 eI eI)) v1), j29, .ow (.lst (List.map eI s13)), j30, .sh (eI x17), .sh (eI v16), .sh ((eT eI) v22), .sh (eI x35), j32, j33, j34]) (ac_ eva_0 (ac_ (fr_o (bin_go (pk_o (lst_ (ac_ (ec _ _) (an_ _)) rfl (few' rfl))) (pk_s ev_3) rfl (dcoL (e := (e2 eI eI)) (e' := (eO (e2 eI eI))) (g := fun z => (some z)) (fun _ => rfl) v1) (plusL_e (e := (eO (e2 eI eI))) hv36))) (an_ _))) rfl rfl (sim_pick (e := (eO (e2 eI eI))) hv37) rfl))) (fun c40 h => by rw [← Option.some.inj h]; exact eif_f (tb_ (bin_gs (pk_s ev_3) (pk_o (lst_ (an_ _) rfl (few' rfl))) rfl rfl (ne_e (e := (eL (e2 eI eI))) v1 []))) c40 (ec _ _)))))) ?_
          obtain ⟨v44, hv44, h⟩ := bnd h
          obtain ⟨v47, hv47, h⟩ := bnd h
          obtain ⟨v48, hv48, h⟩ := bnd h
          obtain ⟨v49, hv49, h⟩ := bnd h
          refine wp_seq (ρ1 := [.ow (W1 ds v49.2), .sh (eI a_p), .sh ((e2 eI eI) a_curve), .sh ((eL (e2 eI eI)) v1), j29, .ow (.lst (List.map eI s13)), .sh ((eO (e2 eI eI)) v38.1), .sh (eI x17), .sh (eI v16), .sh ((eT eI) v22), .sh (eI x35), .sh ((eO (e2 eI eI)) v49.1), j33, j34]) (set_s (pk_s (fn_s (ρ2 := [.ow (W1 ds v49.2), .sh (eI a_p), .sh ((e2 eI eI) a_curve), .sh ((eL (e2 eI eI)) v1), j29, .ow (.lst (List.map eI s13)), .sh ((eO (e2 eI eI)) v38.1), .sh (eI x17), .sh (eI v16), .sh ((eT eI) v22), .sh (eI x35), j32, j33, j34]) (ac_ eva_0 (ac_ (fr_o (bin_go (pk_o (bin_go (pk_o (lst_ (ac_ (ec _ _) (ac_ (fr_s ev_6) (ac_ (fr_s (show _ = some (Rv.sh ((eO (e2 eI eI)) v44), ([.ow (W1 ds v38.2), .sh (eI a_p), .sh ((e2 eI eI) a_curve), .sh ((eL (e2 eI eI)) v1), j29, .ow (.lst (List.map eI s13)), .sh ((eO (e2 eI eI)) v38.1), .sh (eI x17), .sh (eI v16), .sh ((eT eI) v22), .sh (eI x35), j32, j33, j34] : Rho)) from ite_elim hv44 (fun c45 h => by rw [← Option.some.inj h]; exact eif_t (tb_ (bin_s ev_6 (ec _ _) (isndx_e (e := (e2 eI eI)) v38.1))) c45 (fr_s ev_6)) (fun c46 h => by obtain ⟨v41, hv41, h⟩ := bnd h; obtain ⟨v42, hv42, h⟩ := bnd h; obtain ⟨v43, hv43, h⟩ := bnd h; rw [← Option.some.inj h]; exact eif_f (tb_ (bin_s ev_6 (ec _ _) (isndx_e (e := (e2 eI eI)) v38.1))) c46 (tup_ (ac_ (fr_s (bin_s (opn (e := (e2 eI eI)) ev_6 hv41) (ec _ _) (show ixA ((e2 eI eI) v41) (eI 0) = some (.sh (eI v41.1)) from rfl))) (ac_ (fr_s (bin_s (call_s (ac_ (bin_s (ec _ _) (bin_s (opn (e := (e2 eI eI)) ev_6 hv42) (ec _ _) (show ixA ((e2 eI eI) v42) (eI 1) = some (.sh (eI v42.2)) from rfl)) (sub_i _ _)) (an_ _)) rfl (int_i _)) ev_1 (mod_t hv43))) (an_ _))) rfl (few' rfl))))) (an_ _)))) rfl (few' rfl))) (pk_s ev_3) rfl (dcoL (e := (e2 eI eI)) (e' := (eO (e2 eI eI))) (g := fun z => (some z)) (fun _ => rfl) v1) (plusL_e (e := (eO (e2 eI eI))) hv47))) (pk_s ev_3) rfl (dcoL (e := (e2 eI eI)) (e' := (eO (e2 eI eI))) (g := fun z => (some z)) (fun _ => rfl) v1) (plusL_e (e := (eO (e2 eI eI))) hv48))) (an_ _))) rfl rfl (sim_pick (e := (eO (e2 eI eI))) hv49) rfl))) ?_
          obtain ⟨v50, hv50, h⟩ := bnd h
          refine wp_seq (ρ1 := [.ow (W1 ds v49.2), .sh (eI a_p), .sh ((e2 eI eI) a_curve), .sh ((eL (e2 eI eI)) v1), .sh ((eO (e2 eI eI)) v50), .ow (.lst (List.map eI s13)), .sh ((eO (e2 eI eI)) v38.1), .sh (eI x17), .sh (eI v16), .sh ((eT eI) v22), .sh (eI x35), .sh ((eO (e2 eI eI)) v49.1), j33, j34]) (set_s (pk_s (fn_s (ρ2 := [.ow (W1 ds v49.2), .sh (eI a_p), .sh ((e2 eI eI) a_curve), .sh ((eL (e2 eI eI)) v1), j29, .ow (.lst (List.map eI s13)), .sh ((eO (e2 eI eI)) v38.1), .sh (eI x17), .sh (eI v16), .sh ((eT eI) v22), .sh (eI x35), .sh ((eO (e2 eI eI)) v49.1), j33, j34]) (ac_ (fr_s ev_1) (ac_ (fr_s ev_2) (ac_ (fr_s ev_6) (ac_ (fr_s ev_11) (an_ _))))) rfl rfl (sim_added_points (a_p := a_p) (a_curve := a_curve) (a_u := v38.1) (a_v := v49.1) hv50) rfl))) ?_
          obtain ⟨v51, hv51, h⟩ := bnd h
          obtain ⟨v53, hv53, h⟩ := bnd h
          refine wp_seqW ?_
          refine ite_elim h (fun c55 h => ?_) (fun c55 h => ?_)
          · refine wp_if_t (show _ = some (v53, ([.ow (W1 ds v49.2), .sh (eI a_p), .sh ((e2 eI eI) a_curve), .sh ((eL (e2 eI eI)) v1), .sh ((eO (e2 eI eI)) v50), .ow (.lst (List.map eI s13)), .sh ((eO (e2 eI eI)) v38.1), .sh (eI x17), .sh (eI v16), .sh ((eT eI) v22), .sh (eI x35), .sh ((eO (e2 eI eI)) v49.1), j33, j34] : Rho)) from ite_elim hv53 (fun c54 h => by rw [← Option.some.inj h]; exact tor_t (tno_ (tv_ (pk_s (fn_s (ρ2 := [.ow (W1 ds v49.2), .sh (eI a_p), .sh ((e2 eI eI) a_curve), .sh ((eL (e2 eI eI)) v1), .sh ((eO (e2 eI eI)) v50), .ow (.lst (List.map eI s13)), .sh ((eO (e2 eI eI)) v38.1), .sh (eI x17), .sh (eI v16), .sh ((eT eI) v22), .sh (eI x35), .sh ((eO (e2 eI eI)) v49.1), j33, j34]) (ac_ (fr_s ev_4) (an_ _)) rfl rfl (sim__law_plain (a_thing := ((eO (e2 eI eI)) v50)) hv51) rfl)) rfl (tru_b _))) c54) (fun c54 h => by obtain ⟨v52, hv52, h⟩ := bnd h; rw [← Option.some.inj h]; exact tor_f (tno_ (tv_ (pk_s (fn_s (ρ2 := [.ow (W1 ds v49.2), .sh (eI a_p), .sh ((e2 eI eI) a_curve), .sh ((eL (e2 eI eI)) v1), .sh ((eO (e2 eI eI)) v50), .ow (.lst (List.map eI s13)), .sh ((eO (e2 eI eI)) v38.1), .sh (eI x17), .sh (eI v16), .sh ((eT eI) v22), .sh (eI x35), .sh ((eO (e2 eI eI)) v49.1), j33, j34]) (ac_ (fr_s ev_4) (an_ _)) rfl rfl (sim__law_plain (a_thing := ((eO (e2 eI eI)) v50)) hv51) rfl)) rfl (tru_b _))) c54 (tb_ (bin_s ev_4 (fn_s (ρ2 := [.ow (W1 ds v49.2), .sh (eI a_p), .sh ((e2 eI eI) a_curve), .sh ((eL (e2 eI eI)) v1), .sh ((eO (e2 eI eI)) v50), .ow (.lst (List.map eI s13)), .sh ((eO (e2 eI eI)) v38.1), .sh (eI x17), .sh (eI v16), .sh ((eT eI) v22), .sh (eI x35), .sh ((eO (e2 eI eI)) v49.1), j33, j34]) (ac_ (fr_s ev_1) (ac_ (fr_s ev_2) (ac_ (fr_s ev_6) (ac_ (fr_s ev_11) (an_ _))))) rfl rfl (sim__law_added (a_p := a_p) (a_curve := a_curve) (a_u := v38.1) (a_v := v49.1) hv52) rfl) (ne_e (e := (eO (e2 eI eI))) v50 v52))))) c55 ?_
            refine wp_ret (ec _ _) ?_
            refine qs_rt ?_
            cases h
            exact pb_rt (rt_i rfl rfl)
          · refine wp_if_f (show _ = some (v53, ([.ow (W1 ds v49.2), .sh (eI a_p), .sh ((e2 eI eI) a_curve), .sh ((eL (e2 eI eI)) v1), .sh ((eO (e2 eI eI)) v50), .ow (.lst (List.map eI s13)), .sh ((eO (e2 eI eI)) v38.1), .sh (eI x17), .sh (eI v16), .sh ((eT eI) v22), .sh (eI x35), .sh ((eO (e2 eI eI)) v49.1), j33, j34] : Rho)) from ite_elim hv53 (fun c54 h => by rw [← Option.some.inj h]; exact tor_t (tno_ (tv_ (pk_s (fn_s (ρ2 := [.ow (W1 ds v49.2), .sh (eI a_p), .sh ((e2 eI eI) a_curve), .sh ((eL (e2 eI eI)) v1), .sh ((eO (e2 eI eI)) v50), .ow (.lst (List.map eI s13)), .sh ((eO (e2 eI eI)) v38.1), .sh (eI x17), .sh (eI v16), .sh ((eT eI) v22), .sh (eI x35), .sh ((eO (e2 eI eI)) v49.1), j33, j34]) (ac_ (fr_s ev_4) (an_ _)) rfl rfl (sim__law_plain (a_thing := ((eO (e2 eI eI)) v50)) hv51) rfl)) rfl (tru_b _))) c54) (fun c54 h => by obtain ⟨v52, hv52, h⟩ := bnd h; rw [← Option.some.inj h]; exact tor_f (tno_ (tv_ (pk_s (fn_s (ρ2 := [.ow (W1 ds v49.2), .sh (eI a_p), .sh ((e2 eI eI) a_curve), .sh ((eL (e2 eI eI)) v1), .sh ((eO (e2 eI eI)) v50), .ow (.lst (List.map eI s13)), .sh ((eO (e2 eI eI)) v38.1), .sh (eI x17), .sh (eI v16), .sh ((eT eI) v22), .sh (eI x35), .sh ((eO (e2 eI eI)) v49.1), j33, j34]) (ac_ (fr_s ev_4) (an_ _)) rfl rfl (sim__law_plain (a_thing := ((eO (e2 eI eI)) v50)) hv51) rfl)) rfl (tru_b _))) c54 (tb_ (bin_s ev_4 (fn_s (ρ2 := [.ow (W1 ds v49.2), .sh (eI a_p), .sh ((e2 eI eI) a_curve), .sh ((eL (e2 eI eI)) v1), .sh ((eO (e2 eI eI)) v50), .ow (.lst (List.map eI s13)), .sh ((eO (e2 eI eI)) v38.1), .sh (eI x17), .sh (eI v16), .sh ((eT eI) v22), .sh (eI x35), .sh ((eO (e2 eI eI)) v49.1), j33, j34]) (ac_ (fr_s ev_1) (ac_ (fr_s ev_2) (ac_ (fr_s ev_6) (ac_ (fr_s ev_11) (an_ _))))) rfl rfl (sim__law_added (a_p := a_p) (a_curve := a_curve) (a_u := v38.1) (a_v := v49.1) hv52) rfl) (ne_e (e := (eO (e2 eI eI))) v50 v52))))) c55 ?_
            refine wp_nil ?_
            refine qs_nx ?_
            obtain ⟨v57, hv57, h⟩ := bnd h
            refine wp_seq (ρ1 := [.ow (W1 ds v49.2), .sh (eI a_p), .sh ((e2 eI eI) a_curve), .sh ((eL (e2 eI eI)) v1), .sh ((eO (e2 eI eI)) v50), .ow (.lst (List.map eI s13)), .sh ((eO (e2 eI eI)) v38.1), .sh (eI x17), .sh (eI v16), .sh ((eT eI) v22), .sh (eI x35), .sh ((eO (e2 eI eI)) v49.1), .sh ((eL (eO (e2 eI eI))) v57), j34]) (set_s (pk_s (cp_s (show _ = some (Rv.sh ((eL (eO (e2 eI eI))) v57), ([.ow (W1 ds v49.2), .sh (eI a_p), .sh ((e2 eI eI) a_curve), .sh ((eL (e2 eI eI)) v1), .sh ((eO (e2 eI eI)) v50), .ow (.lst (List.map eI s13)), .sh ((eO (e2 eI eI)) v38.1), .sh (eI x17), .sh (eI v16), .sh ((eT eI) v22), .sh (eI x35), .sh ((eO (e2 eI eI)) v49.1), j33, j34] : Rho)) from ite_elim hv57 (fun c58 h => by obtain ⟨v56, hv56, h⟩ := bnd h; rw [← Option.some.inj h]; exact eif_t (tb_ (bin_s ev_6 (ec _ _) (notndx_e (e := (e2 eI eI)) v38.1))) c58 (fr_s (fn_s (ρ2 := [.ow (W1 ds v49.2), .sh (eI a_p), .sh ((e2 eI eI) a_curve), .sh ((eL (e2 eI eI)) v1), .sh ((eO (e2 eI eI)) v50), .ow (.lst (List.map eI s13)), .sh ((eO (e2 eI eI)) v38.1), .sh (eI x17), .sh (eI v16), .sh ((eT eI) v22), .sh (eI x35), .sh ((eO (e2 eI eI)) v49.1), j33, j34]) (ac_ (fr_s ev_1) (ac_ (fr_s ev_2) (ac_ (fr_s ev_6) (an_ _)))) rfl rfl (sim__law_multiples (a_p := a_p) (a_curve := a_curve) (a_u := v38.1) hv56) rfl))) (fun c59 h => by rw [← Option.some.inj h]; exact eif_f (tb_ (bin_s ev_6 (ec _ _) (notndx_e (e := (e2 eI eI)) v38.1))) c59 (fr_o (lst_ (ac_ (ec _ _) (an_ _)) rfl (few' rfl)))))))) ?_
            obtain ⟨v60, hv60, h⟩ := bnd h
            refine wp_seq (ρ1 := [.ow (W1 ds v49.2), .sh (eI a_p), .sh ((e2 eI eI) a_curve), .sh ((eL (e2 eI eI)) v1), .sh (eI v60), .ow (.lst (List.map eI s13)), .sh ((eO (e2 eI eI)) v38.1), .sh (eI x17), .sh (eI v16), .sh ((eT eI) v22), .sh (eI x35), .sh ((eO (e2 eI eI)) v49.1), .sh ((eL (eO (e2 eI eI))) v57), j34]) (set_s (pk_s (fn_s (ρ2 := [.ow (W1 ds v49.2), .sh (eI a_p), .sh ((e2 eI eI) a_curve), .sh ((eL (e2 eI eI)) v1), .sh ((eO (e2 eI eI)) v50), .ow (.lst (List.map eI s13)), .sh ((eO (e2 eI eI)) v38.1), .sh (eI x17), .sh (eI v16), .sh ((eT eI) v22), .sh (eI x35), .sh ((eO (e2 eI eI)) v49.1), .sh ((eL (eO (e2 eI eI))) v57), j34]) (ac_ (fr_s ev_1) (ac_ (fr_s ev_2) (ac_ (fr_s ev_6) (an_ _)))) rfl rfl (sim_order_of_point (a_p := a_p) (a_curve := a_curve) (a_u := v38.1) hv60) rfl))) ?_
            obtain ⟨v61, hv61, h⟩ := bnd h
            refine wp_seqW ?_
            refine ite_elim h (fun c62 h => ?_) (fun c62 h => ?_)
            · refine wp_if_t (tor_ (tno_ (tv_ (pk_s (fn_s (ρ2 := [.ow (W1 ds v49.2), .sh (eI a_p), .sh ((e2 eI eI) a_curve), .sh ((eL (e2 eI eI)) v1), .sh (eI v60), .ow (.lst (List.map eI s13)), .sh ((eO (e2 eI eI)) v38.1), .sh (eI x17), .sh (eI v16), .sh ((eT eI) v22), .sh (eI x35), .sh ((eO (e2 eI eI)) v49.1), .sh ((eL (eO (e2 eI eI))) v57), j34]) (ac_ (fr_s ev_4) (an_ _)) rfl rfl (sim__law_plain (a_thing := (eI v60)) hv61) rfl)) rfl (tru_b _))) (tb_ (bin_s ev_4 (call_s (ac_ ev_12 (an_ _)) rfl (lenL_e (e := (eO (e2 eI eI))) v57)) (ne_i _ _)))) c62 ?_
              refine wp_ret (ec _ _) ?_
              refine qs_rt ?_
              cases h
              exact pb_rt (rt_i rfl rfl)
            · refine wp_if_f (tor_ (tno_ (tv_ (pk_s (fn_s (ρ2 := [.ow (W1 ds v49.2), .sh (eI a_p), .sh ((e2 eI eI) a_curve), .sh ((eL (e2 eI eI)) v1), .sh (eI v60), .ow (.lst (List.map eI s13)), .sh ((eO (e2 eI eI)) v38.1), .sh (eI x17), .sh (eI v16), .sh ((eT eI) v22), .sh (eI x35), .sh ((eO (e2 eI eI)) v49.1), .sh ((eL (eO (e2 eI eI))) v57), j34]) (ac_ (fr_s ev_4) (an_ _)) rfl rfl (sim__law_plain (a_thing := (eI v60)) hv61) rfl)) rfl (tru_b _))) (tb_ (bin_s ev_4 (call_s (ac_ ev_12 (an_ _)) rfl (lenL_e (e := (eO (e2 eI eI))) v57)) (ne_i _ _)))) c62 ?_
              refine wp_nil ?_
              refine qs_nx ?_
              obtain ⟨v63, hv63, h⟩ := bnd h
              refine (wp_for (R := (fun (s64 : Unit) ρ => ∃ j65 j66, ρ = [.ow (W1 ds v63.2), .sh (eI a_p), .sh ((e2 eI eI) a_curve), .sh ((eL (e2 eI eI)) v1), j65, .ow (.lst (List.map eI s13)), .sh ((eO (e2 eI eI)) v38.1), .sh (eI x17), .sh (eI v16), .sh ((eT eI) v22), .sh (eI x35), .sh ((eO (e2 eI eI)) v49.1), .sh ((eL (eO (e2 eI eI))) v57), j66])) (Qr := fun (x : (Bool × Nat)) => Rt [.ow (W1 ds a_w), .sh (eI a_p), .sh ((e2 eI eI) a_curve)] [0] (.sh (eB x.1)) [.ow (W1 ds x.2), .sh (eI a_p), .sh ((e2 eI eI) a_curve)]) (e := eI) (s0 := ()) (iseq_t (e := eI) (fr_s (tup_ (ac_ (fr_s (bin_s (fn_s (ρ2 := [.ow (W1 ds v63.2), .sh (eI a_p), .sh ((e2 eI eI) a_curve), .sh ((eL (e2 eI eI)) v1), .sh (eI v60), .ow (.lst (List.map eI s13)), .sh ((eO (e2 eI eI)) v38.1), .sh (eI x17), .sh (eI v16), .sh ((eT eI) v22), .sh (eI x35), .sh ((eO (e2 eI eI)) v49.1), .sh ((eL (eO (e2 eI eI))) v57), j34]) (ac_ eva_0 (ac_ (ec _ _) (an_ _))) rfl rfl (sim_next hv63) rfl) (ec _ _) (sub_i _ _))) (ac_ (ec _ _) (ac_ (un_gs (ec _ _) rfl (neg_i _)) (ac_ (ec _ _) (an_ _))))) rfl (few' rfl)))) ⟨_, _, rfl⟩ (fun x67 s64 s' ρ hx hR h => ?_) h ?_ (fun x rv ρ hk hq => by cases hk; exact (pb_rt hq)))
              · obtain ⟨j65, j66, rfl⟩ := hR
                refine ⟨[.ow (W1 ds v63.2), .sh (eI a_p), .sh ((e2 eI eI) a_curve), .sh ((eL (e2 eI eI)) v1), j65, .ow (.lst (List.map eI s13)), .sh ((eO (e2 eI eI)) v38.1), .sh (eI x17), .sh (eI v16), .sh ((eT eI) v22), .sh (eI x35), .sh ((eO (e2 eI eI)) v49.1), .sh ((eL (eO (e2 eI eI))) v57), .sh (eI x67)], rfl, ?_⟩
                obtain ⟨v68, hv68, h⟩ := bnd h
                refine wp_seq (ρ1 := [.ow (W1 ds v63.2), .sh (eI a_p), .sh ((e2 eI eI) a_curve), .sh ((eL (e2 eI eI)) v1), .sh ((eO (e2 eI eI)) v68), .ow (.lst (List.map eI s13)), .sh ((eO (e2 eI eI)) v38.1), .sh (eI x17), .sh (eI v16), .sh ((eT eI) v22), .sh (eI x35), .sh ((eO (e2 eI eI)) v49.1), .sh ((eL (eO (e2 eI eI))) v57), .sh (eI x67)]) (set_s (pk_s (fn_s (ρ2 := [.ow (W1 ds v63.2), .sh (eI a_p), .sh ((e2 eI eI) a_curve), .sh ((eL (e2 eI eI)) v1), j65, .ow (.lst (List.map eI s13)), .sh ((eO (e2 eI eI)) v38.1), .sh (eI x17), .sh (eI v16), .sh ((eT eI) v22), .sh (eI x35), .sh ((eO (e2 eI eI)) v49.1), .sh ((eL (eO (e2 eI eI))) v57), .sh (eI x67)]) (ac_ (fr_s ev_1) (ac_ (fr_s ev_2) (ac_ (fr_s ev_13) (ac_ (fr_s ev_6) (an_ _))))) rfl rfl (sim_times_point (a_p := a_p) (a_curve := a_curve) (a_k := x67) (a_u := v38.1) hv68) rfl))) ?_
                obtain ⟨v69, hv69, h⟩ := bnd h
                obtain ⟨v72, hv72, h⟩ := bnd h
                refine ite_elim h (fun c74 h => ?_) (fun c74 h => ?_)
                · refine wp_if_t (show _ = some (v72, ([.ow (W1 ds v63.2), .sh (eI a_p), .sh ((e2 eI eI) a_curve), .sh ((eL (e2 eI eI)) v1), .sh ((eO (e2 eI eI)) v68), .ow (.lst (List.map eI s13)), .sh ((eO (e2 eI eI)) v38.1), .sh (eI x17), .sh (eI v16), .sh ((eT eI) v22), .sh (eI x35), .sh ((eO (e2 eI eI)) v49.1), .sh ((eL (eO (e2 eI eI))) v57), .sh (eI x67)] : Rho)) from ite_elim hv72 (fun c73 h => by rw [← Option.some.inj h]; exact tor_t (tno_ (tv_ (pk_s (fn_s (ρ2 := [.ow (W1 ds v63.2), .sh (eI a_p), .sh ((e2 eI eI) a_curve), .sh ((eL (e2 eI eI)) v1), .sh ((eO (e2 eI eI)) v68), .ow (.lst (List.map eI s13)), .sh ((eO (e2 eI eI)) v38.1), .sh (eI x17), .sh (eI v16), .sh ((eT eI) v22), .sh (eI x35), .sh ((eO (e2 eI eI)) v49.1), .sh ((eL (eO (e2 eI eI))) v57), .sh (eI x67)]) (ac_ (fr_s ev_4) (an_ _)) rfl rfl (sim__law_plain (a_thing := ((eO (e2 eI eI)) v68)) hv69) rfl)) rfl (tru_b _))) c73) (fun c73 h => by obtain ⟨v70, hv70, h⟩ := bnd h; obtain ⟨v71, hv71, h⟩ := bnd h; rw [← Option.some.inj h]; exact tor_f (tno_ (tv_ (pk_s (fn_s (ρ2 := [.ow (W1 ds v63.2), .sh (eI a_p), .sh ((e2 eI eI) a_curve), .sh ((eL (e2 eI eI)) v1), .sh ((eO (e2 eI eI)) v68), .ow (.lst (List.map eI s13)), .sh ((eO (e2 eI eI)) v38.1), .sh (eI x17), .sh (eI v16), .sh ((eT eI) v22), .sh (eI x35), .sh ((eO (e2 eI eI)) v49.1), .sh ((eL (eO (e2 eI eI))) v57), .sh (eI x67)]) (ac_ (fr_s ev_4) (an_ _)) rfl rfl (sim__law_plain (a_thing := ((eO (e2 eI eI)) v68)) hv69) rfl)) rfl (tru_b _))) c73 (tb_ (bin_s ev_4 (bin_s ev_12 (bin_s (call_s (ac_ ev_13 (an_ _)) rfl (int_i _)) (call_s (ac_ ev_12 (an_ _)) rfl (lenL_e (e := (eO (e2 eI eI))) v57)) (mod_t hv70)) (ixl_e (e := (eO (e2 eI eI))) hv71)) (ne_e (e := (eO (e2 eI eI))) v68 v71))))) c74 ?_
                  refine wp_ret (ec _ _) ?_
                  cases h
                  exact pb_rt (rt_i rfl rfl)
                · refine wp_if_f (show _ = some (v72, ([.ow (W1 ds v63.2), .sh (eI a_p), .sh ((e2 eI eI) a_curve), .sh ((eL (e2 eI eI)) v1), .sh ((eO (e2 eI eI)) v68), .ow (.lst (List.map eI s13)), .sh ((eO (e2 eI eI)) v38.1), .sh (eI x17), .sh (eI v16), .sh ((eT eI) v22), .sh (eI x35), .sh ((eO (e2 eI eI)) v49.1), .sh ((eL (eO (e2 eI eI))) v57), .sh (eI x67)] : Rho)) from ite_elim hv72 (fun c73 h => by rw [← Option.some.inj h]; exact tor_t (tno_ (tv_ (pk_s (fn_s (ρ2 := [.ow (W1 ds v63.2), .sh (eI a_p), .sh ((e2 eI eI) a_curve), .sh ((eL (e2 eI eI)) v1), .sh ((eO (e2 eI eI)) v68), .ow (.lst (List.map eI s13)), .sh ((eO (e2 eI eI)) v38.1), .sh (eI x17), .sh (eI v16), .sh ((eT eI) v22), .sh (eI x35), .sh ((eO (e2 eI eI)) v49.1), .sh ((eL (eO (e2 eI eI))) v57), .sh (eI x67)]) (ac_ (fr_s ev_4) (an_ _)) rfl rfl (sim__law_plain (a_thing := ((eO (e2 eI eI)) v68)) hv69) rfl)) rfl (tru_b _))) c73) (fun c73 h => by obtain ⟨v70, hv70, h⟩ := bnd h; obtain ⟨v71, hv71, h⟩ := bnd h; rw [← Option.some.inj h]; exact tor_f (tno_ (tv_ (pk_s (fn_s (ρ2 := [.ow (W1 ds v63.2), .sh (eI a_p), .sh ((e2 eI eI) a_curve), .sh ((eL (e2 eI eI)) v1), .sh ((eO (e2 eI eI)) v68), .ow (.lst (List.map eI s13)), .sh ((eO (e2 eI eI)) v38.1), .sh (eI x17), .sh (eI v16), .sh ((eT eI) v22), .sh (eI x35), .sh ((eO (e2 eI eI)) v49.1), .sh ((eL (eO (e2 eI eI))) v57), .sh (eI x67)]) (ac_ (fr_s ev_4) (an_ _)) rfl rfl (sim__law_plain (a_thing := ((eO (e2 eI eI)) v68)) hv69) rfl)) rfl (tru_b _))) c73 (tb_ (bin_s ev_4 (bin_s ev_12 (bin_s (call_s (ac_ ev_13 (an_ _)) rfl (int_i _)) (call_s (ac_ ev_12 (an_ _)) rfl (lenL_e (e := (eO (e2 eI eI))) v57)) (mod_t hv70)) (ixl_e (e := (eO (e2 eI eI))) hv71)) (ne_e (e := (eO (e2 eI eI))) v68 v71))))) c74 ?_
                  refine wp_nil ?_
                  cases h
                  exact pb_nx ⟨_, _, rfl⟩
              · intro s75 ρ hR h
                obtain ⟨j76, j77, rfl⟩ := hR
                cases h
                exact pb_nx ⟨_, _, _, _, _, _, rfl⟩
        · intro s78 ρ hR h
          obtain ⟨j79, j80, j81, j82, j83, j84, rfl⟩ := hR
          refine qs_nx ?_
          refine wp_ret (ec _ _) ?_
          cases h
          exact rt_i rfl rfl
/-! _law_turned -/
def t__law_turned (a_p : Int) (a_curve : (Int × Int)) (a_u : Int) : Option (Int × Int) :=
(mulO a_curve.1 a_u).bind fun v1 =>
(mulO v1 a_u).bind fun v2 =>
(mulO v2 a_u).bind fun v3 =>
(mulO v3 a_u).bind fun v4 =>
(modO v4 a_p).bind fun v5 =>
(mulO a_curve.2 a_u).bind fun v6 =>
(mulO v6 a_u).bind fun v7 =>
(mulO v7 a_u).bind fun v8 =>
(mulO v8 a_u).bind fun v9 =>
(mulO v9 a_u).bind fun v10 =>
(mulO v10 a_u).bind fun v11 =>
(modO v11 a_p).bind fun v12 =>
some (v5, v12)
theorem sim__law_turned {a_p : Int} {a_curve : (Int × Int)} {a_u : Int} {r : (Int × Int)} (h : t__law_turned a_p a_curve a_u = some r) : F__law_turned [.sh (eI a_p), .sh ((e2 eI eI) a_curve), .sh (eI a_u)] = some (.sh ((e2 eI eI) r), [.sh (eI a_p), .sh ((e2 eI eI) a_curve), .sh (eI a_u)]) := by
  unfold t__law_turned at h
  refine run_wp rfl (fun i => by intro z; cases z) ?_
  show Wp (g__law_turned [.sh (eI a_p), .sh ((e2 eI eI) a_curve), .sh (eI a_u)]) _
  unfold g__law_turned
  obtain ⟨v1, hv1, h⟩ := bnd h
  obtain ⟨v2, hv2, h⟩ := bnd h
  obtain ⟨v3, hv3, h⟩ := bnd h
  obtain ⟨v4, hv4, h⟩ := bnd h
  obtain ⟨v5, hv5, h⟩ := bnd h
  obtain ⟨v6, hv6, h⟩ := bnd h
  obtain ⟨v7, hv7, h⟩ := bnd h
  obtain ⟨v8, hv8, h⟩ := bnd h
  obtain ⟨v9, hv9, h⟩ := bnd h
  obtain ⟨v10, hv10, h⟩ := bnd h
  obtain ⟨v11, hv11, h⟩ := bnd h
  obtain ⟨v12, hv12, h⟩ := bnd h
  refine wp_ret (tup_ (ac_ (fr_s (bin_s (call_s (ac_ (bin_s (bin_s (bin_s (bin_s (bin_s ev_1 (ec _ _) (show ixA ((e2 eI eI) a_curve) (eI 0) = some (.sh (eI a_curve.1)) from rfl)) ev_2 (mul_t hv1)) ev_2 (mul_t hv2)) ev_2 (mul_t hv3)) ev_2 (mul_t hv4)) (an_ _)) rfl (int_i _)) ev_0 (mod_t hv5))) (ac_ (fr_s (bin_s (call_s (ac_ (bin_s (bin_s (bin_s (bin_s (bin_s (bin_s (bin_s ev_1 (ec _ _) (show ixA ((e2 eI eI) a_curve) (eI 1) = some (.sh (eI a_curve.2)) from rfl)) ev_2 (mul_t hv6)) ev_2 (mul_t hv7)) ev_2 (mul_t hv8)) ev_2 (mul_t hv9)) ev_2 (mul_t hv10)) ev_2 (mul_t hv11)) (an_ _)) rfl (int_i _)) ev_0 (mod_t hv12))) (an_ _))) rfl (few' rfl)) ?_
  cases h
  exact rt_i rfl rfl
/-! curve_form -/
def t_curve_form (a_p : Int) (a_curve : (Int × Int)) : Option ((Int × Int) × Int) :=
(rngO2 1 a_p).bind fun r2 =>
(szO (mapO (fun (x3 : Int) => (t__turned a_p a_curve x3).bind fun v4 => some (v4, x3)) r2)).bind fun y5 =>
(minO (e2 (e2 eI eI) eI) y5).bind fun v6 =>
some v6
theorem sim_curve_form {a_p : Int} {a_curve : (Int × Int)} {r : ((Int × Int) × Int)} (h : t_curve_form a_p a_curve = some r) : F_curve_form [.sh (eI a_p), .sh ((e2 eI eI) a_curve)] = some (.sh ((e2 (e2 eI eI) eI) r), [.sh (eI a_p), .sh ((e2 eI eI) a_curve)]) := by
  unfold t_curve_form at h
  refine run_wp rfl (fun i => by intro z; cases z) ?_
  show Wp (g_curve_form [.sh (eI a_p), .sh ((e2 eI eI) a_curve), .no]) _
  unfold g_curve_form
  obtain ⟨r2, hr2, h⟩ := bnd h
  obtain ⟨y5, hy5, h⟩ := bnd h
  obtain ⟨v6, hv6, h⟩ := bnd h
  refine wp_ret (fr_s (call_s (ac_ (lm_ (W := [.sh (eI a_p), .sh ((e2 eI eI) a_curve), .no]) (e := eI) (e' := (e2 (e2 eI eI) eI)) (irng_ (e := eI) (ac_ (ec _ _) (ac_ ev_0 (an_ _))) rfl (rng2_t hr2)) rfl rfl (fun x3 _ _ h => by obtain ⟨v4, hv4, h⟩ := bnd h; rw [← Option.some.inj h]; exact ⟨[.sh (eI a_p), .sh ((e2 eI eI) a_curve), .sh (eI x3)], [.sh (eI a_p), .sh ((e2 eI eI) a_curve), .sh (eI x3)], rfl, (fr_s (tup_ (ac_ (fr_s (fn_s (ρ2 := [.sh (eI a_p), .sh ((e2 eI eI) a_curve), .sh (eI x3)]) (ac_ (fr_s ev_0) (ac_ (fr_s ev_1) (ac_ (fr_s ev_2) (an_ _)))) rfl rfl (sim__turned (a_p := a_p) (a_curve := a_curve) (a_u := x3) hv4) rfl)) (ac_ (fr_s ev_2) (an_ _))) rfl (few' rfl))), rfl⟩) hy5) (an_ _)) rfl (minL_e hv6))) ?_
  cases h
  exact rt_i rfl rfl
/-! _law_forms -/
def t__law_forms (a_p : Int) : Option ((List (Int × Int)) × Int) :=
(rngO1 a_p).bind fun r1 =>
(foldO (fun (x6 : Int) (s2 : ((List (Int × Int)) × (List ((Int × Int) × Bool)))) => (rngO1 a_p).bind fun r7 =>
(foldO (fun (x11 : Int) (s8 : ((List (Int × Int)) × (List ((Int × Int) × Bool)))) => (t__law_is_curve a_p (x6, x11)).bind fun v12 =>
if (v12 && (!dhas (EqE.eq (e2 eI eI)) s8.2 (x6, x11))) = true then ((pushO s8.1 (x6, x11)).bind fun v14 =>
(rngO2 1 a_p).bind fun r15 =>
(foldO (fun (x18 : Int) (s16 : (List ((Int × Int) × Bool))) => (t__law_turned a_p (x6, x11) x18).bind fun v19 =>
(dputO (EqE.eq (e2 eI eI)) s16 v19 true).bind fun v20 =>
some v20) r15 s8.2).bind fun (s21 : (List ((Int × Int) × Bool))) =>
some (v14, s21)) else (some (s8.1, s8.2))) r7 (s2.1, s2.2)).bind fun (s23 : ((List (Int × Int)) × (List ((Int × Int) × Bool)))) =>
some (s23.1, s23.2)) r1 ([], [])).bind fun (s26 : ((List (Int × Int)) × (List ((Int × Int) × Bool)))) =>
(lenNO s26.2).bind fun v30 =>
some (s26.1, v30)
theorem sim__law_forms {a_p : Int} {r : ((List (Int × Int)) × Int)} (h : t__law_forms a_p = some r) : F__law_forms [.sh (eI a_p)] = some (.sh ((e2 (eL (e2 eI eI)) eI) r), [.sh (eI a_p)]) := by
  unfold t__law_forms at h
  refine run_wp rfl (fun i => by intro z; cases z) ?_
  show Wp (g__law_forms [.sh (eI a_p), .no, .no, .no, .no, .no]) _
  unfold g__law_forms
  refine wp_seq (ρ1 := [.sh (eI a_p), .ow (.lst (List.map (e2 eI eI) [])), .ow (.dtn (List.map (ekv (e2 eI eI) eB) [])), .no, .no, .no]) (par_ (ac_ (lst_ (an_ _) rfl (few' rfl)) (ac_ (dtn_ _) (an_ _))) rfl rfl) ?_
  obtain ⟨r1, hr1, h⟩ := bnd h
  refine wp_seqW (wp_fold (R := (fun (s2 : ((List (Int × Int)) × (List ((Int × Int) × Bool)))) ρ => ∃ j3 j4 j5, ρ = [.sh (eI a_p), .ow (.lst (List.map (e2 eI eI) s2.1)), .ow (.dtn (List.map (ekv (e2 eI eI) eB) s2.2)), j3, j4, j5])) (e := eI) (s0 := ([], [])) (irng_ (e := eI) (ac_ ev_0 (an_ _)) rfl (rng1_t hr1)) ⟨_, _, _, rfl⟩ (fun x6 s2 s' ρ hx hR h => ?_) h ?_)
  · obtain ⟨j3, j4, j5, rfl⟩ := hR
    refine ⟨[.sh (eI a_p), .ow (.lst (List.map (e2 eI eI) s2.1)), .ow (.dtn (List.map (ekv (e2 eI eI) eB) s2.2)), .sh (eI x6), j4, j5], rfl, ?_⟩
    obtain ⟨r7, hr7, h⟩ := bnd h
    refine (wp_fold (R := (fun (s8 : ((List (Int × Int)) × (List ((Int × Int) × Bool)))) ρ => ∃ j9 j10, ρ = [.sh (eI a_p), .ow (.lst (List.map (e2 eI eI) s8.1)), .ow (.dtn (List.map (ekv (e2 eI eI) eB) s8.2)), .sh (eI x6), j9, j10])) (e := eI) (s0 := (s2.1, s2.2)) (irng_ (e := eI) (ac_ ev_0 (an_ _)) rfl (rng1_t hr7)) ⟨_, _, rfl⟩ (fun x11 s8 s' ρ hx hR h => ?_) h ?_)
    · obtain ⟨j9, j10, rfl⟩ := hR
      refine ⟨[.sh (eI a_p), .ow (.lst (List.map (e2 eI eI) s8.1)), .ow (.dtn (List.map (ekv (e2 eI eI) eB) s8.2)), .sh (eI x6), .sh (eI x11), j10], rfl, ?_⟩
      obtain ⟨v12, hv12, h⟩ := bnd h
      refine ite_elim h (fun c13 h => ?_) (fun c13 h => ?_)
      · refine wp_if_t (tan_ (tv_ (pk_s (fn_s (ρ2 := [.sh (eI a_p), .ow (.lst (List.map (e2 eI eI) s8.1)), .ow (.dtn (List.map (ekv (e2 eI eI) eB) s8.2)), .sh (eI x6), .sh (eI x11), j10]) (ac_ (fr_s ev_0) (ac_ (tup_ (ac_ (fr_s ev_3) (ac_ (fr_s ev_4) (an_ _))) rfl (few' rfl)) (an_ _))) rfl rfl (sim__law_is_curve (a_p := a_p) (a_curve := (x6, x11)) hv12) rfl)) rfl (tru_b _)) (tb_ (bin_gs (pk_s (tup_ (ac_ (fr_s ev_3) (ac_ (fr_s ev_4) (an_ _))) rfl (few' rfl))) (pk_al eva_2) rfl rfl (ninN_e (ek := (e2 eI eI)) (ev := eB) s8.2 (x6, x11))))) c13 ?_
        obtain ⟨v14, hv14, h⟩ := bnd h
        refine wp_seq (ρ1 := [.sh (eI a_p), .ow (.lst (List.map (e2 eI eI) v14)), .ow (.dtn (List.map (ekv (e2 eI eI) eB) s8.2)), .sh (eI x6), .sh (eI x11), j10]) (expr_ (push_ (e := (e2 eI eI)) hv14 eva_1 rfl (ac_ (tup_ (ac_ (fr_s ev_3) (ac_ (fr_s ev_4) (an_ _))) rfl (few' rfl)) (an_ _)) rfl)) ?_
        obtain ⟨r15, hr15, h⟩ := bnd h
        refine (wp_fold (R := (fun (s16 : (List ((Int × Int) × Bool))) ρ => ∃ j17, ρ = [.sh (eI a_p), .ow (.lst (List.map (e2 eI eI) v14)), .ow (.dtn (List.map (ekv (e2 eI eI) eB) s16)), .sh (eI x6), .sh (eI x11), j17])) (e := eI) (s0 := s8.2) (irng_ (e := eI) (ac_ (ec _ _) (ac_ ev_0 (an_ _))) rfl (rng2_t hr15)) ⟨_, rfl⟩ (fun x18 s16 s' ρ hx hR h => ?_) h ?_)
        · obtain ⟨j17, rfl⟩ := hR
          refine ⟨[.sh (eI a_p), .ow (.lst (List.map (e2 eI eI) v14)), .ow (.dtn (List.map (ekv (e2 eI eI) eB) s16)), .sh (eI x6), .sh (eI x11), .sh (eI x18)], rfl, ?_⟩
          obtain ⟨v19, hv19, h⟩ := bnd h
          obtain ⟨v20, hv20, h⟩ := bnd h
          refine wp_st (ρ1 := [.sh (eI a_p), .ow (.lst (List.map (e2 eI eI) v14)), .ow (.dtn (List.map (ekv (e2 eI eI) eB) v20)), .sh (eI x6), .sh (eI x11), .sh (eI x18)]) (asg_ (fr_s (ec _ _)) (tsub_ eva_2 (pk_s (fn_s (ρ2 := [.sh (eI a_p), .ow (.lst (List.map (e2 eI eI) v14)), .ow (.dtn (List.map (ekv (e2 eI eI) eB) s16)), .sh (eI x6), .sh (eI x11), .sh (eI x18)]) (ac_ (fr_s ev_0) (ac_ (tup_ (ac_ (fr_s ev_3) (ac_ (fr_s ev_4) (an_ _))) rfl (few' rfl)) (ac_ (fr_s ev_5) (an_ _)))) rfl rfl (sim__law_turned (a_p := a_p) (a_curve := (x6, x11)) (a_u := x18) hv19) rfl)) rfl rfl (setN_e (ek := (e2 eI eI)) (ev := eB) hv20))) ?_
          cases h
          exact ⟨_, .inl rfl, ⟨_, rfl⟩⟩
        · intro s21 ρ hR h
          obtain ⟨j22, rfl⟩ := hR
          cases h
          exact ⟨_, .inl rfl, ⟨_, _, rfl⟩⟩
      · refine wp_if_f (tan_ (tv_ (pk_s (fn_s (ρ2 := [.sh (eI a_p), .ow (.lst (List.map (e2 eI eI) s8.1)), .ow (.dtn (List.map (ekv (e2 eI eI) eB) s8.2)), .sh (eI x6), .sh (eI x11), j10]) (ac_ (fr_s ev_0) (ac_ (tup_ (ac_ (fr_s ev_3) (ac_ (fr_s ev_4) (an_ _))) rfl (few' rfl)) (an_ _))) rfl rfl (sim__law_is_curve (a_p := a_p) (a_curve := (x6, x11)) hv12) rfl)) rfl (tru_b _)) (tb_ (bin_gs (pk_s (tup_ (ac_ (fr_s ev_3) (ac_ (fr_s ev_4) (an_ _))) rfl (few' rfl))) (pk_al eva_2) rfl rfl (ninN_e (ek := (e2 eI eI)) (ev := eB) s8.2 (x6, x11))))) c13 ?_
        refine wp_nil ?_
        cases h
        exact ⟨_, .inl rfl, ⟨_, _, rfl⟩⟩
    · intro s23 ρ hR h
      obtain ⟨j24, j25, rfl⟩ := hR
      cases h
      exact ⟨_, .inl rfl, ⟨_, _, _, rfl⟩⟩
  · intro s26 ρ hR h
    obtain ⟨j27, j28, j29, rfl⟩ := hR
    refine qs_nx ?_
    obtain ⟨v30, hv30, h⟩ := bnd h
    refine wp_ret (tup_ (ac_ (fr_al (ds := List.map (e2 eI eI) s26.1) eva_1 rfl) (ac_ (fr_s (call_s (ac_ eva_2 (an_ _)) rfl (lenN_e (ek := (e2 eI eI)) (ev := eB) hv30))) (an_ _))) rfl (few' rfl)) ?_
    cases h
    exact rt_i rfl rfl
/-! all_curves -/
def t_all_curves (a_p : Int) : Option (List (Int × Int)) :=
(rngO1 a_p).bind fun r2 =>
(szO (catO (fun (x3 : Int) => (rngO1 a_p).bind fun r5 => lcO (fun (x4 : Int) => (mulO (4 * x3) x3).bind fun v6 => (mulO v6 x3).bind fun v7 => (mulO (27 * x4) x4).bind fun v8 => (modO (v7 + v8) a_p).bind fun v9 => if (!decide (v9 = 0)) = true then (some (some (x3, x4))) else some none) r5) r2)).bind fun y10 =>
(szO (lcO (fun (x12 : (Int × Int)) => (t_curve_form a_p x12).bind fun v13 => if (eqE (e2 eI eI) v13.1 x12) = true then (some (some x12)) else some none) y10)).bind fun y14 =>
some y14
theorem sim_all_curves {a_p : Int} {r : (List (Int × Int))} (h : t_all_curves a_p = some r) : F_all_curves [.sh (eI a_p)] = some (.sh ((eT (e2 eI eI)) r), [.sh (eI a_p)]) := by
  unfold t_all_curves at h
  refine run_wp rfl (fun i => by intro z; cases z) ?_
  show Wp (g_all_curves [.sh (eI a_p), .no, .no, .no, .no]) _
  unfold g_all_curves
  obtain ⟨r2, hr2, h⟩ := bnd h
  obtain ⟨y10, hy10, h⟩ := bnd h
  refine wp_seq (ρ1 := [.sh (eI a_p), .sh ((eL (e2 eI eI)) y10), .no, .no, .no]) (set_s (pk_o (lc2_ (W := [.sh (eI a_p), .no, .no, .no, .no]) (e := eI) (e' := (e2 eI eI)) (irng_ (e := eI) (ac_ ev_0 (an_ _)) rfl (rng1_t hr2)) rfl rfl (fun x3 _ _ h => by obtain ⟨r5, hr5, h⟩ := bnd h; exact ⟨[.sh (eI a_p), .no, .sh (eI x3), .no, .no], rfl, (inn_t (ρ3 := [.sh (eI a_p), .no, .sh (eI x3), .no, .no]) (W1 := [.sh (eI a_p), .no, .sh (eI x3), .no, .no]) (e1 := eI) rfl (irng_ (e := eI) (ac_ ev_0 (an_ _)) rfl (rng1_t hr5)) (by decide) rfl rfl h (fun x4 _ _ h => by obtain ⟨v6, hv6, h⟩ := bnd h; obtain ⟨v7, hv7, h⟩ := bnd h; obtain ⟨v8, hv8, h⟩ := bnd h; obtain ⟨v9, hv9, h⟩ := bnd h; exact ite_elim h (fun c1 h => by rw [← Option.some.inj h]; exact ⟨[.sh (eI a_p), .no, .sh (eI x3), .sh (eI x4), .no], rfl, _, _, tcong (tb_ (bin_s (bin_s (bin_s (bin_s (bin_s (bin_s (ec _ _) ev_2 (mul_l _ _)) ev_2 (mul_t hv6)) ev_2 (mul_t hv7)) (bin_s (bin_s (ec _ _) ev_3 (mul_l _ _)) ev_3 (mul_t hv8)) (add_i _ _)) ev_0 (mod_t hv9)) (ec _ _) (ne_i _ _))) c1, (fr_s (tup_ (ac_ (fr_s ev_2) (ac_ (fr_s ev_3) (an_ _))) rfl (few' rfl))), rfl⟩) (fun c1 h => by rw [← Option.some.inj h]; exact ⟨[.sh (eI a_p), .no, .sh (eI x3), .sh (eI x4), .no], rfl, _, tcong (tb_ (bin_s (bin_s (bin_s (bin_s (bin_s (bin_s (ec _ _) ev_2 (mul_l _ _)) ev_2 (mul_t hv6)) ev_2 (mul_t hv7)) (bin_s (bin_s (ec _ _) ev_3 (mul_l _ _)) ev_3 (mul_t hv8)) (add_i _ _)) ev_0 (mod_t hv9)) (ec _ _) (ne_i _ _))) c1, rfl⟩)))⟩) hy10))) ?_
  obtain ⟨y14, hy14, h⟩ := bnd h
  refine wp_ret (fr_s (call_s (ac_ (lc_ (W := [.sh (eI a_p), .sh ((eL (e2 eI eI)) y10), .no, .no, .no]) (e := (e2 eI eI)) (e' := (e2 eI eI)) (iseq_l (e := (e2 eI eI)) (fr_s ev_1)) rfl rfl (fun x12 _ _ h => by obtain ⟨v13, hv13, h⟩ := bnd h; exact ite_elim h (fun c11 h => by rw [← Option.some.inj h]; exact ⟨[.sh (eI a_p), .sh ((eL (e2 eI eI)) y10), .no, .no, .sh ((e2 eI eI) x12)], rfl, _, _, tcong (tb_ (bin_s (bin_s (fn_s (ρ2 := [.sh (eI a_p), .sh ((eL (e2 eI eI)) y10), .no, .no, .sh ((e2 eI eI) x12)]) (ac_ (fr_s ev_0) (ac_ (fr_s ev_4) (an_ _))) rfl rfl (sim_curve_form (a_p := a_p) (a_curve := x12) hv13) rfl) (ec _ _) (show ixA ((e2 (e2 eI eI) eI) v13) (eI 0) = some (.sh ((e2 eI eI) v13.1)) from rfl)) ev_4 (eq_e (e := (e2 eI eI)) v13.1 x12))) c11, (fr_s ev_4), rfl⟩) (fun c11 h => by rw [← Option.some.inj h]; exact ⟨[.sh (eI a_p), .sh ((eL (e2 eI eI)) y10), .no, .no, .sh ((e2 eI eI) x12)], rfl, _, tcong (tb_ (bin_s (bin_s (fn_s (ρ2 := [.sh (eI a_p), .sh ((eL (e2 eI eI)) y10), .no, .no, .sh ((e2 eI eI) x12)]) (ac_ (fr_s ev_0) (ac_ (fr_s ev_4) (an_ _))) rfl rfl (sim_curve_form (a_p := a_p) (a_curve := x12) hv13) rfl) (ec _ _) (show ixA ((e2 (e2 eI eI) eI) v13) (eI 0) = some (.sh ((e2 eI eI) v13.1)) from rfl)) ev_4 (eq_e (e := (e2 eI eI)) v13.1 x12))) c11, rfl⟩)) hy14) (an_ _)) rfl (tupL_e (e := (e2 eI eI)) y14))) ?_
  cases h
  exact rt_i rfl rfl
/-! law -/
def t_law (ds : List Int) (a_script : (List Int)) : Option Bool :=
(pickO ds 0 [5, 7, 7, 11, 13, 17]).bind fun v1 =>
(nextO ds v1.2 v1.1).bind fun v2 =>
(nextO ds v2.2 v1.1).bind fun v3 =>
(foldO (fun (x6 : Int) (s4 : (Nat × (Int × Int))) => (t__law_is_curve v1.1 s4.2).bind fun v7 =>
if (!v7) = true then ((nextO ds s4.1 v1.1).bind fun v9 =>
(nextO ds v9.2 (v1.1 - 1)).bind fun v10 =>
(some (v9.1, (1 + v10.1))).bind fun x11 =>
some (v10.2, x11)) else (some (s4.1, s4.2))) (rangeI 0 (Int.toNat 9)) (v3.2, (v2.1, v3.1))).bind fun (s12 : (Nat × (Int × Int))) =>
(t__law_is_curve v1.1 s12.2).bind fun v14 =>
(if (!v14) = true then (some (0, 1)) else (some s12.2)).bind fun s16 =>
(t__law_points_right ds s12.1 v1.1 s16).bind fun v17 =>
if (!v17.1) = true then (some false) else ((rngO2 1 v1.1).bind fun r20 =>
(szO (mapO (fun (x21 : Int) => (t__law_turned v1.1 s16 x21).bind fun v22 => some v22) r20)).bind fun y23 =>
(minO (e2 eI eI) y23).bind fun v24 =>
(pickO ds v17.2 y23).bind fun v25 =>
forB (fun (x29 : (Int × Int)) (s26 : Unit) => (t_curve_form v1.1 x29).bind fun v30 =>
(t__law_plain 4 ((e2 (e2 eI eI) eI) v30)).bind fun v31 =>
((if (!v31) = true then some true else ((rngO2 1 v1.1).bind fun r33 => (szO (lcO (fun (x34 : Int) => (t__law_turned v1.1 x29 x34).bind fun v35 => if (eqE (e2 eI eI) v35 v24) = true then (some (some x34)) else some none) r33)).bind fun y36 => (atI y36 0).bind fun v37 => some (!eqE (e2 (e2 eI eI) eI) v30 (v24, v37))))).bind fun v38 =>
if v38 = true then (some (.rt false)) else (some (.nx ()))) [s16, v25.1] () (fun (s41 : Unit) => (t_curve_keepers v1.1 s16).bind fun v44 =>
(t__law_plain 4 ((eT eI) v44)).bind fun v45 =>
((if (!v45) = true then some true else ((rngO2 1 v1.1).bind fun r47 => (szO (lcO (fun (x48 : Int) => (t__law_turned v1.1 s16 x48).bind fun v49 => if (eqE (e2 eI eI) v49 s16) = true then (some (some x48)) else some none) r47)).bind fun y50 => some (!eqE (eT eI) v44 y50)))).bind fun v51 =>
if v51 = true then (some false) else ((t_shape_number v1.1 s16).bind fun v54 =>
(t__law_plain 4 (eI v54)).bind fun v55 =>
((if (!v55) = true then some true else ((mulO (6912 * s16.1) s16.1).bind fun v56 => (mulO v56 s16.1).bind fun v57 => (mulO (4 * s16.1) s16.1).bind fun v58 => (mulO v58 s16.1).bind fun v59 => (mulO (27 * s16.2) s16.2).bind fun v60 => (t__law_over v1.1 v57 (v59 + v60)).bind fun v61 => ((if (!decide (v54 = v61)) = true then some true else ((t_shape_number v1.1 v25.1).bind fun v62 => some (!decide (v62 = v54))))).bind fun v63 => some v63))).bind fun v65 =>
if v65 = true then (some false) else (if (decide (v1.1 < 14)) = true then ((t__law_forms v1.1).bind fun v69 =>
(t_all_curves v1.1).bind fun v70 =>
(t__law_plain 4 ((eT (e2 eI eI)) v70)).bind fun v71 =>
((if (!v71) = true then some true else (((if (!eqE (eL (e2 eI eI)) v70 v69.1) = true then some true else ((mulO v1.1 v1.1).bind fun v72 => some (!decide (v69.2 = (v72 - v1.1)))))).bind fun v73 => some v73))).bind fun v75 =>
if v75 = true then (some false) else ((szO (mapO (fun (x79 : (Int × Int)) => (t_curve_keepers v1.1 x79).bind fun v80 => (divO (v1.1 - 1) (List.length v80 : Int)).bind fun v81 => some v81) v70)).bind fun y82 =>
(mulO v1.1 v1.1).bind fun v83 =>
if (!decide ((List.sum y82) = (v83 - v1.1))) = true then (some false) else (some true))) else (some true)))) (fun x => some x))
theorem sim_law (ds : List Int) {a_script : (List Int)} {r : Bool} (hd : F__law_draws [.sh (eL eI a_script), .sh (eI 400)] = some (.ow (.lst (List.map eI ds)), [.sh (eL eI a_script), .sh (eI 400)])) (h : t_law ds a_script = some r) : F_law [.sh ((eL eI) a_script)] = some (.sh (eB r), [.sh ((eL eI) a_script)]) := by
  unfold t_law at h
  refine run_wp rfl (fun i => by intro z; cases z) ?_
  show Wp (g_law [.sh ((eL eI) a_script), .no, .no, .no, .no, .no, .no, .no, .no, .no, .no, .no, .no, .no, .no, .no]) _
  unfold g_law
  refine wp_seq (ρ1 := [.sh ((eL eI) a_script), .ow (W1 ds 0), .no, .no, .no, .no, .no, .no, .no, .no, .no, .no, .no, .no, .no, .no]) (w_init rfl hd) ?_
  obtain ⟨v1, hv1, h⟩ := bnd h
  refine wp_seq (ρ1 := [.sh ((eL eI) a_script), .ow (W1 ds v1.2), .sh (eI v1.1), .no, .no, .no, .no, .no, .no, .no, .no, .no, .no, .no, .no, .no]) (set_s (pk_s (fn_s (ρ2 := [.sh ((eL eI) a_script), .ow (W1 ds v1.2), .no, .no, .no, .no, .no, .no, .no, .no, .no, .no, .no, .no, .no, .no]) (ac_ eva_1 (ac_ (fr_o (lst_ (ac_ (ec _ _) (ac_ (ec _ _) (ac_ (ec _ _) (ac_ (ec _ _) (ac_ (ec _ _) (ac_ (ec _ _) (an_ _))))))) rfl (few' rfl))) (an_ _))) rfl rfl (sim_pick (e := eI) hv1) rfl))) ?_
  obtain ⟨v2, hv2, h⟩ := bnd h
  obtain ⟨v3, hv3, h⟩ := bnd h
  refine wp_seq (ρ1 := [.sh ((eL eI) a_script), .ow (W1 ds v3.2), .sh (eI v1.1), .sh ((e2 eI eI) (v2.1, v3.1)), .no, .no, .no, .no, .no, .no, .no, .no, .no, .no, .no, .no]) (set_s (tup_ (ac_ (fr_s (fn_s (ρ2 := [.sh ((eL eI) a_script), .ow (W1 ds v2.2), .sh (eI v1.1), .no, .no, .no, .no, .no, .no, .no, .no, .no, .no, .no, .no, .no]) (ac_ eva_1 (ac_ (fr_s ev_2) (an_ _))) rfl rfl (sim_next hv2) rfl)) (ac_ (fr_s (fn_s (ρ2 := [.sh ((eL eI) a_script), .ow (W1 ds v3.2), .sh (eI v1.1), .no, .no, .no, .no, .no, .no, .no, .no, .no, .no, .no, .no, .no]) (ac_ eva_1 (ac_ (fr_s ev_2) (an_ _))) rfl rfl (sim_next hv3) rfl)) (an_ _))) rfl (few' rfl))) ?_
  refine wp_seqW (wp_fold (R := (fun (s4 : (Nat × (Int × Int))) ρ => ∃ j5, ρ = [.sh ((eL eI) a_script), .ow (W1 ds s4.1), .sh (eI v1.1), .sh ((e2 eI eI) s4.2), j5, .no, .no, .no, .no, .no, .no, .no, .no, .no, .no, .no])) (e := eI) (s0 := (v3.2, (v2.1, v3.1))) (irng_ (e := eI) (ac_ (ec _ _) (an_ _)) rfl (rng1_l _)) ⟨_, rfl⟩ (fun x6 s4 s' ρ hx hR h => ?_) h ?_)
  · obtain ⟨j5, rfl⟩ := hR
    refine ⟨[.sh ((eL eI) a_script), .ow (W1 ds s4.1), .sh (eI v1.1), .sh ((e2 eI eI) s4.2), .sh (eI x6), .no, .no, .no, .no, .no, .no, .no, .no, .no, .no, .no], rfl, ?_⟩
    obtain ⟨v7, hv7, h⟩ := bnd h
    refine ite_elim h (fun c8 h => ?_) (fun c8 h => ?_)
    · refine wp_if_t (tno_ (tv_ (pk_s (fn_s (ρ2 := [.sh ((eL eI) a_script), .ow (W1 ds s4.1), .sh (eI v1.1), .sh ((e2 eI eI) s4.2), .sh (eI x6), .no, .no, .no, .no, .no, .no, .no, .no, .no, .no, .no]) (ac_ (fr_s ev_2) (ac_ (fr_s ev_3) (an_ _))) rfl rfl (sim__law_is_curve (a_p := v1.1) (a_curve := s4.2) hv7) rfl)) rfl (tru_b _))) c8 ?_
      obtain ⟨v9, hv9, h⟩ := bnd h
      obtain ⟨v10, hv10, h⟩ := bnd h
      obtain ⟨x11, hx11, h⟩ := bnd h
      refine wp_st (ρ1 := [.sh ((eL eI) a_script), .ow (W1 ds v10.2), .sh (eI v1.1), .sh ((e2 eI eI) x11), .sh (eI x6), .no, .no, .no, .no, .no, .no, .no, .no, .no, .no, .no]) (by rw [← Option.some.inj hx11]; exact (set_s (tup_ (ac_ (fr_s (fn_s (ρ2 := [.sh ((eL eI) a_script), .ow (W1 ds v9.2), .sh (eI v1.1), .sh ((e2 eI eI) s4.2), .sh (eI x6), .no, .no, .no, .no, .no, .no, .no, .no, .no, .no, .no]) (ac_ eva_1 (ac_ (fr_s ev_2) (an_ _))) rfl rfl (sim_next hv9) rfl)) (ac_ (fr_s (bin_s (ec _ _) (fn_s (ρ2 := [.sh ((eL eI) a_script), .ow (W1 ds v10.2), .sh (eI v1.1), .sh ((e2 eI eI) s4.2), .sh (eI x6), .no, .no, .no, .no, .no, .no, .no, .no, .no, .no, .no]) (ac_ eva_1 (ac_ (fr_s (bin_s ev_2 (ec _ _) (sub_i _ _))) (an_ _))) rfl rfl (sim_next hv10) rfl) (add_i _ _))) (an_ _))) rfl (few' rfl)))) ?_
      cases h
      exact ⟨_, .inl rfl, ⟨_, rfl⟩⟩
    · refine wp_if_f (tno_ (tv_ (pk_s (fn_s (ρ2 := [.sh ((eL eI) a_script), .ow (W1 ds s4.1), .sh (eI v1.1), .sh ((e2 eI eI) s4.2), .sh (eI x6), .no, .no, .no, .no, .no, .no, .no, .no, .no, .no, .no]) (ac_ (fr_s ev_2) (ac_ (fr_s ev_3) (an_ _))) rfl rfl (sim__law_is_curve (a_p := v1.1) (a_curve := s4.2) hv7) rfl)) rfl (tru_b _))) c8 ?_
      refine wp_nil ?_
      cases h
      exact ⟨_, .inl rfl, ⟨_, rfl⟩⟩
  · intro s12 ρ hR h
    obtain ⟨j13, rfl⟩ := hR
    refine qs_nx ?_
    obtain ⟨v14, hv14, h⟩ := bnd h
    refine wp_seqW (wp_join (R := (fun (s16 : (Int × Int)) ρ => ρ = [.sh ((eL eI) a_script), .ow (W1 ds s12.1), .sh (eI v1.1), .sh ((e2 eI eI) s16), j13, .no, .no, .no, .no, .no, .no, .no, .no, .no, .no, .no])) (fun s h => ?_) h ?_)
    · refine ite_elim h (fun c15 h => ?_) (fun c15 h => ?_)
      · refine wp_if_t (tno_ (tv_ (pk_s (fn_s (ρ2 := [.sh ((eL eI) a_script), .ow (W1 ds s12.1), .sh (eI v1.1), .sh ((e2 eI eI) s12.2), j13, .no, .no, .no, .no, .no, .no, .no, .no, .no, .no, .no]) (ac_ (fr_s ev_2) (ac_ (fr_s ev_3) (an_ _))) rfl rfl (sim__law_is_curve (a_p := v1.1) (a_curve := s12.2) hv14) rfl)) rfl (tru_b _))) c15 ?_
        refine wp_st (ρ1 := [.sh ((eL eI) a_script), .ow (W1 ds s12.1), .sh (eI v1.1), .sh ((e2 eI eI) (0, 1)), j13, .no, .no, .no, .no, .no, .no, .no, .no, .no, .no, .no]) (set_s (tup_ (ac_ (ec _ _) (ac_ (ec _ _) (an_ _))) rfl (few' rfl))) ?_
        cases h
        exact ⟨_, rfl, rfl⟩
      · refine wp_if_f (tno_ (tv_ (pk_s (fn_s (ρ2 := [.sh ((eL eI) a_script), .ow (W1 ds s12.1), .sh (eI v1.1), .sh ((e2 eI eI) s12.2), j13, .no, .no, .no, .no, .no, .no, .no, .no, .no, .no, .no]) (ac_ (fr_s ev_2) (ac_ (fr_s ev_3) (an_ _))) rfl rfl (sim__law_is_curve (a_p := v1.1) (a_curve := s12.2) hv14) rfl)) rfl (tru_b _))) c15 ?_
        refine wp_nil ?_
        cases h
        exact ⟨_, rfl, rfl⟩
    · intro s16 ρ hR h
      obtain rfl := hR
      refine qs_nx ?_
      obtain ⟨v17, hv17, h⟩ := bnd h
      refine wp_seqW ?_
      refine ite_elim h (fun c18 h => ?_) (fun c18 h => ?_)
      · refine wp_if_t (tno_ (tv_ (pk_s (fn_s (ρ2 := [.sh ((eL eI) a_script), .ow (W1 ds v17.2), .sh (eI v1.1), .sh ((e2 eI eI) s16), j13, .no, .no, .no, .no, .no, .no, .no, .no, .no, .no, .no]) (ac_ eva_1 (ac_ (fr_s ev_2) (ac_ (fr_s ev_3) (an_ _)))) rfl rfl (sim__law_points_right ds (a_w := s12.1) (a_p := v1.1) (a_curve := s16) hv17) rfl)) rfl (tru_b _))) c18 ?_
        refine wp_ret (ec _ _) ?_
        refine qs_rt ?_
        cases h
        exact rt_i rfl rfl
      · refine wp_if_f (tno_ (tv_ (pk_s (fn_s (ρ2 := [.sh ((eL eI) a_script), .ow (W1 ds v17.2), .sh (eI v1.1), .sh ((e2 eI eI) s16), j13, .no, .no, .no, .no, .no, .no, .no, .no, .no, .no, .no]) (ac_ eva_1 (ac_ (fr_s ev_2) (ac_ (fr_s ev_3) (an_ _)))) rfl rfl (sim__law_points_right ds (a_w := s12.1) (a_p := v1.1) (a_curve := s16) hv17) rfl)) rfl (tru_b _))) c18 ?_
        refine wp_nil ?_
        refine qs_nx ?_
        obtain ⟨r20, hr20, h⟩ := bnd h
        obtain ⟨y23, hy23, h⟩ := bnd h
        refine wp_seq (ρ1 := [.sh ((eL eI) a_script), .ow (W1 ds v17.2), .sh (eI v1.1), .sh ((e2 eI eI) s16), j13, .sh ((eL (e2 eI eI)) y23), .no, .no, .no, .no, .no, .no, .no, .no, .no, .no]) (set_s (pk_o (lm_ (W := [.sh ((eL eI) a_script), .ow (W1 ds v17.2), .sh (eI v1.1), .sh ((e2 eI eI) s16), j13, .no, .no, .no, .no, .no, .no, .no, .no, .no, .no, .no]) (e := eI) (e' := (e2 eI eI)) (irng_ (e := eI) (ac_ (ec _ _) (ac_ ev_2 (an_ _))) rfl (rng2_t hr20)) rfl rfl (fun x21 _ _ h => by obtain ⟨v22, hv22, h⟩ := bnd h; rw [← Option.some.inj h]; exact ⟨[.sh ((eL eI) a_script), .ow (W1 ds v17.2), .sh (eI v1.1), .sh ((e2 eI eI) s16), j13, .no, .no, .no, .no, .no, .no, .no, .no, .no, .sh (eI x21), .no], [.sh ((eL eI) a_script), .ow (W1 ds v17.2), .sh (eI v1.1), .sh ((e2 eI eI) s16), j13, .no, .no, .no, .no, .no, .no, .no, .no, .no, .sh (eI x21), .no], rfl, (fr_s (fn_s (ρ2 := [.sh ((eL eI) a_script), .ow (W1 ds v17.2), .sh (eI v1.1), .sh ((e2 eI eI) s16), j13, .no, .no, .no, .no, .no, .no, .no, .no, .no, .sh (eI x21), .no]) (ac_ (fr_s ev_2) (ac_ (fr_s ev_3) (ac_ (fr_s ev_14) (an_ _)))) rfl rfl (sim__law_turned (a_p := v1.1) (a_curve := s16) (a_u := x21) hv22) rfl)), rfl⟩) hy23))) ?_
        obtain ⟨v24, hv24, h⟩ := bnd h
        refine wp_seq (ρ1 := [.sh ((eL eI) a_script), .ow (W1 ds v17.2), .sh (eI v1.1), .sh ((e2 eI eI) s16), j13, .sh ((eL (e2 eI eI)) y23), .sh ((e2 eI eI) v24), .no, .no, .no, .no, .no, .no, .no, .no, .no]) (set_s (pk_s (call_s (ac_ ev_5 (an_ _)) rfl (minL_e hv24)))) ?_
        obtain ⟨v25, hv25, h⟩ := bnd h
        refine wp_seq (ρ1 := [.sh ((eL eI) a_script), .ow (W1 ds v25.2), .sh (eI v1.1), .sh ((e2 eI eI) s16), j13, .sh ((eL (e2 eI eI)) y23), .sh ((e2 eI eI) v24), .sh ((e2 eI eI) v25.1), .no, .no, .no, .no, .no, .no, .no, .no]) (set_s (pk_s (fn_s (ρ2 := [.sh ((eL eI) a_script), .ow (W1 ds v25.2), .sh (eI v1.1), .sh ((e2 eI eI) s16), j13, .sh ((eL (e2 eI eI)) y23), .sh ((e2 eI eI) v24), .no, .no, .no, .no, .no, .no, .no, .no, .no]) (ac_ eva_1 (ac_ (fr_s ev_5) (an_ _))) rfl rfl (sim_pick (e := (e2 eI eI)) hv25) rfl))) ?_
        refine wp_seqW (wp_for (R := (fun (s26 : Unit) ρ => ∃ j27 j28, ρ = [.sh ((eL eI) a_script), .ow (W1 ds v25.2), .sh (eI v1.1), .sh ((e2 eI eI) s16), j13, .sh ((eL (e2 eI eI)) y23), .sh ((e2 eI eI) v24), .sh ((e2 eI eI) v25.1), j27, j28, .no, .no, .no, .no, .no, .no])) (Qr := fun (x : Bool) => Rt [.sh ((eL eI) a_script)] [] (.sh (eB x)) [.sh ((eL eI) a_script)]) (e := (e2 eI eI)) (s0 := ()) (iseq_t (e := (e2 eI eI)) (fr_s (tup_ (ac_ (fr_s ev_3) (ac_ (fr_s ev_7) (an_ _))) rfl (few' rfl)))) ⟨_, _, rfl⟩ (fun x29 s26 s' ρ hx hR h => ?_) h ?_ (fun x rv ρ hk hq => by cases hk; exact hq))
        · obtain ⟨j27, j28, rfl⟩ := hR
          refine ⟨[.sh ((eL eI) a_script), .ow (W1 ds v25.2), .sh (eI v1.1), .sh ((e2 eI eI) s16), j13, .sh ((eL (e2 eI eI)) y23), .sh ((e2 eI eI) v24), .sh ((e2 eI eI) v25.1), .sh ((e2 eI eI) x29), j28, .no, .no, .no, .no, .no, .no], rfl, ?_⟩
          obtain ⟨v30, hv30, h⟩ := bnd h
          refine wp_seq (ρ1 := [.sh ((eL eI) a_script), .ow (W1 ds v25.2), .sh (eI v1.1), .sh ((e2 eI eI) s16), j13, .sh ((eL (e2 eI eI)) y23), .sh ((e2 eI eI) v24), .sh ((e2 eI eI) v25.1), .sh ((e2 eI eI) x29), .sh ((e2 (e2 eI eI) eI) v30), .no, .no, .no, .no, .no, .no]) (set_s (pk_s (fn_s (ρ2 := [.sh ((eL eI) a_script), .ow (W1 ds v25.2), .sh (eI v1.1), .sh ((e2 eI eI) s16), j13, .sh ((eL (e2 eI eI)) y23), .sh ((e2 eI eI) v24), .sh ((e2 eI eI) v25.1), .sh ((e2 eI eI) x29), j28, .no, .no, .no, .no, .no, .no]) (ac_ (fr_s ev_2) (ac_ (fr_s ev_8) (an_ _))) rfl rfl (sim_curve_form (a_p := v1.1) (a_curve := x29) hv30) rfl))) ?_
          obtain ⟨v31, hv31, h⟩ := bnd h
          obtain ⟨v38, hv38, h⟩ := bnd h
          refine ite_elim h (fun c40 h => ?_) (fun c40 h => ?_)
          · refine wp_if_t (show _ = some (v38, ([.sh ((eL eI) a_script), .ow (W1 ds v25.2), .sh (eI v1.1), .sh ((e2 eI eI) s16), j13, .sh ((eL (e2 eI eI)) y23), .sh ((e2 eI eI) v24), .sh ((e2 eI eI) v25.1), .sh ((e2 eI eI) x29), .sh ((e2 (e2 eI eI) eI) v30), .no, .no, .no, .no, .no, .no] : Rho)) from ite_elim hv38 (fun c39 h => by rw [← Option.some.inj h]; exact tor_t (tno_ (tv_ (pk_s (fn_s (ρ2 := [.sh ((eL eI) a_script), .ow (W1 ds v25.2), .sh (eI v1.1), .sh ((e2 eI eI) s16), j13, .sh ((eL (e2 eI eI)) y23), .sh ((e2 eI eI) v24), .sh ((e2 eI eI) v25.1), .sh ((e2 eI eI) x29), .sh ((e2 (e2 eI eI) eI) v30), .no, .no, .no, .no, .no, .no]) (ac_ (fr_s ev_9) (an_ _)) rfl rfl (sim__law_plain (a_thing := ((e2 (e2 eI eI) eI) v30)) hv31) rfl)) rfl (tru_b _))) c39) (fun c39 h => by obtain ⟨r33, hr33, h⟩ := bnd h; obtain ⟨y36, hy36, h⟩ := bnd h; obtain ⟨v37, hv37, h⟩ := bnd h; rw [← Option.some.inj h]; exact tor_f (tno_ (tv_ (pk_s (fn_s (ρ2 := [.sh ((eL eI) a_script), .ow (W1 ds v25.2), .sh (eI v1.1), .sh ((e2 eI eI) s16), j13, .sh ((eL (e2 eI eI)) y23), .sh ((e2 eI eI) v24), .sh ((e2 eI eI) v25.1), .sh ((e2 eI eI) x29), .sh ((e2 (e2 eI eI) eI) v30), .no, .no, .no, .no, .no, .no]) (ac_ (fr_s ev_9) (an_ _)) rfl rfl (sim__law_plain (a_thing := ((e2 (e2 eI eI) eI) v30)) hv31) rfl)) rfl (tru_b _))) c39 (tb_ (bin_s ev_9 (tup_ (ac_ (fr_s ev_6) (ac_ (fr_s (bin_gs (pk_o (lc_ (W := [.sh ((eL eI) a_script), .ow (W1 ds v25.2), .sh (eI v1.1), .sh ((e2 eI eI) s16), j13, .sh ((eL (e2 eI eI)) y23), .sh ((e2 eI eI) v24), .sh ((e2 eI eI) v25.1), .sh ((e2 eI eI) x29), .sh ((e2 (e2 eI eI) eI) v30), .no, .no, .no, .no, .no, .no]) (e := eI) (e' := eI) (irng_ (e := eI) (ac_ (ec _ _) (ac_ ev_2 (an_ _))) rfl (rng2_t hr33)) rfl rfl (fun x34 _ _ h => by obtain ⟨v35, hv35, h⟩ := bnd h; exact ite_elim h (fun c32 h => by rw [← Option.some.inj h]; exact ⟨[.sh ((eL eI) a_script), .ow (W1 ds v25.2), .sh (eI v1.1), .sh ((e2 eI eI) s16), j13, .sh ((eL (e2 eI eI)) y23), .sh ((e2 eI eI) v24), .sh ((e2 eI eI) v25.1), .sh ((e2 eI eI) x29), .sh ((e2 (e2 eI eI) eI) v30), .no, .no, .no, .no, .sh (eI x34), .no], rfl, _, _, tcong (tb_ (bin_s (fn_s (ρ2 := [.sh ((eL eI) a_script), .ow (W1 ds v25.2), .sh (eI v1.1), .sh ((e2 eI eI) s16), j13, .sh ((eL (e2 eI eI)) y23), .sh ((e2 eI eI) v24), .sh ((e2 eI eI) v25.1), .sh ((e2 eI eI) x29), .sh ((e2 (e2 eI eI) eI) v30), .no, .no, .no, .no, .sh (eI x34), .no]) (ac_ (fr_s ev_2) (ac_ (fr_s ev_8) (ac_ (fr_s ev_14) (an_ _)))) rfl rfl (sim__law_turned (a_p := v1.1) (a_curve := x29) (a_u := x34) hv35) rfl) ev_6 (eq_e (e := (e2 eI eI)) v35 v24))) c32, (fr_s ev_14), rfl⟩) (fun c32 h => by rw [← Option.some.inj h]; exact ⟨[.sh ((eL eI) a_script), .ow (W1 ds v25.2), .sh (eI v1.1), .sh ((e2 eI eI) s16), j13, .sh ((eL (e2 eI eI)) y23), .sh ((e2 eI eI) v24), .sh ((e2 eI eI) v25.1), .sh ((e2 eI eI) x29), .sh ((e2 (e2 eI eI) eI) v30), .no, .no, .no, .no, .sh (eI x34), .no], rfl, _, tcong (tb_ (bin_s (fn_s (ρ2 := [.sh ((eL eI) a_script), .ow (W1 ds v25.2), .sh (eI v1.1), .sh ((e2 eI eI) s16), j13, .sh ((eL (e2 eI eI)) y23), .sh ((e2 eI eI) v24), .sh ((e2 eI eI) v25.1), .sh ((e2 eI eI) x29), .sh ((e2 (e2 eI eI) eI) v30), .no, .no, .no, .no, .sh (eI x34), .no]) (ac_ (fr_s ev_2) (ac_ (fr_s ev_8) (ac_ (fr_s ev_14) (an_ _)))) rfl rfl (sim__law_turned (a_p := v1.1) (a_curve := x29) (a_u := x34) hv35) rfl) ev_6 (eq_e (e := (e2 eI eI)) v35 v24))) c32, rfl⟩)) hy36)) (pk_s (ec _ _)) rfl rfl (ixl_e (e := eI) hv37))) (an_ _))) rfl (few' rfl)) (ne_e (e := (e2 (e2 eI eI) eI)) v30 (v24, v37)))))) c40 ?_
            refine wp_ret (ec _ _) ?_
            cases h
            exact pb_rt (rt_i rfl rfl)
          · refine wp_if_f (show _ = some (v38, ([.sh ((eL eI) a_script), .ow (W1 ds v25.2), .sh (eI v1.1), .sh ((e2 eI eI) s16), j13, .sh ((eL (e2 eI eI)) y23), .sh ((e2 eI eI) v24), .sh ((e2 eI eI) v25.1), .sh ((e2 eI eI) x29), .sh ((e2 (e2 eI eI) eI) v30), .no, .no, .no, .no, .no, .no] : Rho)) from ite_elim hv38 (fun c39 h => by rw [← Option.some.inj h]; exact tor_t (tno_ (tv_ (pk_s (fn_s (ρ2 := [.sh ((eL eI) a_script), .ow (W1 ds v25.2), .sh (eI v1.1), .sh ((e2 eI eI) s16), j13, .sh ((eL (e2 eI eI)) y23), .sh ((e2 eI eI) v24), .sh ((e2 eI eI) v25.1), .sh ((e2 eI eI) x29), .sh ((e2 (e2 eI eI) eI) v30), .no, .no, .no, .no, .no, .no]) (ac_ (fr_s ev_9) (an_ _)) rfl rfl (sim__law_plain (a_thing := ((e2 (e2 eI eI) eI) v30)) hv31) rfl)) rfl (tru_b _))) c39) (fun c39 h => by obtain ⟨r33, hr33, h⟩ := bnd h; obtain ⟨y36, hy36, h⟩ := bnd h; obtain ⟨v37, hv37, h⟩ := bnd h; rw [← Option.some.inj h]; exact tor_f (tno_ (tv_ (pk_s (fn_s (ρ2 := [.sh ((eL eI) a_script), .ow (W1 ds v25.2), .sh (eI v1.1), .sh ((e2 eI eI) s16), j13, .sh ((eL (e2 eI eI)) y23), .sh ((e2 eI eI) v24), .sh ((e2 eI eI) v25.1), .sh ((e2 eI eI) x29), .sh ((e2 (e2 eI eI) eI) v30), .no, .no, .no, .no, .no, .no]) (ac_ (fr_s ev_9) (an_ _)) rfl rfl (sim__law_plain (a_thing := ((e2 (e2 eI eI) eI) v30)) hv31) rfl)) rfl (tru_b _))) c39 (tb_ (bin_s ev_9 (tup_ (ac_ (fr_s ev_6) (ac_ (fr_s (bin_gs (pk_o (lc_ (W := [.sh ((eL eI) a_script), .ow (W1 ds v25.2), .sh (eI v1.1), .sh ((e2 eI eI) s16), j13, .sh ((eL (e2 eI eI)) y23), .sh ((e2 eI eI) v24), .sh ((e2 eI eI) v25.1), .sh ((e2 eI eI) x29), .sh ((e2 (e2 eI eI) eI) v30), .no, .no, .no, .no, .no, .no]) (e := eI) (e' := eI) (irng_ (e := eI) (ac_ (ec _ _) (ac_ ev_2 (an_ _))) rfl (rng2_t hr33)) rfl rfl (fun x34 _ _ h => by obtain ⟨v35, hv35, h⟩ := bnd h; exact ite_elim h (fun c32 h => by rw [← Option.some.inj h]; exact ⟨[.sh ((eL eI) a_script), .ow (W1 ds v25.2), .sh (eI v1.1), .sh ((e2 eI eI) s16), j13, .sh ((eL (e2 eI eI)) y23), .sh ((e2 eI eI) v24), .sh ((e2 eI eI) v25.1), .sh ((e2 eI eI) x29), .sh ((e2 (e2 eI eI) eI) v30), .no, .no, .no, .no, .sh (eI x34), .no], rfl, _, _, tcong (tb_ (bin_s (fn_s (ρ2 := [.sh ((eL eI) a_script), .ow (W1 ds v25.2), .sh (eI v1.1), .sh ((e2 eI eI) s16), j13, .sh ((eL (e2 eI eI)) y23), .sh ((e2 eI eI) v24), .sh ((e2 eI eI) v25.1), .sh ((e2 eI eI) x29), .sh ((e2 (e2 eI eI) eI) v30), .no, .no, .no, .no, .sh (eI x34), .no]) (ac_ (fr_s ev_2) (ac_ (fr_s ev_8) (ac_ (fr_s ev_14) (an_ _)))) rfl rfl (sim__law_turned (a_p := v1.1) (a_curve := x29) (a_u := x34) hv35) rfl) ev_6 (eq_e (e := (e2 eI eI)) v35 v24))) c32, (fr_s ev_14), rfl⟩) (fun c32 h => by rw [← Option.some.inj h]; exact ⟨[.sh ((eL eI) a_script), .ow (W1 ds v25.2), .sh (eI v1.1), .sh ((e2 eI eI) s16), j13, .sh ((eL (e2 eI eI)) y23), .sh ((e2 eI eI) v24), .sh ((e2 eI eI) v25.1), .sh ((e2 eI eI) x29), .sh ((e2 (e2 eI eI) eI) v30), .no, .no, .no, .no, .sh (eI x34), .no], rfl, _, tcong (tb_ (bin_s (fn_s (ρ2 := [.sh ((eL eI) a_script), .ow (W1 ds v25.2), .sh (eI v1.1), .sh ((e2 eI eI) s16), j13, .sh ((eL (e2 eI eI)) y23), .sh ((e2 eI eI) v24), .sh ((e2 eI eI) v25.1), .sh ((e2 eI eI) x29), .sh ((e2 (e2 eI eI) eI) v30), .no, .no, .no, .no, .sh (eI x34), .no]) (ac_ (fr_s ev_2) (ac_ (fr_s ev_8) (ac_ (fr_s ev_14) (an_ _)))) rfl rfl (sim__law_turned (a_p := v1.1) (a_curve := x29) (a_u := x34) hv35) rfl) ev_6 (eq_e (e := (e2 eI eI)) v35 v24))) c32, rfl⟩)) hy36)) (pk_s (ec _ _)) rfl rfl (ixl_e (e := eI) hv37))) (an_ _))) rfl (few' rfl)) (ne_e (e := (e2 (e2 eI eI) eI)) v30 (v24, v37)))))) c40 ?_
            refine wp_nil ?_
            cases h
            exact pb_nx ⟨_, _, rfl⟩
        · intro s41 ρ hR h
          obtain ⟨j42, j43, rfl⟩ := hR
          refine qs_nx ?_
          obtain ⟨v44, hv44, h⟩ := bnd h
          refine wp_seq (ρ1 := [.sh ((eL eI) a_script), .ow (W1 ds v25.2), .sh (eI v1.1), .sh ((e2 eI eI) s16), j13, .sh ((eL (e2 eI eI)) y23), .sh ((e2 eI eI) v24), .sh ((e2 eI eI) v25.1), j42, .sh ((eT eI) v44), .no, .no, .no, .no, .no, .no]) (set_s (pk_s (fn_s (ρ2 := [.sh ((eL eI) a_script), .ow (W1 ds v25.2), .sh (eI v1.1), .sh ((e2 eI eI) s16), j13, .sh ((eL (e2 eI eI)) y23), .sh ((e2 eI eI) v24), .sh ((e2 eI eI) v25.1), j42, j43, .no, .no, .no, .no, .no, .no]) (ac_ (fr_s ev_2) (ac_ (fr_s ev_3) (an_ _))) rfl rfl (sim_curve_keepers (a_p := v1.1) (a_curve := s16) hv44) rfl))) ?_
          obtain ⟨v45, hv45, h⟩ := bnd h
          obtain ⟨v51, hv51, h⟩ := bnd h
          refine wp_seqW ?_
          refine ite_elim h (fun c53 h => ?_) (fun c53 h => ?_)
          · refine wp_if_t (show _ = some (v51, ([.sh ((eL eI) a_script), .ow (W1 ds v25.2), .sh (eI v1.1), .sh ((e2 eI eI) s16), j13, .sh ((eL (e2 eI eI)) y23), .sh ((e2 eI eI) v24), .sh ((e2 eI eI) v25.1), j42, .sh ((eT eI) v44), .no, .no, .no, .no, .no, .no] : Rho)) from ite_elim hv51 (fun c52 h => by rw [← Option.some.inj h]; exact tor_t (tno_ (tv_ (pk_s (fn_s (ρ2 := [.sh ((eL eI) a_script), .ow (W1 ds v25.2), .sh (eI v1.1), .sh ((e2 eI eI) s16), j13, .sh ((eL (e2 eI eI)) y23), .sh ((e2 eI eI) v24), .sh ((e2 eI eI) v25.1), j42, .sh ((eT eI) v44), .no, .no, .no, .no, .no, .no]) (ac_ (fr_s ev_9) (an_ _)) rfl rfl (sim__law_plain (a_thing := ((eT eI) v44)) hv45) rfl)) rfl (tru_b _))) c52) (fun c52 h => by obtain ⟨r47, hr47, h⟩ := bnd h; obtain ⟨y50, hy50, h⟩ := bnd h; rw [← Option.some.inj h]; exact tor_f (tno_ (tv_ (pk_s (fn_s (ρ2 := [.sh ((eL eI) a_script), .ow (W1 ds v25.2), .sh (eI v1.1), .sh ((e2 eI eI) s16), j13, .sh ((eL (e2 eI eI)) y23), .sh ((e2 eI eI) v24), .sh ((e2 eI eI) v25.1), j42, .sh ((eT eI) v44), .no, .no, .no, .no, .no, .no]) (ac_ (fr_s ev_9) (an_ _)) rfl rfl (sim__law_plain (a_thing := ((eT eI) v44)) hv45) rfl)) rfl (tru_b _))) c52 (tb_ (bin_s ev_9 (call_s (ac_ (lc_ (W := [.sh ((eL eI) a_script), .ow (W1 ds v25.2), .sh (eI v1.1), .sh ((e2 eI eI) s16), j13, .sh ((eL (e2 eI eI)) y23), .sh ((e2 eI eI) v24), .sh ((e2 eI eI) v25.1), j42, .sh ((eT eI) v44), .no, .no, .no, .no, .no, .no]) (e := eI) (e' := eI) (irng_ (e := eI) (ac_ (ec _ _) (ac_ ev_2 (an_ _))) rfl (rng2_t hr47)) rfl rfl (fun x48 _ _ h => by obtain ⟨v49, hv49, h⟩ := bnd h; exact ite_elim h (fun c46 h => by rw [← Option.some.inj h]; exact ⟨[.sh ((eL eI) a_script), .ow (W1 ds v25.2), .sh (eI v1.1), .sh ((e2 eI eI) s16), j13, .sh ((eL (e2 eI eI)) y23), .sh ((e2 eI eI) v24), .sh ((e2 eI eI) v25.1), j42, .sh ((eT eI) v44), .no, .no, .no, .no, .sh (eI x48), .no], rfl, _, _, tcong (tb_ (bin_s (fn_s (ρ2 := [.sh ((eL eI) a_script), .ow (W1 ds v25.2), .sh (eI v1.1), .sh ((e2 eI eI) s16), j13, .sh ((eL (e2 eI eI)) y23), .sh ((e2 eI eI) v24), .sh ((e2 eI eI) v25.1), j42, .sh ((eT eI) v44), .no, .no, .no, .no, .sh (eI x48), .no]) (ac_ (fr_s ev_2) (ac_ (fr_s ev_3) (ac_ (fr_s ev_14) (an_ _)))) rfl rfl (sim__law_turned (a_p := v1.1) (a_curve := s16) (a_u := x48) hv49) rfl) ev_3 (eq_e (e := (e2 eI eI)) v49 s16))) c46, (fr_s ev_14), rfl⟩) (fun c46 h => by rw [← Option.some.inj h]; exact ⟨[.sh ((eL eI) a_script), .ow (W1 ds v25.2), .sh (eI v1.1), .sh ((e2 eI eI) s16), j13, .sh ((eL (e2 eI eI)) y23), .sh ((e2 eI eI) v24), .sh ((e2 eI eI) v25.1), j42, .sh ((eT eI) v44), .no, .no, .no, .no, .sh (eI x48), .no], rfl, _, tcong (tb_ (bin_s (fn_s (ρ2 := [.sh ((eL eI) a_script), .ow (W1 ds v25.2), .sh (eI v1.1), .sh ((e2 eI eI) s16), j13, .sh ((eL (e2 eI eI)) y23), .sh ((e2 eI eI) v24), .sh ((e2 eI eI) v25.1), j42, .sh ((eT eI) v44), .no, .no, .no, .no, .sh (eI x48), .no]) (ac_ (fr_s ev_2) (ac_ (fr_s ev_3) (ac_ (fr_s ev_14) (an_ _)))) rfl rfl (sim__law_turned (a_p := v1.1) (a_curve := s16) (a_u := x48) hv49) rfl) ev_3 (eq_e (e := (e2 eI eI)) v49 s16))) c46, rfl⟩)) hy50) (an_ _)) rfl (tupL_e (e := eI) y50)) (ne_e (e := (eT eI)) v44 y50))))) c53 ?_
            refine wp_ret (ec _ _) ?_
            refine qs_rt ?_
            cases h
            exact rt_i rfl rfl
          · refine wp_if_f (show _ = some (v51, ([.sh ((eL eI) a_script), .ow (W1 ds v25.2), .sh (eI v1.1), .sh ((e2 eI eI) s16), j13, .sh ((eL (e2 eI eI)) y23), .sh ((e2 eI eI) v24), .sh ((e2 eI eI) v25.1), j42, .sh ((eT eI) v44), .no, .no, .no, .no, .no, .no] : Rho)) from ite_elim hv51 (fun c52 h => by rw [← Option.some.inj h]; exact tor_t (tno_ (tv_ (pk_s (fn_s (ρ2 := [.sh ((eL eI) a_script), .ow (W1 ds v25.2), .sh (eI v1.1), .sh ((e2 eI eI) s16), j13, .sh ((eL (e2 eI eI)) y23), .sh ((e2 eI eI) v24), .sh ((e2 eI eI) v25.1), j42, .sh ((eT eI) v44), .no, .no, .no, .no, .no, .no]) (ac_ (fr_s ev_9) (an_ _)) rfl rfl (sim__law_plain (a_thing := ((eT eI) v44)) hv45) rfl)) rfl (tru_b _))) c52) (fun c52 h => by obtain ⟨r47, hr47, h⟩ := bnd h; obtain ⟨y50, hy50, h⟩ := bnd h; rw [← Option.some.inj h]; exact tor_f (tno_ (tv_ (pk_s (fn_s (ρ2 := [.sh ((eL eI) a_script), .ow (W1 ds v25.2), .sh (eI v1.1), .sh ((e2 eI eI) s16), j13, .sh ((eL (e2 eI eI)) y23), .sh ((e2 eI eI) v24), .sh ((e2 eI eI) v25.1), j42, .sh ((eT eI) v44), .no, .no, .no, .no, .no, .no]) (ac_ (fr_s ev_9) (an_ _)) rfl rfl (sim__law_plain (a_thing := ((eT eI) v44)) hv45) rfl)) rfl (tru_b _))) c52 (tb_ (bin_s ev_9 (call_s (ac_ (lc_ (W := [.sh ((eL eI) a_script), .ow (W1 ds v25.2), .sh (eI v1.1), .sh ((e2 eI eI) s16), j13, .sh ((eL (e2 eI eI)) y23), .sh ((e2 eI eI) v24), .sh ((e2 eI eI) v25.1), j42, .sh ((eT eI) v44), .no, .no, .no, .no, .no, .no]) (e := eI) (e' := eI) (irng_ (e := eI) (ac_ (ec _ _) (ac_ ev_2 (an_ _))) rfl (rng2_t hr47)) rfl rfl (fun x48 _ _ h => by obtain ⟨v49, hv49, h⟩ := bnd h; exact ite_elim h (fun c46 h => by rw [← Option.some.inj h]; exact ⟨[.sh ((eL eI) a_script), .ow (W1 ds v25.2), .sh (eI v1.1), .sh ((e2 eI eI) s16), j13, .sh ((eL (e2 eI eI)) y23), .sh ((e2 eI eI) v24), .sh ((e2 eI eI) v25.1), j42, .sh ((eT eI) v44), .no, .no, .no, .no, .sh (eI x48), .no], rfl, _, _, tcong (tb_ (bin_s (fn_s (ρ2 := [.sh ((eL eI) a_script), .ow (W1 ds v25.2), .sh (eI v1.1), .sh ((e2 eI eI) s16), j13, .sh ((eL (e2 eI eI)) y23), .sh ((e2 eI eI) v24), .sh ((e2 eI eI) v25.1), j42, .sh ((eT eI) v44), .no, .no, .no, .no, .sh (eI x48), .no]) (ac_ (fr_s ev_2) (ac_ (fr_s ev_3) (ac_ (fr_s ev_14) (an_ _)))) rfl rfl (sim__law_turned (a_p := v1.1) (a_curve := s16) (a_u := x48) hv49) rfl) ev_3 (eq_e (e := (e2 eI eI)) v49 s16))) c46, (fr_s ev_14), rfl⟩) (fun c46 h => by rw [← Option.some.inj h]; exact ⟨[.sh ((eL eI) a_script), .ow (W1 ds v25.2), .sh (eI v1.1), .sh ((e2 eI eI) s16), j13, .sh ((eL (e2 eI eI)) y23), .sh ((e2 eI eI) v24), .sh ((e2 eI eI) v25.1), j42, .sh ((eT eI) v44), .no, .no, .no, .no, .sh (eI x48), .no], rfl, _, tcong (tb_ (bin_s (fn_s (ρ2 := [.sh ((eL eI) a_script), .ow (W1 ds v25.2), .sh (eI v1.1), .sh ((e2 eI eI) s16), j13, .sh ((eL (e2 eI eI)) y23), .sh ((e2 eI eI) v24), .sh ((e2 eI eI) v25.1), j42, .sh ((eT eI) v44), .no, .no, .no, .no, .sh (eI x48), .no]) (ac_ (fr_s ev_2) (ac_ (fr_s ev_3) (ac_ (fr_s ev_14) (an_ _)))) rfl rfl (sim__law_turned (a_p := v1.1) (a_curve := s16) (a_u := x48) hv49) rfl) ev_3 (eq_e (e := (e2 eI eI)) v49 s16))) c46, rfl⟩)) hy50) (an_ _)) rfl (tupL_e (e := eI) y50)) (ne_e (e := (eT eI)) v44 y50))))) c53 ?_
            refine wp_nil ?_
            refine qs_nx ?_
            refine wp_seq (ρ1 := [.sh ((eL eI) a_script), .ow (W1 ds v25.2), .sh (eI v1.1), .sh ((e2 eI eI) s16), j13, .sh ((eL (e2 eI eI)) y23), .sh ((e2 eI eI) v24), .sh ((e2 eI eI) v25.1), j42, .sh ((eT eI) v44), .sh (eI s16.1), .sh (eI s16.2), .no, .no, .no, .no]) (asg_ (fr_s ev_3) rfl) ?_
            obtain ⟨v54, hv54, h⟩ := bnd h
            refine wp_seq (ρ1 := [.sh ((eL eI) a_script), .ow (W1 ds v25.2), .sh (eI v1.1), .sh ((e2 eI eI) s16), j13, .sh ((eL (e2 eI eI)) y23), .sh ((e2 eI eI) v24), .sh ((e2 eI eI) v25.1), j42, .sh (eI v54), .sh (eI s16.1), .sh (eI s16.2), .no, .no, .no, .no]) (set_s (pk_s (fn_s (ρ2 := [.sh ((eL eI) a_script), .ow (W1 ds v25.2), .sh (eI v1.1), .sh ((e2 eI eI) s16), j13, .sh ((eL (e2 eI eI)) y23), .sh ((e2 eI eI) v24), .sh ((e2 eI eI) v25.1), j42, .sh ((eT eI) v44), .sh (eI s16.1), .sh (eI s16.2), .no, .no, .no, .no]) (ac_ (fr_s ev_2) (ac_ (fr_s ev_3) (an_ _))) rfl rfl (sim_shape_number (a_p := v1.1) (a_curve := s16) hv54) rfl))) ?_
            obtain ⟨v55, hv55, h⟩ := bnd h
            obtain ⟨v65, hv65, h⟩ := bnd h
            refine wp_seqW ?_
            refine ite_elim h (fun c67 h => ?_) (fun c67 h => ?_)
            · refine wp_if_t (show _ = some (v65, ([.sh ((eL eI) a_script), .ow (W1 ds v25.2), .sh (eI v1.1), .sh ((e2 eI eI) s16), j13, .sh ((eL (e2 eI eI)) y23), .sh ((e2 eI eI) v24), .sh ((e2 eI eI) v25.1), j42, .sh (eI v54), .sh (eI s16.1), .sh (eI s16.2), .no, .no, .no, .no] : Rho)) from ite_elim hv65 (fun c66 h => by rw [← Option.some.inj h]; exact tor_t (tno_ (tv_ (pk_s (fn_s (ρ2 := [.sh ((eL eI) a_script), .ow (W1 ds v25.2), .sh (eI v1.1), .sh ((e2 eI eI) s16), j13, .sh ((eL (e2 eI eI)) y23), .sh ((e2 eI eI) v24), .sh ((e2 eI eI) v25.1), j42, .sh (eI v54), .sh (eI s16.1), .sh (eI s16.2), .no, .no, .no, .no]) (ac_ (fr_s ev_9) (an_ _)) rfl rfl (sim__law_plain (a_thing := (eI v54)) hv55) rfl)) rfl (tru_b _))) c66) (fun c66 h => by obtain ⟨v56, hv56, h⟩ := bnd h; obtain ⟨v57, hv57, h⟩ := bnd h; obtain ⟨v58, hv58, h⟩ := bnd h; obtain ⟨v59, hv59, h⟩ := bnd h; obtain ⟨v60, hv60, h⟩ := bnd h; obtain ⟨v61, hv61, h⟩ := bnd h; obtain ⟨v63, hv63, h⟩ := bnd h; rw [← Option.some.inj h]; exact tor_f (tno_ (tv_ (pk_s (fn_s (ρ2 := [.sh ((eL eI) a_script), .ow (W1 ds v25.2), .sh (eI v1.1), .sh ((e2 eI eI) s16), j13, .sh ((eL (e2 eI eI)) y23), .sh ((e2 eI eI) v24), .sh ((e2 eI eI) v25.1), j42, .sh (eI v54), .sh (eI s16.1), .sh (eI s16.2), .no, .no, .no, .no]) (ac_ (fr_s ev_9) (an_ _)) rfl rfl (sim__law_plain (a_thing := (eI v54)) hv55) rfl)) rfl (tru_b _))) c66 (show _ = some (v63, ([.sh ((eL eI) a_script), .ow (W1 ds v25.2), .sh (eI v1.1), .sh ((e2 eI eI) s16), j13, .sh ((eL (e2 eI eI)) y23), .sh ((e2 eI eI) v24), .sh ((e2 eI eI) v25.1), j42, .sh (eI v54), .sh (eI s16.1), .sh (eI s16.2), .no, .no, .no, .no] : Rho)) from ite_elim hv63 (fun c64 h => by rw [← Option.some.inj h]; exact tor_t (tb_ (bin_s ev_9 (fn_s (ρ2 := [.sh ((eL eI) a_script), .ow (W1 ds v25.2), .sh (eI v1.1), .sh ((e2 eI eI) s16), j13, .sh ((eL (e2 eI eI)) y23), .sh ((e2 eI eI) v24), .sh ((e2 eI eI) v25.1), j42, .sh (eI v54), .sh (eI s16.1), .sh (eI s16.2), .no, .no, .no, .no]) (ac_ (fr_s ev_2) (ac_ (fr_s (bin_s (bin_s (bin_s (ec _ _) ev_10 (mul_l _ _)) ev_10 (mul_t hv56)) ev_10 (mul_t hv57))) (ac_ (fr_s (bin_s (bin_s (bin_s (bin_s (ec _ _) ev_10 (mul_l _ _)) ev_10 (mul_t hv58)) ev_10 (mul_t hv59)) (bin_s (bin_s (ec _ _) ev_11 (mul_l _ _)) ev_11 (mul_t hv60)) (add_i _ _))) (an_ _)))) rfl rfl (sim__law_over (a_p := v1.1) (a_a := v57) (a_b := (v59 + v60)) hv61) rfl) (ne_i _ _))) c64) (fun c64 h => by obtain ⟨v62, hv62, h⟩ := bnd h; rw [← Option.some.inj h]; exact tor_f (tb_ (bin_s ev_9 (fn_s (ρ2 := [.sh ((eL eI) a_script), .ow (W1 ds v25.2), .sh (eI v1.1), .sh ((e2 eI eI) s16), j13, .sh ((eL (e2 eI eI)) y23), .sh ((e2 eI eI) v24), .sh ((e2 eI eI) v25.1), j42, .sh (eI v54), .sh (eI s16.1), .sh (eI s16.2), .no, .no, .no, .no]) (ac_ (fr_s ev_2) (ac_ (fr_s (bin_s (bin_s (bin_s (ec _ _) ev_10 (mul_l _ _)) ev_10 (mul_t hv56)) ev_10 (mul_t hv57))) (ac_ (fr_s (bin_s (bin_s (bin_s (bin_s (ec _ _) ev_10 (mul_l _ _)) ev_10 (mul_t hv58)) ev_10 (mul_t hv59)) (bin_s (bin_s (ec _ _) ev_11 (mul_l _ _)) ev_11 (mul_t hv60)) (add_i _ _))) (an_ _)))) rfl rfl (sim__law_over (a_p := v1.1) (a_a := v57) (a_b := (v59 + v60)) hv61) rfl) (ne_i _ _))) c64 (tb_ (bin_s (fn_s (ρ2 := [.sh ((eL eI) a_script), .ow (W1 ds v25.2), .sh (eI v1.1), .sh ((e2 eI eI) s16), j13, .sh ((eL (e2 eI eI)) y23), .sh ((e2 eI eI) v24), .sh ((e2 eI eI) v25.1), j42, .sh (eI v54), .sh (eI s16.1), .sh (eI s16.2), .no, .no, .no, .no]) (ac_ (fr_s ev_2) (ac_ (fr_s ev_7) (an_ _))) rfl rfl (sim_shape_number (a_p := v1.1) (a_curve := v25.1) hv62) rfl) ev_9 (ne_i _ _))))))) c67 ?_
              refine wp_ret (ec _ _) ?_
              refine qs_rt ?_
              cases h
              exact rt_i rfl rfl
            · refine wp_if_f (show _ = some (v65, ([.sh ((eL eI) a_script), .ow (W1 ds v25.2), .sh (eI v1.1), .sh ((e2 eI eI) s16), j13, .sh ((eL (e2 eI eI)) y23), .sh ((e2 eI eI) v24), .sh ((e2 eI eI) v25.1), j42, .sh (eI v54), .sh (eI s16.1), .sh (eI s16.2), .no, .no, .no, .no] : Rho)) from ite_elim hv65 (fun c66 h => by rw [← Option.some.inj h]; exact tor_t (tno_ (tv_ (pk_s (fn_s (ρ2 := [.sh ((eL eI) a_script), .ow (W1 ds v25.2), .sh (eI v1.1), .sh ((e2 eI eI) s16), j13, .sh ((eL (e2 eI eI)) y23), .sh ((e2 eI eI) v24), .sh ((e2 eI eI) v25.1), j42, .sh (eI v54), .sh (eI s16.1), .sh (eI s16.2), .no, .no, .no, .no]) (ac_ (fr_s ev_9) (an_ _)) rfl rfl (sim__law_plain (a_thing := (eI v54)) hv55) rfl)) rfl (tru_b _))) c66) (fun c66 h => by obtain ⟨v56, hv56, h⟩ := bnd h; obtain ⟨v57, hv57, h⟩ := bnd h; obtain ⟨v58, hv58, h⟩ := bnd h; obtain ⟨v59, hv59, h⟩ := bnd h; obtain ⟨v60, hv60, h⟩ := bnd h; obtain ⟨v61, hv61, h⟩ := bnd h; obtain ⟨v63, hv63, h⟩ := bnd h; rw [← Option.some.inj h]; exact tor_f (tno_ (tv_ (pk_s (fn_s (ρ2 := [.sh ((eL eI) a_script), .ow (W1 ds v25.2), .sh (eI v1.1), .sh ((e2 eI eI) s16), j13, .sh ((eL (e2 eI eI)) y23), .sh ((e2 eI eI) v24), .sh ((e2 eI eI) v25.1), j42, .sh (eI v54), .sh (eI s16.1), .sh (eI s16.2), .no, .no, .no, .no]) (ac_ (fr_s ev_9) (an_ _)) rfl rfl (sim__law_plain (a_thing := (eI v54)) hv55) rfl)) rfl (tru_b _))) c66 (show _ = some (v63, ([.sh ((eL eI) a_script), .ow (W1 ds v25.2), .sh (eI v1.1), .sh ((e2 eI eI) s16), j13, .sh ((eL (e2 eI eI)) y23), .sh ((e2 eI eI) v24), .sh ((e2 eI eI) v25.1), j42, .sh (eI v54), .sh (eI s16.1), .sh (eI s16.2), .no, .no, .no, .no] : Rho)) from ite_elim hv63 (fun c64 h => by rw [← Option.some.inj h]; exact tor_t (tb_ (bin_s ev_9 (fn_s (ρ2 := [.sh ((eL eI) a_script), .ow (W1 ds v25.2), .sh (eI v1.1), .sh ((e2 eI eI) s16), j13, .sh ((eL (e2 eI eI)) y23), .sh ((e2 eI eI) v24), .sh ((e2 eI eI) v25.1), j42, .sh (eI v54), .sh (eI s16.1), .sh (eI s16.2), .no, .no, .no, .no]) (ac_ (fr_s ev_2) (ac_ (fr_s (bin_s (bin_s (bin_s (ec _ _) ev_10 (mul_l _ _)) ev_10 (mul_t hv56)) ev_10 (mul_t hv57))) (ac_ (fr_s (bin_s (bin_s (bin_s (bin_s (ec _ _) ev_10 (mul_l _ _)) ev_10 (mul_t hv58)) ev_10 (mul_t hv59)) (bin_s (bin_s (ec _ _) ev_11 (mul_l _ _)) ev_11 (mul_t hv60)) (add_i _ _))) (an_ _)))) rfl rfl (sim__law_over (a_p := v1.1) (a_a := v57) (a_b := (v59 + v60)) hv61) rfl) (ne_i _ _))) c64) (fun c64 h => by obtain ⟨v62, hv62, h⟩ := bnd h; rw [← Option.some.inj h]; exact tor_f (tb_ (bin_s ev_9 (fn_s (ρ2 := [.sh ((eL eI) a_script), .ow (W1 ds v25.2), .sh (eI v1.1), .sh ((e2 eI eI) s16), j13, .sh ((eL (e2 eI eI)) y23), .sh ((e2 eI eI) v24), .sh ((e2 eI eI) v25.1), j42, .sh (eI v54), .sh (eI s16.1), .sh (eI s16.2), .no, .no, .no, .no]) (ac_ (fr_s ev_2) (ac_ (fr_s (bin_s (bin_s (bin_s (ec _ _) ev_10 (mul_l _ _)) ev_10 (mul_t hv56)) ev_10 (mul_t hv57))) (ac_ (fr_s (bin_s (bin_s (bin_s (bin_s (ec _ _) ev_10 (mul_l _ _)) ev_10 (mul_t hv58)) ev_10 (mul_t hv59)) (bin_s (bin_s (ec _ _) ev_11 (mul_l _ _)) ev_11 (mul_t hv60)) (add_i _ _))) (an_ _)))) rfl rfl (sim__law_over (a_p := v1.1) (a_a := v57) (a_b := (v59 + v60)) hv61) rfl) (ne_i _ _))) c64 (tb_ (bin_s (fn_s (ρ2 := [.sh ((eL eI) a_script), .ow (W1 ds v25.2), .sh (eI v1.1), .sh ((e2 eI eI) s16), j13, .sh ((eL (e2 eI eI)) y23), .sh ((e2 eI eI) v24), .sh ((e2 eI eI) v25.1), j42, .sh (eI v54), .sh (eI s16.1), .sh (eI s16.2), .no, .no, .no, .no]) (ac_ (fr_s ev_2) (ac_ (fr_s ev_7) (an_ _))) rfl rfl (sim_shape_number (a_p := v1.1) (a_curve := v25.1) hv62) rfl) ev_9 (ne_i _ _))))))) c67 ?_
              refine wp_nil ?_
              refine qs_nx ?_
              refine wp_seqW ?_
              refine ite_elim h (fun c68 h => ?_) (fun c68 h => ?_)
              · refine wp_if_t (tb_ (bin_s ev_2 (ec _ _) (cmp_i _ _ _))) c68 ?_
                obtain ⟨v69, hv69, h⟩ := bnd h
                refine wp_seq (ρ1 := [.sh ((eL eI) a_script), .ow (W1 ds v25.2), .sh (eI v1.1), .sh ((e2 eI eI) s16), j13, .sh ((eL (e2 eI eI)) y23), .sh ((e2 eI eI) v24), .sh ((e2 eI eI) v25.1), j42, .sh (eI v54), .sh (eI s16.1), .sh (eI s16.2), .sh ((eL (e2 eI eI)) v69.1), .sh (eI v69.2), .no, .no]) (asg_ (fr_s (fn_s (ρ2 := [.sh ((eL eI) a_script), .ow (W1 ds v25.2), .sh (eI v1.1), .sh ((e2 eI eI) s16), j13, .sh ((eL (e2 eI eI)) y23), .sh ((e2 eI eI) v24), .sh ((e2 eI eI) v25.1), j42, .sh (eI v54), .sh (eI s16.1), .sh (eI s16.2), .no, .no, .no, .no]) (ac_ (fr_s ev_2) (an_ _)) rfl rfl (sim__law_forms (a_p := v1.1) hv69) rfl)) rfl) ?_
                obtain ⟨v70, hv70, h⟩ := bnd h
                refine wp_seq (ρ1 := [.sh ((eL eI) a_script), .ow (W1 ds v25.2), .sh (eI v1.1), .sh ((e2 eI eI) s16), j13, .sh ((eL (e2 eI eI)) y23), .sh ((e2 eI eI) v24), .sh ((e2 eI eI) v25.1), j42, .sh ((eT (e2 eI eI)) v70), .sh (eI s16.1), .sh (eI s16.2), .sh ((eL (e2 eI eI)) v69.1), .sh (eI v69.2), .no, .no]) (set_s (pk_s (fn_s (ρ2 := [.sh ((eL eI) a_script), .ow (W1 ds v25.2), .sh (eI v1.1), .sh ((e2 eI eI) s16), j13, .sh ((eL (e2 eI eI)) y23), .sh ((e2 eI eI) v24), .sh ((e2 eI eI) v25.1), j42, .sh (eI v54), .sh (eI s16.1), .sh (eI s16.2), .sh ((eL (e2 eI eI)) v69.1), .sh (eI v69.2), .no, .no]) (ac_ (fr_s ev_2) (an_ _)) rfl rfl (sim_all_curves (a_p := v1.1) hv70) rfl))) ?_
                obtain ⟨v71, hv71, h⟩ := bnd h
                obtain ⟨v75, hv75, h⟩ := bnd h
                refine wp_seqW ?_
                refine ite_elim h (fun c77 h => ?_) (fun c77 h => ?_)
                · refine wp_if_t (show _ = some (v75, ([.sh ((eL eI) a_script), .ow (W1 ds v25.2), .sh (eI v1.1), .sh ((e2 eI eI) s16), j13, .sh ((eL (e2 eI eI)) y23), .sh ((e2 eI eI) v24), .sh ((e2 eI eI) v25.1), j42, .sh ((eT (e2 eI eI)) v70), .sh (eI s16.1), .sh (eI s16.2), .sh ((eL (e2 eI eI)) v69.1), .sh (eI v69.2), .no, .no] : Rho)) from ite_elim hv75 (fun c76 h => by rw [← Option.some.inj h]; exact tor_t (tno_ (tv_ (pk_s (fn_s (ρ2 := [.sh ((eL eI) a_script), .ow (W1 ds v25.2), .sh (eI v1.1), .sh ((e2 eI eI) s16), j13, .sh ((eL (e2 eI eI)) y23), .sh ((e2 eI eI) v24), .sh ((e2 eI eI) v25.1), j42, .sh ((eT (e2 eI eI)) v70), .sh (eI s16.1), .sh (eI s16.2), .sh ((eL (e2 eI eI)) v69.1), .sh (eI v69.2), .no, .no]) (ac_ (fr_s ev_9) (an_ _)) rfl rfl (sim__law_plain (a_thing := ((eT (e2 eI eI)) v70)) hv71) rfl)) rfl (tru_b _))) c76) (fun c76 h => by obtain ⟨v73, hv73, h⟩ := bnd h; rw [← Option.some.inj h]; exact tor_f (tno_ (tv_ (pk_s (fn_s (ρ2 := [.sh ((eL eI) a_script), .ow (W1 ds v25.2), .sh (eI v1.1), .sh ((e2 eI eI) s16), j13, .sh ((eL (e2 eI eI)) y23), .sh ((e2 eI eI) v24), .sh ((e2 eI eI) v25.1), j42, .sh ((eT (e2 eI eI)) v70), .sh (eI s16.1), .sh (eI s16.2), .sh ((eL (e2 eI eI)) v69.1), .sh (eI v69.2), .no, .no]) (ac_ (fr_s ev_9) (an_ _)) rfl rfl (sim__law_plain (a_thing := ((eT (e2 eI eI)) v70)) hv71) rfl)) rfl (tru_b _))) c76 (show _ = some (v73, ([.sh ((eL eI) a_script), .ow (W1 ds v25.2), .sh (eI v1.1), .sh ((e2 eI eI) s16), j13, .sh ((eL (e2 eI eI)) y23), .sh ((e2 eI eI) v24), .sh ((e2 eI eI) v25.1), j42, .sh ((eT (e2 eI eI)) v70), .sh (eI s16.1), .sh (eI s16.2), .sh ((eL (e2 eI eI)) v69.1), .sh (eI v69.2), .no, .no] : Rho)) from ite_elim hv73 (fun c74 h => by rw [← Option.some.inj h]; exact tor_t (tb_ (bin_gs (pk_o (call_o (ac_ ev_9 (an_ _)) rfl (lstT_e (e := (e2 eI eI)) v70))) (pk_s ev_12) rfl rfl (ne_e (e := (eL (e2 eI eI))) v70 v69.1))) c74) (fun c74 h => by obtain ⟨v72, hv72, h⟩ := bnd h; rw [← Option.some.inj h]; exact tor_f (tb_ (bin_gs (pk_o (call_o (ac_ ev_9 (an_ _)) rfl (lstT_e (e := (e2 eI eI)) v70))) (pk_s ev_12) rfl rfl (ne_e (e := (eL (e2 eI eI))) v70 v69.1))) c74 (tb_ (bin_s ev_13 (bin_s (bin_s ev_2 ev_2 (mul_t hv72)) ev_2 (sub_i _ _)) (ne_i _ _))))))) c77 ?_
                  refine wp_ret (ec _ _) ?_
                  refine qs_rt ?_
                  refine qs_rt ?_
                  cases h
                  exact rt_i rfl rfl
                · refine wp_if_f (show _ = some (v75, ([.sh ((eL eI) a_script), .ow (W1 ds v25.2), .sh (eI v1.1), .sh ((e2 eI eI) s16), j13, .sh ((eL (e2 eI eI)) y23), .sh ((e2 eI eI) v24), .sh ((e2 eI eI) v25.1), j42, .sh ((eT (e2 eI eI)) v70), .sh (eI s16.1), .sh (eI s16.2), .sh ((eL (e2 eI eI)) v69.1), .sh (eI v69.2), .no, .no] : Rho)) from ite_elim hv75 (fun c76 h => by rw [← Option.some.inj h]; exact tor_t (tno_ (tv_ (pk_s (fn_s (ρ2 := [.sh ((eL eI) a_script), .ow (W1 ds v25.2), .sh (eI v1.1), .sh ((e2 eI eI) s16), j13, .sh ((eL (e2 eI eI)) y23), .sh ((e2 eI eI) v24), .sh ((e2 eI eI) v25.1), j42, .sh ((eT (e2 eI eI)) v70), .sh (eI s16.1), .sh (eI s16.2), .sh ((eL (e2 eI eI)) v69.1), .sh (eI v69.2), .no, .no]) (ac_ (fr_s ev_9) (an_ _)) rfl rfl (sim__law_plain (a_thing := ((eT (e2 eI eI)) v70)) hv71) rfl)) rfl (tru_b _))) c76) (fun c76 h => by obtain ⟨v73, hv73, h⟩ := bnd h; rw [← Option.some.inj h]; exact tor_f (tno_ (tv_ (pk_s (fn_s (ρ2 := [.sh ((eL eI) a_script), .ow (W1 ds v25.2), .sh (eI v1.1), .sh ((e2 eI eI) s16), j13, .sh ((eL (e2 eI eI)) y23), .sh ((e2 eI eI) v24), .sh ((e2 eI eI) v25.1), j42, .sh ((eT (e2 eI eI)) v70), .sh (eI s16.1), .sh (eI s16.2), .sh ((eL (e2 eI eI)) v69.1), .sh (eI v69.2), .no, .no]) (ac_ (fr_s ev_9) (an_ _)) rfl rfl (sim__law_plain (a_thing := ((eT (e2 eI eI)) v70)) hv71) rfl)) rfl (tru_b _))) c76 (show _ = some (v73, ([.sh ((eL eI) a_script), .ow (W1 ds v25.2), .sh (eI v1.1), .sh ((e2 eI eI) s16), j13, .sh ((eL (e2 eI eI)) y23), .sh ((e2 eI eI) v24), .sh ((e2 eI eI) v25.1), j42, .sh ((eT (e2 eI eI)) v70), .sh (eI s16.1), .sh (eI s16.2), .sh ((eL (e2 eI eI)) v69.1), .sh (eI v69.2), .no, .no] : Rho)) from ite_elim hv73 (fun c74 h => by rw [← Option.some.inj h]; exact tor_t (tb_ (bin_gs (pk_o (call_o (ac_ ev_9 (an_ _)) rfl (lstT_e (e := (e2 eI eI)) v70))) (pk_s ev_12) rfl rfl (ne_e (e := (eL (e2 eI eI))) v70 v69.1))) c74) (fun c74 h => by obtain ⟨v72, hv72, h⟩ := bnd h; rw [← Option.some.inj h]; exact tor_f (tb_ (bin_gs (pk_o (call_o (ac_ ev_9 (an_ _)) rfl (lstT_e (e := (e2 eI eI)) v70))) (pk_s ev_12) rfl rfl (ne_e (e := (eL (e2 eI eI))) v70 v69.1))) c74 (tb_ (bin_s ev_13 (bin_s (bin_s ev_2 ev_2 (mul_t hv72)) ev_2 (sub_i _ _)) (ne_i _ _))))))) c77 ?_
                  refine wp_nil ?_
                  refine qs_nx ?_
                  obtain ⟨y82, hy82, h⟩ := bnd h
                  obtain ⟨v83, hv83, h⟩ := bnd h
                  refine ite_elim h (fun c84 h => ?_) (fun c84 h => ?_)
                  · refine wp_if_t (tb_ (bin_s (call_s (ac_ (lm_ (W := [.sh ((eL eI) a_script), .ow (W1 ds v25.2), .sh (eI v1.1), .sh ((e2 eI eI) s16), j13, .sh ((eL (e2 eI eI)) y23), .sh ((e2 eI eI) v24), .sh ((e2 eI eI) v25.1), j42, .sh ((eT (e2 eI eI)) v70), .sh (eI s16.1), .sh (eI s16.2), .sh ((eL (e2 eI eI)) v69.1), .sh (eI v69.2), .no, .no]) (e := (e2 eI eI)) (e' := eI) (iseq_t (e := (e2 eI eI)) (fr_s ev_9)) rfl rfl (fun x79 _ _ h => by obtain ⟨v80, hv80, h⟩ := bnd h; obtain ⟨v81, hv81, h⟩ := bnd h; rw [← Option.some.inj h]; exact ⟨[.sh ((eL eI) a_script), .ow (W1 ds v25.2), .sh (eI v1.1), .sh ((e2 eI eI) s16), j13, .sh ((eL (e2 eI eI)) y23), .sh ((e2 eI eI) v24), .sh ((e2 eI eI) v25.1), j42, .sh ((eT (e2 eI eI)) v70), .sh (eI s16.1), .sh (eI s16.2), .sh ((eL (e2 eI eI)) v69.1), .sh (eI v69.2), .no, .sh ((e2 eI eI) x79)], [.sh ((eL eI) a_script), .ow (W1 ds v25.2), .sh (eI v1.1), .sh ((e2 eI eI) s16), j13, .sh ((eL (e2 eI eI)) y23), .sh ((e2 eI eI) v24), .sh ((e2 eI eI) v25.1), j42, .sh ((eT (e2 eI eI)) v70), .sh (eI s16.1), .sh (eI s16.2), .sh ((eL (e2 eI eI)) v69.1), .sh (eI v69.2), .no, .sh ((e2 eI eI) x79)], rfl, (fr_s (bin_s (bin_s ev_2 (ec _ _) (sub_i _ _)) (call_s (ac_ (fn_s (ρ2 := [.sh ((eL eI) a_script), .ow (W1 ds v25.2), .sh (eI v1.1), .sh ((e2 eI eI) s16), j13, .sh ((eL (e2 eI eI)) y23), .sh ((e2 eI eI) v24), .sh ((e2 eI eI) v25.1), j42, .sh ((eT (e2 eI eI)) v70), .sh (eI s16.1), .sh (eI s16.2), .sh ((eL (e2 eI eI)) v69.1), .sh (eI v69.2), .no, .sh ((e2 eI eI) x79)]) (ac_ (fr_s ev_2) (ac_ (fr_s ev_15) (an_ _))) rfl rfl (sim_curve_keepers (a_p := v1.1) (a_curve := x79) hv80) rfl) (an_ _)) rfl (lenT_e (e := eI) v80)) (div_t hv81))), rfl⟩) hy82) (an_ _)) rfl (sumL_e y82)) (bin_s (bin_s ev_2 ev_2 (mul_t hv83)) ev_2 (sub_i _ _)) (ne_i _ _))) c84 ?_
                    refine wp_ret (ec _ _) ?_
                    refine qs_rt ?_
                    cases h
                    exact rt_i rfl rfl
                  · refine wp_if_f (tb_ (bin_s (call_s (ac_ (lm_ (W := [.sh ((eL eI) a_script), .ow (W1 ds v25.2), .sh (eI v1.1), .sh ((e2 eI eI) s16), j13, .sh ((eL (e2 eI eI)) y23), .sh ((e2 eI eI) v24), .sh ((e2 eI eI) v25.1), j42, .sh ((eT (e2 eI eI)) v70), .sh (eI s16.1), .sh (eI s16.2), .sh ((eL (e2 eI eI)) v69.1), .sh (eI v69.2), .no, .no]) (e := (e2 eI eI)) (e' := eI) (iseq_t (e := (e2 eI eI)) (fr_s ev_9)) rfl rfl (fun x79 _ _ h => by obtain ⟨v80, hv80, h⟩ := bnd h; obtain ⟨v81, hv81, h⟩ := bnd h; rw [← Option.some.inj h]; exact ⟨[.sh ((eL eI) a_script), .ow (W1 ds v25.2), .sh (eI v1.1), .sh ((e2 eI eI) s16), j13, .sh ((eL (e2 eI eI)) y23), .sh ((e2 eI eI) v24), .sh ((e2 eI eI) v25.1), j42, .sh ((eT (e2 eI eI)) v70), .sh (eI s16.1), .sh (eI s16.2), .sh ((eL (e2 eI eI)) v69.1), .sh (eI v69.2), .no, .sh ((e2 eI eI) x79)], [.sh ((eL eI) a_script), .ow (W1 ds v25.2), .sh (eI v1.1), .sh ((e2 eI eI) s16), j13, .sh ((eL (e2 eI eI)) y23), .sh ((e2 eI eI) v24), .sh ((e2 eI eI) v25.1), j42, .sh ((eT (e2 eI eI)) v70), .sh (eI s16.1), .sh (eI s16.2), .sh ((eL (e2 eI eI)) v69.1), .sh (eI v69.2), .no, .sh ((e2 eI eI) x79)], rfl, (fr_s (bin_s (bin_s ev_2 (ec _ _) (sub_i _ _)) (call_s (ac_ (fn_s (ρ2 := [.sh ((eL eI) a_script), .ow (W1 ds v25.2), .sh (eI v1.1), .sh ((e2 eI eI) s16), j13, .sh ((eL (e2 eI eI)) y23), .sh ((e2 eI eI) v24), .sh ((e2 eI eI) v25.1), j42, .sh ((eT (e2 eI eI)) v70), .sh (eI s16.1), .sh (eI s16.2), .sh ((eL (e2 eI eI)) v69.1), .sh (eI v69.2), .no, .sh ((e2 eI eI) x79)]) (ac_ (fr_s ev_2) (ac_ (fr_s ev_15) (an_ _))) rfl rfl (sim_curve_keepers (a_p := v1.1) (a_curve := x79) hv80) rfl) (an_ _)) rfl (lenT_e (e := eI) v80)) (div_t hv81))), rfl⟩) hy82) (an_ _)) rfl (sumL_e y82)) (bin_s (bin_s ev_2 ev_2 (mul_t hv83)) ev_2 (sub_i _ _)) (ne_i _ _))) c84 ?_
                    refine wp_nil ?_
                    refine qs_nx ?_
                    refine wp_ret (ec _ _) ?_
                    cases h
                    exact rt_i rfl rfl
              · refine wp_if_f (tb_ (bin_s ev_2 (ec _ _) (cmp_i _ _ _))) c68 ?_
                refine wp_nil ?_
                refine qs_nx ?_
                refine wp_ret (ec _ _) ?_
                cases h
                exact rt_i rfl rfl
end K85

set_option Elab.async false
set_option linter.all false
set_option autoImplicit false
set_option maxRecDepth 100000
set_option maxHeartbeats 1000000
namespace K85
open PySem PySem.Spec PyProof.Rows L2 DL
/-! points of curves modulo a small prime, over numbers -/
def invC : Nat → Nat
  | 5 => 4262944
  | 7 => 6545379360
  | 11 => 11442894840928288
  | 13 => 14055845568507583520
  | _ => 19658190697734245193032736
abbrev Pt := Option (Nat × Nat)
def inv (I x : Nat) : Nat := (I / 32 ^ x) % 32
def addN (p I A : Nat) : Pt → Pt → Pt
  | none, v => v
  | some u, none => some u
  | some u, some v => cond (u.1 == v.1 && (u.2 + v.2) % p == 0) none
      (let s := (cond (u.1 == v.1) ((3 * u.1 * u.1 + A) * inv I ((2 * u.2) % p)) ((v.2 + p - u.2) * inv I ((v.1 + p - u.1) % p))) % p
       let t := (s * s + 2 * p - u.1 - v.1) % p
       some (t, (s * (u.1 + p - t) + p - u.2) % p))
def slN (p I A : Nat) (u v : Nat × Nat) : Nat := (cond (u.1 == v.1) ((3 * u.1 * u.1 + A) * inv I ((2 * u.2) % p)) ((v.2 + p - u.2) * inv I ((v.1 + p - u.1) % p))) % p
def thN (p s x z : Nat) : Nat := (s * s + 2 * p - x - z) % p
theorem addN_ss (p I A : Nat) (u v : Nat × Nat) : addN p I A (some u) (some v) = cond (u.1 == v.1 && (u.2 + v.2) % p == 0) none
  (some (thN p (slN p I A u v) u.1 v.1, (slN p I A u v * (u.1 + p - thN p (slN p I A u v) u.1 v.1) + p - u.2) % p)) := rfl
def cod : Pt → Nat
  | none => 0
  | some u => 1 + 32 * u.1 + u.2
def dg (C c : Nat) : Nat := (C / 1024 ^ c) % 1024
def pt (d : Nat) : Pt := cond (d == 0) none (some ((d - 1) / 32, (d - 1) % 32))
def onC (p A B : Nat) : Pt → Bool
  | none => true
  | some u => Nat.ble (u.1 + 1) p && (Nat.ble (u.2 + 1) p && (u.2 * u.2) % p == (u.1 * u.1 * u.1 + A * u.1 + B) % p)
def ptsN (p A B : Nat) : List (Nat × Nat) := (List.range p).flatMap fun x => ((List.range p).filter fun y => (y * y) % p == (x * x * x + A * x + B) % p).map fun y => (x, y)
def chk (p I A B n1 n2 C : Nat) : Bool :=
  Nat.ble 1 n1 && (Nat.ble 1 n2 && (n1 % n2 == 0 && (Nat.ble n1 (2 * p + 8) && (dg C 0 == 0 && (((List.range (n1 * n2)).all fun a => Nat.ble a 0 || !(dg C a == 0)) &&
  (((List.range (n1 * n2)).all fun a => onC p A B (pt (dg C a)) && cod (pt (dg C a)) == dg C a) &&
  (((ptsN p A B).all fun q => (List.range (n1 * n2)).any fun a => dg C a == cod (some q)) && ((ptsN p A B).length + 1 == n1 * n2 &&
  ((List.range n1).all fun i => (List.range n2).all fun j => (List.range n1).all fun k => (List.range n2).all fun l =>
    cod (addN p I A (pt (dg C (i + n1 * j))) (pt (dg C (k + n1 * l)))) == dg C ((i + k) % n1 + n1 * ((j + l) % n2)))))))))))
def disc (p A B : Nat) : Nat := (4 * A * A * A + 27 * B * B) % p
def okRow (p I A : Nat) : Nat → List (Nat × Nat × Nat) → Bool
  | _, [] => true
  | B, (n1, n2, C) :: r => (cond (n1 == 0) (disc p A B == 0) (chk p I A B n1 n2 C)) && okRow p I A (B + 1) r
def okG (p A : Nat) (r : List (Nat × Nat × Nat)) : Bool := r.length == p && okRow p (invC p) A 0 r
theorem okRow_at {p I A : Nat} : ∀ {r : List (Nat × Nat × Nat)} {B0 : Nat}, okRow p I A B0 r = true → ∀ k, k < r.length → disc p A (B0 + k) ≠ 0 → ∃ n1 n2 C, chk p I A (B0 + k) n1 n2 C = true
  | [], _, _, k, hk, _ => by cases hk
  | (n1, n2, C) :: r, B0, h, k, hk, hd => by
    unfold okRow at h
    rw [Bool.and_eq_true] at h
    cases k with
    | zero =>
      have h1 := h.1
      cases hn : (n1 == 0) with
      | true =>
        rw [hn] at h1
        exact absurd (by simpa using h1) hd
      | false =>
        rw [hn] at h1
        exact ⟨n1, n2, C, h1⟩
    | succ k =>
      rw [show B0 + (k + 1) = B0 + 1 + k by omega] at hd ⊢
      exact okRow_at h.2 k (by simpa using hk) hd
theorem okG_at {p A : Nat} {r : List (Nat × Nat × Nat)} (h : okG p A r = true) {B : Nat} (hB : B < p) (hd : disc p A B ≠ 0) : ∃ n1 n2 C, chk p (invC p) A B n1 n2 C = true := by
  unfold okG at h
  rw [Bool.and_eq_true] at h
  have := okRow_at h.2 B (by have := h.1; simp at this; omega)
  rw [Nat.zero_add] at this
  exact this hd
def sm (u : Pt) : Prop := ∀ q, u = some q → q.2 < 32
theorem cod_inj {u v : Pt} (hu : sm u) (hv : sm v) (h : cod u = cod v) : u = v := by
  cases u with
  | none =>
    cases v with
    | none => rfl
    | some v => simp [cod] at h; omega
  | some u =>
    cases v with
    | none => simp [cod] at h
    | some v =>
      obtain ⟨u1, u2⟩ := u
      obtain ⟨v1, v2⟩ := v
      have a := hu _ rfl
      have b := hv _ rfl
      simp only [cod] at h a b
      have : u1 = v1 ∧ u2 = v2 := by omega
      rw [this.1, this.2]
theorem sm_on {p A B : Nat} (hp : p ≤ 32) {u : Pt} (h : onC p A B u = true) : sm u := fun q e => by
  subst e
  simp only [onC, Bool.and_eq_true, Nat.ble_eq] at h
  omega
theorem sm_add {p I A : Nat} (h0 : 0 < p) (hp : p ≤ 32) {u v : Pt} (hu : sm u) (hv : sm v) : sm (addN p I A u v) := by
  cases u with
  | none => exact hv
  | some u =>
    cases v with
    | none => exact hu
    | some v =>
      intro q e
      rw [addN_ss] at e
      cases hc : (u.1 == v.1 && (u.2 + v.2) % p == 0) with
      | true => rw [hc] at e; cases e
      | false =>
        rw [hc] at e
        have e := Option.some.inj e
        rw [← e]
        exact Nat.lt_of_lt_of_le (Nat.mod_lt _ h0) hp
/-- what is known of the points of a curve: they are E i j -/
structure Grp (p A B : Nat) where
  n1 : Nat
  n2 : Nat
  E : Int → Int → Pt
  n1p : 1 ≤ n1
  n2p : 1 ≤ n2
  n21 : n2 ∣ n1
  n1b : n1 ≤ 2 * p + 8
  on : ∀ i j, onC p A B (E i j) = true
  add : ∀ i j k l, addN p (invC p) A (E i j) (E k l) = E (i + k) (j + l)
  zero : ∀ i j, E i j = none ↔ (n1 : Int) ∣ i ∧ (n2 : Int) ∣ j
  same : ∀ i j k l, (n1 : Int) ∣ i - k → (n2 : Int) ∣ j - l → E i j = E k l
  all : ∀ q ∈ ptsN p A B, ∃ i j, E i j = some q
  len : (ptsN p A B).length + 1 = n1 * n2
theorem mul_ix {n1 n2 i j : Nat} (hi : i < n1) (hj : j < n2) : i + n1 * j < n1 * n2 := by
  have h : n1 * (j + 1) ≤ n1 * n2 := Nat.mul_le_mul_left _ hj
  rw [Nat.mul_add] at h
  omega
theorem grp_of {p A B n1 n2 C : Nat} (h0 : 0 < p) (hp : p ≤ 32) (h : chk p (invC p) A B n1 n2 C = true) : Nonempty (Grp p A B) := by
  unfold chk at h
  simp only [Bool.and_eq_true, Nat.ble_eq, beq_iff_eq, List.all_eq_true, List.mem_range, List.any_eq_true, Bool.or_eq_true, Bool.not_eq_true', beq_eq_false_iff_ne] at h
  obtain ⟨h1, h2, h3, h4, h5, h6, h7, h8, h9, h10⟩ := h
  have p1 : (0 : Int) < (n1 : Int) := by omega
  have p2 : (0 : Int) < (n2 : Int) := by omega
  have lt1 : ∀ i : Int, (i % (n1 : Int)).toNat < n1 := fun i => by
    have a := Int.emod_nonneg i (b := (n1 : Int)) (by omega)
    have b := Int.emod_lt_of_pos i p1
    omega
  have lt2 : ∀ i : Int, (i % (n2 : Int)).toNat < n2 := fun i => by
    have a := Int.emod_nonneg i (b := (n2 : Int)) (by omega)
    have b := Int.emod_lt_of_pos i p2
    omega
  have md : ∀ (n : Nat) (i k : Int), 0 < (n : Int) → ((i % (n : Int)).toNat + (k % (n : Int)).toNat) % n = ((i + k) % (n : Int)).toNat := fun n i k hn => by
    have a := Int.emod_nonneg i (b := (n : Int)) (by omega)
    have b := Int.emod_nonneg k (b := (n : Int)) (by omega)
    have c := Int.emod_nonneg (i + k) (b := (n : Int)) (by omega)
    have e := Int.emod_add_emod i n k
    have e2 : (i % (n : Int) + k % (n : Int)) % (n : Int) = (i + k) % (n : Int) := by rw [Int.emod_add_emod, Int.add_emod_emod]
    have : ((((i % (n : Int)).toNat + (k % (n : Int)).toNat) % n : Nat) : Int) = (((i + k) % (n : Int)).toNat : Int) := by
      rw [Int.natCast_emod, Int.natCast_add, Int.toNat_of_nonneg a, Int.toNat_of_nonneg b, Int.toNat_of_nonneg c, e2]
    exact_mod_cast this
  let E : Int → Int → Pt := fun i j => pt (dg C ((i % (n1 : Int)).toNat + n1 * (j % (n2 : Int)).toNat))
  have on : ∀ i j, onC p A B (E i j) = true := fun i j => (h7 _ (mul_ix (lt1 i) (lt2 j))).1
  have cd : ∀ i j, cod (E i j) = dg C ((i % (n1 : Int)).toNat + n1 * (j % (n2 : Int)).toNat) := fun i j => (h7 _ (mul_ix (lt1 i) (lt2 j))).2
  have sm' : ∀ i j, sm (E i j) := fun i j => sm_on hp (on i j)
  have per : ∀ i j k l, (n1 : Int) ∣ i - k → (n2 : Int) ∣ j - l → E i j = E k l := fun i j k l a b => by
    show pt (dg C ((i % (n1 : Int)).toNat + n1 * (j % (n2 : Int)).toNat)) = pt (dg C ((k % (n1 : Int)).toNat + n1 * (l % (n2 : Int)).toNat))
    rw [Int.emod_eq_emod_iff_emod_sub_eq_zero.mpr (Int.emod_eq_zero_of_dvd a), Int.emod_eq_emod_iff_emod_sub_eq_zero.mpr (Int.emod_eq_zero_of_dvd b)]
  refine ⟨⟨n1, n2, E, h1, h2, Nat.dvd_of_mod_eq_zero h3, h4, on, fun i j k l => ?_, fun i j => ?_, per, fun q hq => ?_, h9⟩⟩
  · refine cod_inj (sm_add h0 hp (sm' i j) (sm' k l)) (sm' _ _) ?_
    rw [cd, ← md n1 i k p1, ← md n2 j l p2]
    exact h10 _ (lt1 i) _ (lt2 j) _ (lt1 k) _ (lt2 l)
  · have e0 : (i % (n1 : Int)).toNat + n1 * (j % (n2 : Int)).toNat = 0 ↔ (n1 : Int) ∣ i ∧ (n2 : Int) ∣ j := by
      have a := Int.emod_nonneg i (b := (n1 : Int)) (by omega)
      have b := Int.emod_nonneg j (b := (n2 : Int)) (by omega)
      constructor
      · intro h
        have h11 : (i % (n1 : Int)).toNat = 0 := by omega
        have h12 : n1 * (j % (n2 : Int)).toNat = 0 := by omega
        have h13 : (j % (n2 : Int)).toNat = 0 := by
          rcases Nat.mul_eq_zero.mp h12 with h | h
          · omega
          · exact h
        exact ⟨Int.dvd_of_emod_eq_zero (by omega), Int.dvd_of_emod_eq_zero (by omega)⟩
      · rintro ⟨h11, h12⟩
        rw [Int.emod_eq_zero_of_dvd h11, Int.emod_eq_zero_of_dvd h12]
        rfl
    rw [← e0]
    constructor
    · intro h
      rcases h6 _ (mul_ix (lt1 i) (lt2 j)) with h | h'
      · omega
      · have := cd i j
        rw [h] at this
        exact absurd this.symm h'
    · intro h
      show pt (dg C _) = none
      rw [h, h5]
      rfl
  · obtain ⟨a, ha, hc⟩ := h8 q hq
    refine ⟨(a % n1 : Nat), (a / n1 : Nat), ?_⟩
    have hlt : a / n1 < n2 := by
      rw [Nat.div_lt_iff_lt_mul h1, Nat.mul_comm]
      exact ha
    have q2 : q.2 < 32 := by
      unfold ptsN at hq
      obtain ⟨x, hx, hq⟩ := List.mem_flatMap.mp hq
      obtain ⟨y, hy, rfl⟩ := List.mem_map.mp hq
      have := List.mem_range.mp (List.mem_filter.mp hy).1
      show y < 32
      omega
    refine cod_inj (sm' _ _) (fun q' e => by cases e; exact q2) ?_
    rw [cd, ← hc]
    congr 1
    have e1 : (((a % n1 : Nat) : Int) % (n1 : Int)).toNat = a % n1 := by
      rw [← Int.natCast_emod, Int.toNat_natCast, Nat.mod_mod]
    have e2 : (((a / n1 : Nat) : Int) % (n2 : Int)).toNat = a / n1 := by
      rw [← Int.natCast_emod, Int.toNat_natCast, Nat.mod_eq_of_lt hlt]
    rw [e1, e2]
    exact Nat.mod_add_div a n1
end K85

set_option Elab.async false
set_option linter.all false
set_option autoImplicit false
set_option maxRecDepth 100000
set_option maxHeartbeats 1000000
namespace K85
theorem g_5_0 : okG 5 0 [(0, 0, 0), (6, 1, 76563531206560768), (6, 1, 149853609159428096), (6, 1, 40608367170849792), (6, 1, 113720324074342400)] = true := by decide +kernel
theorem g_5_1 : okG 5 1 [(2, 2, 104221115392), (9, 1, 6200546854040974587332608), (4, 1, 38790007808), (4, 1, 142842398720), (9, 1, 4875958761223536256224256)] = true := by decide +kernel
theorem g_5_2 : okG 5 2 [(2, 1, 1024), (7, 1, 5804122978836809728), (0, 0, 0), (0, 0, 0), (7, 1, 4761506643343051776)] = true := by decide +kernel
theorem g_5_3 : okG 5 3 [(10, 1, 84222350922952268862892084224), (0, 0, 0), (5, 1, 40756087654400), (5, 1, 110091961469952), (0, 0, 0)] = true := by decide +kernel
theorem g_5_4 : okG 5 4 [(4, 2, 117027409951466659579904), (8, 1, 6056335050989092472832), (3, 1, 106006528), (3, 1, 71371776), (8, 1, 4764019221533314518016)] = true := by decide +kernel
def LT5 : Nat := 228147797374724718552717296778391383767158411069898341811803810764307825664
def ST5 : Nat := 1770301309595438382896940703489919051050976451718769610833742122922803200
theorem g_7_0 : okG 7 0 [(0, 0, 0), (6, 2, 89734689772251084852524485229711360), (3, 3, 240773515837495183355678720), (13, 1, 50766473357944101048083076088298769408), (3, 1, 6294528), (7, 1, 117785107471973583872), (2, 2, 138580886528)] = true := by decide +kernel
theorem g_7_1 : okG 7 1 [(8, 1, 119281442389586995154944), (5, 1, 7768595499008), (0, 0, 0), (6, 1, 152209965760776192), (10, 1, 7587409926942904506314132480), (0, 0, 0), (11, 1, 49522789226883541084447121115136)] = true := by decide +kernel
theorem g_7_2 : okG 7 2 [(8, 1, 194950022608775055314944), (5, 1, 7734202206208), (0, 0, 0), (6, 1, 80046852865591296), (10, 1, 7510076342702832438194736128), (0, 0, 0), (11, 1, 46989930018840701451150868647936)] = true := by decide +kernel
theorem g_7_3 : okG 7 3 [(4, 2, 121786667635466319203328), (12, 1, 92374969604596903573799524127279104), (9, 1, 6126279145545001974370304), (6, 1, 149856873333526528), (10, 1, 86663248780745156853880654848), (7, 1, 42876664432494153728), (4, 1, 211629051904)] = true := by decide +kernel
theorem g_7_4 : okG 7 4 [(8, 1, 120498964653182070918144), (5, 1, 7837382084608), (0, 0, 0), (6, 1, 44088321578665984), (10, 1, 7471277453574708384645516288), (0, 0, 0), (11, 1, 48372587053367438828561540090880)] = true := by decide +kernel
theorem g_7_5 : okG 7 5 [(4, 2, 235049784334468449897472), (12, 1, 175370589664167138944099178644637696), (9, 1, 6201763114102608634056704), (6, 1, 41876069853204480), (10, 1, 126349831314120570834982636544), (7, 1, 43888888061091679232), (4, 1, 177369944064)] = true := by decide +kernel
theorem g_7_6 : okG 7 6 [(4, 2, 197381496907225145412608), (12, 1, 50877159439544191352100707664693248), (9, 1, 6088537035042263775842304), (6, 1, 77869751186034688), (10, 1, 47049205413117334652946779136), (7, 1, 80854363365152197632), (4, 1, 108616847360)] = true := by decide +kernel
def LT7 : Nat := 318726556972914790138387430245560779719918567456965982482907878581580543931069920770559792747271595021321058677778852577041475059491983961429640192
def ST7 : Nat := 6252654768501589997097710320095162811504391247270088745754699583885872712584800229755490384731138836966437780449859230628776379338249110919577600
theorem g_11_0 : okG 11 0 [(0, 0, 0), (12, 1, 299941548084070071458874748354926592), (12, 1, 50921773791722061482841164234135552), (12, 1, 180726462775595272047984456680736768), (12, 1, 52337614129342380256190459698779136), (12, 1, 219632041238961096437662190326157312), (12, 1, 92502138152307043504516391059396608), (12, 1, 176789171069761954959057604496724992), (12, 1, 222058484215761839297352808492337152), (12, 1, 134030324626459025939748329749583872), (12, 1, 138013203775295682757573010838883328)] = true := by decide +kernel
theorem g_11_1 : okG 11 1 [(12, 1, 302819318164567152239587206613929984), (14, 1, 53223963719393264938263456560281280354304), (8, 2, 421087117947964712630754359043498954911151884288), (18, 1, 256113555817334115969981507415201047152728906222700544), (9, 1, 12438836757370802763992064), (11, 1, 10348336186494578400340595446784), (13, 1, 95916331782634724983446885139900077056), (15, 1, 148188935476117579496858415802111745235979264), (6, 1, 117414923970122752), (4, 2, 304815452647050047393792), (10, 1, 172125878384409834311980812288)] = true := by decide +kernel
theorem g_11_2 : okG 11 2 [(6, 2, 301363966147409064152805470700111872), (16, 1, 15748871051980889755286646691854940081968121856), (9, 1, 48441189326225364066800640), (0, 0, 0), (17, 1, 14766665898750468885411582563092902354409745288192), (10, 1, 10263903291114800474223547392), (14, 1, 189245228966403225205296012091037175646208), (7, 1, 233254058342796692480), (0, 0, 0), (15, 1, 12764846332756308151634740006007436227907584), (8, 1, 160830578513700298298368)] = true := by decide +kernel
theorem g_11_3 : okG 11 3 [(12, 1, 92216757037858467871002989668931584), (18, 1, 59961043737021653340097201065508566686345550840763392), (13, 1, 96131647036690656366109490522020189184), (4, 2, 276554995830866249259008), (14, 1, 232932882351169749111233891375812643555328), (9, 1, 9714067331457548561683456), (15, 1, 146706839569449988140402220403675276479926272), (10, 1, 329687721197191657829483940864), (8, 2, 418413999699785034734269895984198508744345159680), (11, 1, 11541560785509211287264660819968), (6, 1, 154290310312235008)] = true := by decide +kernel
theorem g_11_4 : okG 11 4 [(12, 1, 261084139152757438269515988237225984), (9, 1, 13461297306975234815952896), (6, 1, 191552725116423168), (14, 1, 143356289164191979327025810406816987844608), (11, 1, 12721154317771824972942487325696), (4, 2, 234127453076875249718272), (8, 2, 472823374108916480988252179357763929256913635328), (13, 1, 57254486641967997563183945271922952192), (10, 1, 127864842300213358878303295488), (18, 1, 58511224126197634392223972879673421692098276988327936), (15, 1, 58982212909045726467308167574096674105101312)] = true := by decide +kernel
theorem g_11_5 : okG 11 5 [(12, 1, 262344384699183059414066365731113984), (11, 1, 14310867635652093825188738631680), (10, 1, 90691396808129154379144040448), (9, 1, 8578220518831468454090752), (4, 2, 382660782479084058840064), (18, 1, 154441274032045048214663704579153333528776675128612864), (6, 1, 48530589001746432), (8, 2, 371272788973017646080203263553139262692623718400), (15, 1, 54665856186630770776969351279141370805131264), (14, 1, 185160553848512075230119640082398211871744), (13, 1, 53588772006312633236217975625285145600)] = true := by decide +kernel
theorem g_11_6 : okG 11 6 [(6, 2, 139312425748745761529386241050611712), (0, 0, 0), (14, 1, 55943565455214201920821687597916791803904), (15, 1, 9901249411175892501310421567997498643978240), (16, 1, 14502772040684097872080565788430050687562288128), (17, 1, 11886438326376611290887792780855070541810855056384), (7, 1, 85613649030439570432), (8, 1, 46126418301839903594496), (9, 1, 127130876870940658395877376), (10, 1, 11186352613137946490328584192), (0, 0, 0)] = true := by decide +kernel
theorem g_11_7 : okG 11 7 [(6, 2, 423425804795281092387714054653873152), (15, 1, 15512847176918397800208184193724360008140800), (7, 1, 268923805538232537088), (10, 1, 8864192464684311145868171264), (0, 0, 0), (16, 1, 11564428573103898331032204754746506007675933696), (8, 1, 46416812516735764699136), (0, 0, 0), (14, 1, 54575658859859380492547270601086094840832), (17, 1, 13577502390803925193737957019163804925422431375360), (9, 1, 124749765170538962911074304)] = true := by decide +kernel
theorem g_11_8 : okG 11 8 [(6, 2, 336493020430186066689581736715653120), (17, 1, 16320848206532187078142694919506723745691072464896), (0, 0, 0), (16, 1, 10407750110681036221308887907676906861109450752), (10, 1, 12547642007284886130000923648), (15, 1, 11202238129577946015854838937159990984578048), (9, 1, 51118592492431825090677760), (14, 1, 140585978201379067872523828444691169384448), (8, 1, 125450691829999652146176), (0, 0, 0), (7, 1, 86765588805381588992)] = true := by decide +kernel
theorem g_11_9 : okG 11 9 [(12, 1, 96266973778002613184692353998326784), (4, 2, 81720310339495686834176), (15, 1, 188482545643984539815254055001971255467448320), (11, 1, 9036037696211014557624837347328), (18, 1, 203591577315104364758729607720522245971122129417147392), (14, 1, 57478605509507565234107882177001377795072), (10, 1, 49643600435984541946127356928), (6, 1, 332318663375099904), (13, 1, 100119502274402238698960963125653866496), (9, 1, 11076648611344503840706560), (8, 2, 332688314348985693782258485454585641491623874560)] = true := by decide +kernel
theorem g_11_10 : okG 11 10 [(6, 2, 384559597860369137497567641232148480), (10, 1, 13740702002601924391766853632), (8, 1, 125371172932500969327616), (17, 1, 10286628591706591292637041184645186107675756206080), (15, 1, 14342442024230452403975686832083465320532992), (0, 0, 0), (0, 0, 0), (9, 1, 168352480743416356087662592), (7, 1, 82116605018192812032), (16, 1, 13033839631500575959932805501836671863081668608), (14, 1, 98305934636699801820798494498770194076672)] = true := by decide +kernel
def LT11 : Nat := 1206387698771079433071487499832716700211636634290655089522355533715698304747781849350089842782723983821592586543495283052780776575626682928681598610844893703946194181247501245849550049380799133600628785659720632779627071178833412426326064393411912478777238455033156546368966875070227327827037224827204114304309570928431931188366524441215944493085176667342913930240
def ST11 : Nat := 120663957733705228154825702126753859243124052305123701646705096134707316210491093908708236816777643030733224264929673006559228983061350611889320838665506755965975392355119590445826915994636198678453760386511549252152929098387378712843545404338667043221684838620457764726606821685699229902414314671553280154488081119794235144673037080701475253222493585341729996800
theorem g_13_0 : okG 13 0 [(0, 0, 0), (6, 2, 263717357854790402299929886483091456), (19, 1, 64471361045741498677662085695205819599268574643452154880), (3, 3, 130918217060887139094369280), (21, 1, 117917334852037113705340322322682127773239181708236122094639104), (4, 4, 514272436902841554183102259071756011821012749312), (7, 1, 89005943642474481664), (7, 1, 268929468061767145472), (4, 4, 417038104712598488607551830892614475551425466368), (21, 1, 64632490803574624964874560954753518066873328217161736804932608), (3, 3, 477916635195543449573006336), (19, 1, 63419455514128357003818676553678763374459907014541744128), (6, 2, 348334263689940635905596888468130816)] = true := by decide +kernel
theorem g_13_1 : okG 13 1 [(10, 2, 365807227849793890319078286272800089226851875037452859153408), (18, 1, 63233333190287927054437191397341474051949101839324160), (12, 1, 262303573533418279790336211576624128), (0, 0, 0), (14, 1, 105192657013474528573429445340998778554368), (9, 1, 129735667707548324863250432), (13, 1, 98743659195792610785739435049429832704), (13, 1, 57585624747090527559434319258258018304), (9, 1, 127168652355289310116812800), (14, 1, 233019453192136558075182656496703972216832), (0, 0, 0), (12, 1, 261362145945323600397638978923337728), (18, 1, 67445386540311543992369652039866794903941809557243904)] = true := by decide +kernel
theorem g_13_2 : okG 13 2 [(10, 1, 90842743821902910060436199424), (8, 1, 15388336127718356682752), (15, 1, 149325691381756742213066067380630671256031232), (18, 1, 203961785422721712399173931723287234094949179451382784), (17, 1, 18006710322645155824171939544537485792158141123584), (12, 1, 98865468111964396943928950475787264), (8, 2, 424442164569358929256224722068563769131872063488), (8, 2, 552399445558870353215855749263845305072736110592), (12, 1, 307974858259898415363930876981512192), (17, 1, 16220723480780765431120703403287709965681233498112), (18, 1, 305312230868987906905770073222602900612668445358754816), (15, 1, 100805728617430934499641420793062549078744064), (8, 1, 11080912490773916686336)] = true := by decide +kernel
theorem g_13_3 : okG 13 3 [(10, 2, 121383093623954196494595685622259655850163171400990374005760), (18, 1, 205409689639313017067684371137358430837470552138061824), (12, 1, 96272085198612826114696591297287168), (0, 0, 0), (14, 1, 235605915836518725797902850943864768989184), (9, 1, 52439678112288443405996032), (13, 1, 53506753908128858731164428650666826752), (13, 1, 143899808658685766594729573982405757952), (9, 1, 49646579392534631167334400), (14, 1, 276405330359392225288063529226417248342016), (0, 0, 0), (12, 1, 95086635334202317590460867577714688), (18, 1, 203828338924479357461435070793714816644778774862371840)] = true := by decide +kernel
theorem g_13_4 : okG 13 4 [(4, 2, 425383475566045509522432), (19, 1, 20129547279683599699217159759204553805607127153254598656), (0, 0, 0), (16, 1, 14732567579613192821944199982835866600935003136), (15, 1, 16775045238517193137590826989664789825850368), (10, 1, 49839451261284731754386594816), (14, 1, 102348275412072844185251190173846125744128), (14, 1, 55902473624017216666645244223590830741504), (10, 1, 253941378385977645460105660416), (15, 1, 15870862697701654522477507647892620257005568), (16, 1, 11563381736810026537472411304665534924439165952), (0, 0, 0), (19, 1, 14234014965460325577558410486602663150211941164034037760)] = true := by decide +kernel
theorem g_13_5 : okG 13 5 [(10, 1, 249221546556035843677772519424), (8, 1, 15462231331244886460416), (15, 1, 326546106707371463339693416844997857799017472), (18, 1, 251757008939916230010044342198837733838733421710580736), (17, 1, 17732589736931799624377592600728981760610126531584), (12, 1, 219466181256226885121868639497263104), (8, 2, 521398528349359369325504161172967679466724694016), (8, 2, 414045932642455360615550893851171877559372683264), (12, 1, 305506504560468597717176021947748352), (17, 1, 16494844066494121630915050347096213997229248090112), (18, 1, 63422279164228112316844227679587710389991726200689664), (15, 1, 61421273211407827797819024832871888549088256), (8, 1, 11007017287247386908672)] = true := by decide +kernel
theorem g_13_6 : okG 13 6 [(10, 1, 209375389541830669061524199424), (8, 1, 15683448109619715508224), (15, 1, 60383877262383295221767952856325843234885632), (18, 1, 108132685411455618714458712690488481732128128861543424), (17, 1, 18097697493893772142636544518038497515161504451584), (12, 1, 95012998938160999345926676904220672), (8, 2, 338443475992650327324572574137760213813367511040), (8, 2, 283007797969466253143261225213000806905543690240), (12, 1, 346882937142052799372413551634550784), (17, 1, 16129736309532149112656098429786698242677870170112), (18, 1, 113750197184682718205258797801280460740634000037579776), (15, 1, 150798521071394839173559401230496916077382656), (8, 1, 10785800508872557860864)] = true := by decide +kernel
theorem g_13_7 : okG 13 7 [(6, 3, 389300711068172344593306820868614986635617785628135424), (16, 1, 61738359484644462049912160140261801766969970688), (10, 1, 49803065418094685016319630336), (13, 1, 13424943558601810057591991609362224128), (6, 2, 386878407832329318411271223623289856), (20, 1, 171548137615881189107056680236397001974868734062021051516928), (11, 1, 57450568162777977585948481849344), (11, 1, 94289262725981176008143069582336), (20, 1, 66012593007589419908823141132305026325744811938183632688128), (6, 2, 501228177223277079703263576030449664), (13, 1, 11052095784704188904643308708820950016), (10, 1, 366596333942126390646109674496), (16, 1, 285680000907675819740900193700050334536811355136)] = true := by decide +kernel
theorem g_13_8 : okG 13 8 [(6, 3, 341690696447136880089056541695742045012068627396071424), (16, 1, 57192147590120867212847804490498791238593977344), (10, 1, 366870684432148630695297981440), (13, 1, 13341704787234338966177692222575612928), (6, 2, 137972637871493024279331417819712512), (20, 1, 71212206580682848492238804007121241148935120274918976030720), (11, 1, 96667496893261845356278412545024), (11, 1, 53531203080248054702935530050560), (20, 1, 467894415159480252776405192486897004030071947761093185934336), (6, 2, 169164646652266008591611435354689536), (13, 1, 11135334556071659996057608095607561216), (10, 1, 129143657777814504595962043392), (16, 1, 103036767063364357263685239183130644373859015680)] = true := by decide +kernel
theorem g_13_9 : okG 13 9 [(10, 2, 312644674587790160161524872402269268361943334751329005473792), (18, 1, 115802101281981993202475364004747232536524733965993984), (12, 1, 220927536860684081749110396991738880), (0, 0, 0), (14, 1, 103462251139601503306916068320084306758656), (9, 1, 170775319921076978901452800), (13, 1, 56259028676125931291092858677666812928), (13, 1, 58787354114025300253638472206109412352), (9, 1, 169596827626163293845064704), (14, 1, 102308322845250749638579837461728421023744), (0, 0, 0), (12, 1, 219661432881576114318160360601982976), (18, 1, 163413429697109173087143263505167659706901939096750080)] = true := by decide +kernel
theorem g_13_10 : okG 13 10 [(4, 2, 273050120051385674437632), (19, 1, 20512577491422953394883638331266401191976312735985043456), (0, 0, 0), (16, 1, 14465220016291731145845550679398576876397007872), (15, 1, 16861987299945591908969015878455584485280768), (10, 1, 129183708137943692491957050368), (14, 1, 60361990707158845835962978417691236273152), (14, 1, 143184734464360953106548230278657088788480), (10, 1, 214636706470194583347948324864), (15, 1, 15783920636273255751099318759101825597575168), (16, 1, 11830729300131488213571060608102824648977161216), (0, 0, 0), (19, 1, 13850984753720971881891931914540815763842755581303592960)] = true := by decide +kernel
theorem g_13_11 : okG 13 11 [(6, 3, 293756491392581317950152511797387726713067928489626624), (16, 1, 153216277626040986431190157536629330182645321728), (10, 1, 129070215494857379224310881280), (13, 1, 13674133560021132679570734563808252928), (6, 2, 54652657443827970624812900904078336), (20, 1, 69408706121371389377776896009433308947814747085085872262144), (11, 1, 91472759489803425673192501484544), (11, 1, 256469427676269478972424960807936), (20, 1, 166642428233660206715795087635342230246220942769900212032512), (6, 2, 418475708665300062857770953668038656), (13, 1, 10802905783284866282664565754374921216), (10, 1, 49993093300169164823111703552), (16, 1, 197320008426776295775160605370239355006777168896)] = true := by decide +kernel
theorem g_13_12 : okG 13 12 [(4, 2, 312120358796812140844032), (19, 1, 20416516094581027346129872889920432719294153539854534656), (0, 0, 0), (16, 1, 14821683618013296042131515874155297834672329728), (15, 1, 17123366444130690081382953660278922355411968), (10, 1, 366713566586192495594125433856), (14, 1, 147303886103475380674961747050799999060992), (14, 1, 365268295433602063119659648350319777418240), (10, 1, 95716864920541828850533861376), (15, 1, 15522541492088157578685380977278487727443968), (16, 1, 11474265698409923317285095413346103690701839360), (0, 0, 0), (19, 1, 13947046150562897930645697355886784236524914777434101760)] = true := by decide +kernel
def LT13 : Nat := 6933984185222738841134812532391358706713856166480506194647585239419985584640052309053278273588165634964487607508833493375630785071852525241234780684136684396060856726069437981723837145459200224945088841557307771575165886483848211456005328747068120123275088423366719474909982401117612466557770014150279078336025726061972359312095909942580845297786002909497958595342820168078888954876616153099780728075003324723964008802553377486279363322930609244740879346698770033654492900444687023296251007930631731915260928
def ST13 : Nat := 161255597865794874968931004006339229055273364538894493797455764356042214142947035714325555465599570670803729816464786140828371080849795375939127136784719385794739053905365217970408569146757737023489908930200781217151559510772008004984957603564148500471283209562119168871463375140349828514086998976636981682628511595859612114421250483622473221879531977373348988448315394583644559951012462209023465157679062521920780668237901915438263721525750377415602123578787940981241632074236530923143624797215052634521600
theorem g_17_0 : okG 17 0 [(0, 0, 0), (18, 1, 302640564357633596101746821193287135246396932088865792), (18, 1, 208513172444975711449343668494349112006235720384651264), (18, 1, 159083181612915491426234336545179684706077775358960640), (18, 1, 504648167987453891867629893734870860254304858954598400), (18, 1, 160470691911948257346535933912966540782575485784793088), (18, 1, 313453341637415603927039334569083653298957596724758528), (18, 1, 305367984790749513674703242536557572719517171697523712), (18, 1, 70866959056091928312696070408377756083957898860859392), (18, 1, 256065924624619942319352493480274829993559485571047424), (18, 1, 121942270466178080180577733106013119917038812877883392), (18, 1, 398516521933867201842557327526928529230135346112766976), (18, 1, 211632803578019883484686621437810635988534233609148416), (18, 1, 119977973980585467500537143669878185291499434497084416), (18, 1, 65116341040163715147608692981450794700017146505764864), (18, 1, 163710171973548310219570042791067635993724198903191552), (18, 1, 353957390822518612246405328843426624228783429863578624)] = true := by decide +kernel
theorem g_17_1 : okG 17 1 [(4, 4, 643980511209502215195669016791620447027080502272), (18, 1, 26074836664313271455208614879144311454338049604847616), (24, 1, 293499993313833903139097959227236738764286911826239845006405165665920000), (17, 1, 108721309765686398848801603486984807481511927424000), (14, 1, 22468539408025965662155565608190427008000), (15, 1, 105018164002892255050153387834505909105664000), (20, 1, 122860900890286634886934635023671488175537760847221308331008), (6, 2, 210787795733057608968303000978231296), (25, 1, 23440346389620362017891102103445162488260590604192419788020492541227964416), (25, 1, 27024453783616970868832593452828924056432657409264105726983509655430369280), (6, 2, 672907564039202197288251659678551040), (20, 1, 66609108009563001334731699169866500114449640630987315520512), (15, 1, 152376255307925719795090221754586442002176000), (14, 1, 13664608423095992262686803681370965025792), (17, 1, 67746387554949221230013318189294890859899118457856), (24, 1, 239854918332600800189787286979051923652729491069801333198705969718239232), (18, 1, 21160221938989133072157166359474084044745819429016576)] = true := by decide +kernel
theorem g_17_2 : okG 17 2 [(10, 2, 629500824862077503041425506144502890617404657583378117268480), (12, 2, 898002245635578877971931963695192441535019032658312884466625583048034304), (19, 1, 18846705549887162726652571402220395849244014499631995904), (22, 1, 124138034549454754444035093029316788668391371811338566924345876480), (16, 1, 112015969377415333681392436668734188829506868224), (18, 1, 263924559753281576210138931085256425244668832028724224), (11, 1, 59661794050644487609833189576704), (12, 1, 349278959294905192617548607269378048), (21, 1, 21657882006218047846363303327350441265347469794043636077303808), (21, 1, 24230163071262233103106643964274202159956869565424274974445568), (12, 1, 144708705236502112069435441358671872), (11, 1, 176659582315237923376047372509184), (18, 1, 213130841596940969918871068978779722191667785538606080), (16, 1, 66239106944168533370051009996080325546260599808), (22, 1, 238871666851229203030688914907063005877963371390021140831827789824), (19, 1, 17262050612543166063473905997329734588377454940896894976), (12, 2, 295668866439418247532682242517356496286645884933954721629131980301931520)] = true := by decide +kernel
theorem g_17_3 : okG 17 3 [(26, 1, 196160943357909087829388250561949762511730048713575938591254055447502994381824), (15, 1, 104730044308415088984688125261588253351419904), (16, 1, 17856022109060923167477229867437916130346277888), (12, 1, 604023327452544448655829561620498432), (10, 2, 668636002975641562243397227437713017999563752470931574885376), (23, 1, 80040855010844070727922280718487445803715838003574449057512645758976), (21, 1, 328481092817094191713075506621530020979789330250711681245322240), (14, 1, 151192267699865016963359687157333953187840), (0, 0, 0), (0, 0, 0), (14, 1, 197749805130405600321831764129925687281664), (21, 1, 69208447779442593888530911787122485117819113630883860418961408), (23, 1, 77847591670172543135573436924435447826508973315176148217217853461504), (10, 2, 626458850732914046677110995924030063927747986769279250867200), (12, 1, 63893612746769934612716774827788288), (16, 1, 15754759645320002827890391498943250951493918720), (15, 1, 158168695866161503481841330051607398827788288)] = true := by decide +kernel
theorem g_17_4 : okG 17 4 [(4, 4, 567123560064610081778853626852839638185842643968), (24, 1, 406079895547206752212246375066757066720389014759451602999983642943660032), (14, 1, 16421536165019739826537629992886872316928), (20, 1, 71414406650810453811717652369605690090166072040176193935360), (25, 1, 28332050323622157393871053471198020183541504651440864073088353608267729920), (6, 2, 432552176110609158516656750431636480), (15, 1, 202333687631596324870577326093674508380669952), (17, 1, 204934892551543219562283203837297768346540583296000), (18, 1, 19895795785700629119163157094127877902409794473433088), (18, 1, 22845149585466101260707691723179945121402411347349504), (17, 1, 63365665526509818560716879021893940709967548948480), (15, 1, 153902958600450431625395416455552990211838976), (6, 2, 636472671189119493439893997121409024), (25, 1, 18574872641298271881854836094049603773021015311123450724638437916117312512), (20, 1, 224474457485954433986658172924726950422972597911368674447360), (14, 1, 15617568666098007507732997377225467633664), (24, 1, 82844731084909578258087282847339007974937711449301246388585547625958400)] = true := by decide +kernel
theorem g_17_5 : okG 17 5 [(26, 1, 197744171580863155895623809645229630219797706303454681520386221743044376500224), (0, 0, 0), (15, 1, 202547005014265129606621041736176069950703616), (14, 1, 109447737679802069959873567972563752127488), (16, 1, 23252022859026623485175230667677620277387201536), (21, 1, 171114401903811363800410355808192260379947199924595455308178432), (12, 1, 388630432688866411336646853430386688), (23, 1, 71372857242988175710260023546609323638512554304742747002950965568512), (10, 2, 323440098188634915947543305540402088606571073668771967145984), (10, 2, 762729857119397380691798463999092765529060229566727943360512), (23, 1, 78357763901489198134218024635672731977696266112840103035986004448256), (12, 1, 305266990467658318018125571622674432), (21, 1, 79448217821694771403905258769014796622186983540841515006855168), (16, 1, 14633530261671803150401482035399828293346665472), (14, 1, 102648939468674588632320723212397039394816), (15, 1, 66996854590677066412251058899896123455998976), (0, 0, 0)] = true := by decide +kernel
theorem g_17_6 : okG 17 6 [(10, 1, 213294875766671988450044058624), (22, 1, 74075794000724937562704056664893893017948320978980474407461361664), (24, 1, 21414947337334638360644623729545326366755729285376221005582742264486912), (8, 2, 551645567839961021387031338549030674465255857152), (15, 1, 149725606834158354247091254633326837552488448), (21, 1, 123956046510718600515223586725952056835129284100558453764855808), (0, 0, 0), (20, 1, 275363890283864609085239730649951493272953123926619352895488), (13, 1, 17947304709334663723744430211210418176), (13, 1, 19987027380466315457685609107586813952), (20, 1, 376778210767126159161294888164643913112811193905988799532032), (0, 0, 0), (21, 1, 121297205072000328579909317495115122884815753592666680706801664), (15, 1, 198417379170040663897908280483171549683258368), (8, 2, 338306893498746888603056243681055984675296809984), (24, 1, 19224734545689211115434006396935455449853594558605756302573396195024896), (22, 1, 125643484308748323289527948913606716641801194451906996778904394752)] = true := by decide +kernel
theorem g_17_7 : okG 17 7 [(10, 1, 298981047744197511179298637824), (24, 1, 29785971474429680315108723599012772429100264786380970391131265421019136), (15, 1, 153803722255864072197852386421264189447312384), (0, 0, 0), (13, 1, 21370664170265804743538142457628724224), (20, 1, 66559933289371612821820941699811872248190545904082174911488), (21, 1, 222175136817143938298917027717452664954281952977381810303542272), (8, 2, 751418169541905795465330503200342493501696548864), (22, 1, 121788906989566305656861039867214837346753751916589097328144622592), (22, 1, 233941664400590505700010595853615202003428921258361088047534183424), (8, 2, 462533493948334719118050019234813019964499331072), (21, 1, 175718660645211509836553988948964707425676919617823130162141184), (20, 1, 270226820065554557316717949799250673124370476703764053138432), (13, 1, 13923405244447410331918460076988310528), (0, 0, 0), (15, 1, 291713199262724715356209631277089492413122560), (24, 1, 24667322929482405450263109358609678076318106473268311280414917029532672)] = true := by decide +kernel
theorem g_17_8 : okG 17 8 [(10, 2, 372323403333890744597244338091649047796398117088658955898880), (19, 1, 26841367785985864228909203786844833498424679647777130496), (16, 1, 113176908018605830553514270493910165674173468672), (11, 1, 217374077295470947544302738382848), (21, 1, 25929391249295287790367446986484266520662396213643741356887040), (12, 1, 470072071339295460246679656379819008), (18, 1, 64461683678359730488748312622536353534343120384204800), (22, 1, 76024749248795832003427264994821288783290683613808346684265108480), (12, 2, 395789089772473150281323158913960845936007864643030047093641168610662400), (12, 2, 119407991699250045874626264392208725709723537112196489785530764836737024), (22, 1, 396798419595949473686407197551259473378344102095907347380227508224), (18, 1, 353760971842591445362460444269230335010978069490146304), (12, 1, 62837528553485855560068072207322112), (21, 1, 16733798925138191525772250018545027309161611613307452954518528), (11, 1, 101586951986123268773724404386816), (16, 1, 153318248009597812867605348401547708858513858560), (19, 1, 21512392784018673866238498143497106237334737694875456512)] = true := by decide +kernel
theorem g_17_9 : okG 17 9 [(10, 2, 571527851718390563269718900569301337521683591654739810521088), (21, 1, 28130983868838960711878145098594575499411337590835243075504128), (12, 2, 635724835095156256840180498017392297827165784228537452647248557013736448), (12, 1, 188274324564440129307015502015629312), (19, 1, 24730129378578653360529305340853515774147659771958791168), (11, 1, 55072362415780128234369477287936), (22, 1, 123999531623325508623600609869263148363283458292175659762934947840), (18, 1, 549903522877885809956596475720940765257570209528909824), (16, 1, 247590549982070970849557678090773924344232056832), (16, 1, 63519850652289891699562899576325089157514828800), (18, 1, 114466685430522940473104342449289296296814988991994880), (22, 1, 79351269925275782765042827619622265867115582497836232249598577664), (11, 1, 101985841993663981319961373117440), (19, 1, 15964155404330251363009406311957898061447907877146600448), (12, 1, 434209992144111186395060130292241408), (12, 2, 469713115007266487159530964415408459708120840921102941757228185638936576), (21, 1, 22554327001460832100076869639119947047959750201120230021796864)] = true := by decide +kernel
theorem g_17_10 : okG 17 10 [(10, 1, 257661205649112158698806119424), (13, 1, 22939984954863720865457471919739635712), (22, 1, 69847284334436194063033796751677063332277769869423911991451362304), (20, 1, 174542581987610455539400653719836876654070491470465214812160), (24, 1, 27729056122409299264966945287174076644749333686157301226547331283815424), (0, 0, 0), (8, 2, 598424318253911726608326794266072364362680637440), (21, 1, 78867765834137400094439008748979618428360245587055543343679488), (15, 1, 106554711307887867710362995555992891148016640), (15, 1, 149680691038692444070734828507572091369922560), (21, 1, 77944798933491687337682522021406019142389112775090542223592448), (8, 2, 285825057106547033529702482540295066581790237696), (0, 0, 0), (24, 1, 18083562226726480970660781103797814613774488155425819532231043913360384), (20, 1, 222906764165582310117245305450139564249061918727821032821760), (22, 1, 77666984797441251448307530635317385934635296638913784076433395712), (13, 1, 18998918771027981797861386058275492864)] = true := by decide +kernel
theorem g_17_11 : okG 17 11 [(10, 1, 137500132490967642626142081024), (15, 1, 58858355687579182126347327187160535944700928), (13, 1, 16502923449555533103414553200683916288), (21, 1, 69911340415213153214940020071117099930999837683987085974872064), (22, 1, 391704463615110724074653063877530613419014735904905963687382324224), (8, 2, 707074672856104877530789426039913189799555565568), (20, 1, 119709695481654770439057888792706902578739124116361703398400), (0, 0, 0), (24, 1, 23310787487323677916674344504757388945052094390166618613971357992491008), (24, 1, 25940897533591858783221633747973744257495997242601040194429736666009600), (0, 0, 0), (20, 1, 524730226895037241239386368471154896013599318390762053637120), (8, 2, 160054515166909918974433440412718920171690989568), (22, 1, 74157482864511860422136542959190401554899483122026910335636641792), (21, 1, 76104239459975551875783217233189114833104323581512903023431680), (13, 1, 14808641590715731507574485284096581632), (15, 1, 244615401313385373492184326325575831913664512)] = true := by decide +kernel
theorem g_17_12 : okG 17 12 [(26, 1, 310242783309676839197107127815976830677880653074930734196250920817850310631424), (16, 1, 24372511065144373493573408968403631896957814784), (10, 2, 356819228206200007475341124923947530330162628266671737936896), (21, 1, 74631913810981320716061260343939626472933652164879535043548160), (0, 0, 0), (14, 1, 283300071069759052211205856914654017817600), (23, 1, 74518859440226469558127421671213408487680810986719340220348852378624), (12, 1, 473934290956743003235383798809335808), (15, 1, 67402337879387368767195263574482837917699072), (15, 1, 286301339065932233636909288993725938632169472), (12, 1, 100533978587246834191338905935091712), (23, 1, 133763906604388430395087966636581259906537246583686594994024439943168), (14, 1, 366194718349517728783451925954061235656704), (0, 0, 0), (21, 1, 179146050571984628236183082708812735667858302155005896636338176), (10, 2, 463141862288431267252170854952886793589185646427077541371904), (16, 1, 20653472801848873650930154332182359706832999424)] = true := by decide +kernel
theorem g_17_13 : okG 17 13 [(4, 4, 370298703408861931550838860382251370412755755008), (25, 1, 30276846045707128694909654390974981907784324392074758959270195345712220160), (18, 1, 18070701511912252466036347480017821685066310687398912), (6, 2, 471583930442209916790321923067418624), (24, 1, 138062681716140758454073264536962277584601922763568346429333981025602560), (20, 1, 69695607880740758371146916331481796809231083864706161613824), (17, 1, 164116943702073337808419864314984715001872797240320), (15, 1, 67517943605514179182834071576365074339630080), (14, 1, 18099202572433748367712792054279839946752), (14, 1, 20770810127651592592860853821095090851840), (15, 1, 152383093767697533536301429698344148921325568), (17, 1, 66061954859321633338944261502494221715575227324416), (20, 1, 74104461167724411910813656773463535304782721744867512324096), (24, 1, 630350785364455859739687321331633159985126936298331265152937503128655872), (6, 2, 335369010639720374776465411338869760), (18, 1, 17180055091623799467392421032139033906214446026465280), (25, 1, 25466047806130195200879411653056463161328017145935487073157298582370391040)] = true := by decide +kernel
theorem g_17_14 : okG 17 14 [(26, 1, 204571435393175870957144006021523088336334091916333293928229495928701239527424), (10, 2, 72593278297502412570065911070149201232903420386600298743808), (0, 0, 0), (23, 1, 83358453709033495137831600124535992590314737214641491254282636265472), (15, 1, 61989923846104086227324170770391202327993344), (12, 1, 220922902241853978840226166961513472), (14, 1, 65976904300766700281264855451622845746176), (21, 1, 127515210269862433272756053985802426230347556475920859581714432), (16, 1, 18753938977476403501970788540033171454511028224), (16, 1, 21997250383976325116859394896981119007418486784), (21, 1, 73075572852209529892349143986573736063910781871602821604874240), (14, 1, 64616654693045073501001084591573868515328), (12, 1, 179602136310789099015664556426011648), (15, 1, 104774687721093956853685658063588761485254656), (23, 1, 132183553250564939246666485274718867089433574220488022120619414983680), (0, 0, 0), (10, 2, 715945573077259621187136391145110944123823621061785608524800)] = true := by decide +kernel
theorem g_17_15 : okG 17 15 [(10, 2, 607568752930178186514326521217695705955128889383388742456320), (16, 1, 298707833821704107151057247271087940254827743232), (21, 1, 19757540965127477695090420721933499910039569300402201072507904), (18, 1, 691768376806114775407879947851927940099332162602865664), (12, 2, 247395058326164356351040711675003636076829409421132584640436201559428096), (22, 1, 79707865257712574217153483782686777698639579895473922870374075392), (12, 1, 223598890657775134025124775843765248), (11, 1, 297280670730138546256105726780416), (19, 1, 20645767253187707029159218974828888237373915682383599616), (19, 1, 23097022875835575635397254065481325622171038338840006656), (11, 1, 59863388218481132165413776429056), (12, 1, 97737293704040054506643924078108672), (22, 1, 396677935522965485034296072652753099831357077869200147508508198912), (12, 2, 780295440968792624191752724489787707434940344268949090661181891450774528), (18, 1, 63621243113672515544111018278364127631086249371018240), (21, 1, 18081705708669275886356090505306323735385830884407365161984000), (16, 1, 205584099194759506133587071751671578005399014400)] = true := by decide +kernel
theorem g_17_16 : okG 17 16 [(4, 4, 555649867496430353621416868762037301249831997440), (14, 1, 23697694157876713720811385438685134587904), (25, 1, 22047797530919768315205730906864547724888902967097951711585269146555784192), (15, 1, 288928403931350685272009523604281500360708096), (18, 1, 24716966328751911940978816079985907298397198528547840), (17, 1, 352731786245612864478522479837256250537977284102144), (6, 2, 588204259820294461773911380191192064), (20, 1, 116865244624748620496623189049155535508877225712579744179200), (24, 1, 414399718176668568099529219485607381586440428187721430556670391874718720), (24, 1, 81121644085774327739199881444564788416061226252978729183579954791616512), (20, 1, 426962904829832126315332994004801631204063484865244329937920), (6, 2, 556164312052128818139203582446110720), (17, 1, 118624556429966567875933947579254676461021694068736), (18, 1, 15027903530614378488213888675832234800554194827748352), (15, 1, 238836158508252940139379420437243285429460992), (25, 1, 19551699333399492108605787623503109335156360272626986621631403128514420736), (14, 1, 19243742599022866039196550164640608293888)] = true := by decide +kernel
def LT17 : Nat := 33355036698447799036907072839665046201698377018087567071254516517044583313037141741384986996451222704004079793160681599040913179482395865411516684471768469880569414996839546539528406531917013034995389687410335050988352893564489952341331143291171319504201542142337639755072244247995152553204524667917053404336283864550306499659389160814010491725696460759107285152349260750125701206581010474438660189288381036897531849517934584320711809792179278375062585654784364284603750611690493466318307954250379720444081726853304928972363543891254205197283824850040012319584720464934944312256662936642978547968631643478952233861179640499006772856929476712975016169189677136954615572160233903037280066814539710314659129043993964641011327765380358821591778997167110132005260950200490343366560793365409478047037275772650608642449179103442251829843512686234493172777997106340811926144000
def ST17 : Nat := 3712946692731494060407016777302421871824789083389432987374595363751402954272670276739781318811280341143443967859015888566785494317410860384938067758681130641601396760430262500579949985889186815189844671041537984072114665866676725928610221971250732455517589688975254125335011751815888990210904280007793216101071722029739645315207527372383966393927087555241923863430219274478646071522512954555259663794526763144530252219001744300357750298451509046740540480993416332963030999291107604968740141164536533097419871830161982789392493840219361695173879192431065505458276677739547006773822489877752290885885428351569833225392403702630218009142724267669540730020493214223099826965384352068980629499742562238477429829229971742493583028057713507415313706338123762707351873672752215100708551091623706198495737921040173361183349688995056022901901014516874254531977525730070023372800
end K85

set_option Elab.async false
set_option linter.all false
set_option autoImplicit false
set_option maxRecDepth 100000
set_option maxHeartbeats 1000000
namespace K85
open PySem PySem.Spec PyProof.Rows L2 DL
def PR : List Nat := [5, 7, 11, 13, 17]
theorem pr_le {p : Nat} (h : p ∈ PR) : 5 ≤ p ∧ p ≤ 17 := by
  simp only [PR, List.mem_cons, List.not_mem_nil, or_false] at h
  omega
abbrev cP : Pt → Option (Int × Int) := Option.map fun q => ((q.1 : Int), (q.2 : Int))
/-! undone numbers -/
def unChk (p : Nat) : Bool := (List.range p).all fun x => match t_undone_number (p : Int) (x : Int) with
  | some v => decide (v = (inv (invC p) x : Int))
  | none => false
theorem un_chk : PR.all unChk = true := by decide +kernel
theorem emod_toNat (x : Int) {p : Nat} (h : 0 < p) : (((x % (p : Int)).toNat : Nat) : Int) = x % (p : Int) := Int.toNat_of_nonneg (Int.emod_nonneg x (by omega))
theorem emod_lt' (x : Int) {p : Nat} (h : 0 < p) : (x % (p : Int)).toNat < p := by
  have a := Int.emod_nonneg x (b := (p : Int)) (by omega)
  have b := Int.emod_lt_of_pos x (b := (p : Int)) (by omega)
  omega
theorem un_ok {p : Nat} (hp : p ∈ PR) (x : Int) : t_undone_number (p : Int) x = some (inv (invC p) (x % (p : Int)).toNat : Int) := by
  have h0 : 0 < p := by have := pr_le hp; omega
  have h0' : (0 : Int) < (p : Int) := by omega
  have h1 : t_undone_number (p : Int) x = t_undone_number (p : Int) (((x % (p : Int)).toNat : Nat) : Int) := by
    rw [emod_toNat x h0]
    unfold t_undone_number
    rw [modO_p _ h0', modO_p _ h0', Int.emod_emod_of_dvd _ (Int.dvd_refl _)]
  rw [h1]
  have h2 := List.all_eq_true.mp un_chk p hp
  have h3 := List.all_eq_true.mp h2 _ (List.mem_range.mpr (emod_lt' x h0))
  revert h3
  cases t_undone_number (p : Int) (((x % (p : Int)).toNat : Nat) : Int) with
  | none => intro h; cases h
  | some v => intro h; rw [of_decide_eq_true h]
def ovChk (p : Nat) : Bool := (List.range p).all fun a => (List.range p).all fun b => b == 0 || match t__law_over (p : Int) (a : Int) (b : Int) with
  | some v => decide (v = ((a * inv (invC p) b % p : Nat) : Int))
  | none => false
theorem ov_chk : PR.all ovChk = true := by decide +kernel
theorem ov_ok {p : Nat} (hp : p ∈ PR) (a b : Int) (ha : 0 ≤ a ∧ a < p) (hb : -1000000 ≤ b ∧ b ≤ 1000000) (hz : b % (p : Int) ≠ 0) : t__law_over (p : Int) a b = some ((a * (inv (invC p) (b % (p : Int)).toNat : Int)) % (p : Int)) := by
  have h0 : 0 < p := by have := pr_le hp; omega
  have hl := (pr_le hp).2
  have h0' : (0 : Int) < (p : Int) := by omega
  have bn := Int.emod_nonneg b (b := (p : Int)) (by omega)
  have bl := Int.emod_lt_of_pos b h0'
  have h1 : t__law_over (p : Int) a b = t__law_over (p : Int) a (((b % (p : Int)).toNat : Nat) : Int) := by
    rw [emod_toNat b h0]
    unfold t__law_over
    congr 1
    funext r
    congr 2
    congr 1
    funext x
    rw [mulO_r x (fits_of (by omega) (by omega)), mulO_r x (fits_of (by omega) (by omega))]
    simp only [Option.bind_some]
    rw [modO_p _ h0', modO_p _ h0']
    simp only [Option.bind_some]
    have e : (x * b - a) % (p : Int) = (x * (b % (p : Int)) - a) % (p : Int) := by
      rw [Int.sub_emod, Int.mul_emod, Int.sub_emod (x * (b % (p : Int))), Int.mul_emod x (b % (p : Int)), Int.emod_emod_of_dvd _ (Int.dvd_refl _)]
    rw [e]
  rw [h1]
  obtain ⟨n, rfl⟩ := Int.eq_ofNat_of_zero_le ha.1
  have h2 := List.all_eq_true.mp ov_chk p hp
  have h3 := List.all_eq_true.mp (List.all_eq_true.mp h2 n (List.mem_range.mpr (by omega))) _ (List.mem_range.mpr (emod_lt' b h0))
  have hz' : ((b % (p : Int)).toNat == 0) = false := by
    rw [beq_eq_false_iff_ne]
    omega
  rw [hz', Bool.false_or] at h3
  revert h3
  cases t__law_over (p : Int) (n : Int) (((b % (p : Int)).toNat : Nat) : Int) with
  | none => intro h; cases h
  | some v => intro h; rw [of_decide_eq_true h, Int.natCast_emod, Int.natCast_mul]
/-! sums of points -/
def sqChk (p : Nat) : Bool := (List.range p).all fun y => (List.range p).all fun w => !(y * y % p == w * w % p) || ((y + w) % p == 0 || y == w)
theorem sq_chk : PR.all sqChk = true := by decide +kernel
theorem sq_ok {p y w : Nat} (hp : p ∈ PR) (hy : y < p) (hw : w < p) (h : y * y % p = w * w % p) (h2 : (y + w) % p ≠ 0) : y = w := by
  have h3 := List.all_eq_true.mp (List.all_eq_true.mp (List.all_eq_true.mp sq_chk p hp) y (List.mem_range.mpr hy)) w (List.mem_range.mpr hw)
  simp [h, h2] at h3
  exact h3
theorem nat_mod_shift {p : Nat} {a : Int} {b : Nat} (h : (p : Int) ∣ a - b) : a % (p : Int) = ((b % p : Nat) : Int) := by
  rw [Int.natCast_emod]
  exact Int.emod_eq_emod_iff_emod_sub_eq_zero.mpr (Int.emod_eq_zero_of_dvd h)
theorem eqOP (a b : Option (Int × Int)) : eqE (eO (e2 eI eI)) a b = true ↔ a = b := eqE_iff
section
variable {p A B x y z w : Nat}
theorem cond_ok (h0 : 0 < p) : ((if (decide ((x : Int) = (z : Int))) = true then ((modO ((y : Int) + (w : Int)) (p : Int)).bind fun v4 => some (decide (v4 = 0))) else some false)) = some (x == z && (y + w) % p == 0) := by
  have h0' : (0 : Int) < (p : Int) := by omega
  by_cases h : x = z
  · subst h
    rw [if_pos (by simp), modO_p _ h0']
    simp only [Option.bind_some, beq_self_eq_true, Bool.true_and]
    congr 1
    rw [← Int.natCast_add, ← Int.natCast_emod]
    exact Bool.eq_iff_iff.mpr (by rw [decide_eq_true_eq, beq_iff_eq]; exact Int.natCast_eq_zero)
  · rw [if_neg (by simp; omega)]
    simp [h]
theorem third_ok (h0 : 0 < p) (s : Nat) (hx : x < p) (hz : z < p) : ((s : Int) * (s : Int) - (x : Int) - (z : Int)) % (p : Int) = ((thN p s x z : Nat) : Int) := by
  unfold thN
  refine nat_mod_shift ⟨-2, ?_⟩
  have h1 : ((s * s : Nat) : Int) = (s : Int) * s := Int.natCast_mul ..
  have : ((s * s + 2 * p - x - z : Nat) : Int) = ((s * s : Nat) : Int) + 2 * p - x - z := by
    generalize s * s = m
    omega
  rw [this, ← h1]
  generalize ((s * s : Nat) : Int) = m
  omega
theorem last2_ok (s t : Nat) (hx : x < p) (hy : y < p) (ht : t < p) : ((s : Int) * ((x : Int) - (t : Int)) - (y : Int)) % (p : Int) = (((s * (x + p - t) + p - y) % p : Nat) : Int) := by
  refine nat_mod_shift ⟨-((s : Int) + 1), ?_⟩
  have h1 : ((s * (x + p - t) : Nat) : Int) = (s : Int) * ((x : Int) - t) + s * p := by
    rw [Int.natCast_mul, ← Int.mul_add]
    congr 1
    omega
  have : ((s * (x + p - t) + p - y : Nat) : Int) = ((s * (x + p - t) : Nat) : Int) + p - y := by
    generalize s * (x + p - t) = m
    omega
  rw [this, h1, Int.mul_neg, Int.mul_add, Int.mul_comm (p : Int) (s : Int)]
  generalize (s : Int) * ((x : Int) - t) = a
  generalize (s : Int) * (p : Int) = b
  omega
theorem last_ok (h0 : 0 < p) (s : Nat) (hx : x < p) (hy : y < p) (hz : z < p) (hs : s < p) (hp : p ≤ 1000) : ((mulO (s : Int) (s : Int)).bind fun v24 =>
(modO ((v24 - (x : Int)) - (z : Int)) (p : Int)).bind fun v25 =>
(mulO (s : Int) ((x : Int) - v25)).bind fun v26 =>
(modO (v26 - (y : Int)) (p : Int)).bind fun v27 =>
some (some (v25, v27))) = some (some (((thN p s x z : Nat) : Int), (((s * (x + p - thN p s x z) + p - y) % p : Nat) : Int))) := by
  have h0' : (0 : Int) < (p : Int) := by omega
  have hf : fits (s : Int) := fits_of (by omega) (by omega)
  have ht : thN p s x z < p := Nat.mod_lt _ h0
  refine (be (mulO_l _ hf)).trans ((be ((modO_p _ h0').trans (congrArg some (third_ok h0 s hx hz)))).trans ((be (mulO_l _ hf)).trans ((be ((modO_p _ h0').trans (congrArg some (last2_ok s _ hx hy ht)))).trans rfl)))
theorem last_ok' (h0 : 0 < p) (s : Nat) (hx : x < p) (hy : y < p) (hz : z < p) (hs : s < p) (hp : p ≤ 1000) : ((mulO (s : Int) (s : Int)).bind fun v24 =>
(cP (some (x, y))).bind fun v37 => (cP (some (z, w))).bind fun v38 => (modO ((v24 - v37.1) - v38.1) (p : Int)).bind fun v25 =>
(cP (some (x, y))).bind fun v40 => (mulO (s : Int) (v40.1 - v25)).bind fun v26 =>
(cP (some (x, y))).bind fun v42 => (modO (v26 - v42.2) (p : Int)).bind fun v27 =>
some (some (v25, v27))) = some (some (((thN p s x z : Nat) : Int), (((s * (x + p - thN p s x z) + p - y) % p : Nat) : Int))) := by
  have h0' : (0 : Int) < (p : Int) := by omega
  have hf : fits (s : Int) := fits_of (by omega) (by omega)
  have ht : thN p s x z < p := Nat.mod_lt _ h0
  have a : cP (some (x, y)) = some ((x : Int), (y : Int)) := rfl
  have b : cP (some (z, w)) = some ((z : Int), (w : Int)) := rfl
  refine (be (mulO_l _ hf)).trans ((be a).trans ((be b).trans ((be ((modO_p _ h0').trans (congrArg some (third_ok h0 s hx hz)))).trans ((be a).trans ((be (mulO_l _ hf)).trans ((be a).trans ((be ((modO_p _ h0').trans (congrArg some (last2_ok s _ hx hy ht)))).trans rfl)))))))
end
theorem on_lt {p A B : Nat} {u : Nat × Nat} (h : onC p A B (some u) = true) : u.1 < p ∧ u.2 < p ∧ u.2 * u.2 % p = (u.1 * u.1 * u.1 + A * u.1 + B) % p := by
  simp only [onC, Bool.and_eq_true, Nat.ble_eq, beq_iff_eq] at h
  exact ⟨by omega, by omega, h.2.2⟩
theorem inv_lt (I x : Nat) : inv I x < 32 := Nat.mod_lt _ (by decide)
theorem sl_lt {p I A : Nat} (h0 : 0 < p) (u v : Nat × Nat) : slN p I A u v < p := Nat.mod_lt _ h0
theorem eqO_iff (x y z w : Nat) : (eqE (eO (e2 eI eI)) (some ((x : Int), (y : Int))) (some ((z : Int), (w : Int)))) = true ↔ x = z ∧ y = w := by
  rw [eqE_iff]
  simp
  omega
theorem mod_mul (a i p : Int) : (a % p * i) % p = (a * i) % p := by rw [Int.mul_emod, Int.emod_emod_of_dvd _ (Int.dvd_refl _), ← Int.mul_emod]
theorem eqO_iff' (x y z w : Nat) : (eqE (eO (e2 eI eI)) (cP (some (x, y))) (cP (some (z, w)))) = true ↔ x = z ∧ y = w := eqO_iff x y z w
section
variable {p A B x y z w : Nat}
theorem slT (h0 : 0 < p) (hx : x < 1000) (hA : A < 1000) : ((mulO (3 * (x : Int)) (x : Int)).bind fun v16 => (some (inv (invC p) ((2 * y) % p) : Int)).bind fun v17 => (mulO (v16 + (A : Int)) v17).bind fun v18 => (modO v18 (p : Int)).bind fun v19 => some v19) = some (((3 * x * x + A) * inv (invC p) ((2 * y) % p) % p : Nat) : Int) := by
  have h0' : (0 : Int) < (p : Int) := by omega
  have hi := inv_lt (invC p) ((2 * y) % p)
  refine (be (mulO_r _ (fits_of (by omega) (by omega)))).trans ((be rfl).trans ((be (mulO_r _ (fits_of (by omega) (by omega)))).trans ((be (modO_p _ h0')).trans ?_)))
  rw [Int.natCast_emod, Int.natCast_mul, Int.natCast_add, Int.natCast_mul, Int.natCast_mul]
  rfl
theorem slF2 (hy : y < p) (hw : w < p) (n : Nat) : (((w : Int) - (y : Int)) * (n : Int)) % (p : Int) = (((w + p - y) * n % p : Nat) : Int) := by
  refine nat_mod_shift ⟨-(n : Int), ?_⟩
  have : (((w + p - y) * n : Nat) : Int) = ((w : Int) - y) * n + p * n := by
    rw [Int.natCast_mul, ← Int.add_mul]
    congr 1
    omega
  rw [this, Int.mul_neg]
  omega
theorem slF (h0 : 0 < p) (hy : y < p) (hw : w < p) (hp : p ≤ 1000) (n : Nat) (hn : n < 32) : ((some (n : Int)).bind fun v20 => (mulO ((w : Int) - (y : Int)) v20).bind fun v21 => (modO v21 (p : Int)).bind fun v22 => some v22) = some (((w + p - y) * n % p : Nat) : Int) := by
  have h0' : (0 : Int) < (p : Int) := by omega
  exact (be rfl).trans ((be (mulO_r _ (fits_of (by omega) (by omega)))).trans ((be (modO_p _ h0')).trans (congrArg some (slF2 hy hw n))))
theorem ix2 (h0 : 0 < p) : ((2 * (y : Int)) % (p : Int)).toNat = (2 * y) % p := by
  have : (2 * (y : Int)) % (p : Int) = (((2 * y) % p : Nat) : Int) := by
    rw [Int.natCast_emod, Int.natCast_mul]
    rfl
  rw [this, Int.toNat_natCast]
theorem ixd (h0 : 0 < p) (hx : x < p) : (((z : Int) - (x : Int)) % (p : Int)).toNat = (z + p - x) % p := by
  have : ((z : Int) - (x : Int)) % (p : Int) = (((z + p - x) % p : Nat) : Int) := nat_mod_shift ⟨-1, by omega⟩
  rw [this, Int.toNat_natCast]
end
/-- two points that are not each other's mirror: either the same or apart in the first number -/
theorem apart {p A B x y z w : Nat} (hp : p ∈ PR) (hu : onC p A B (some (x, y)) = true) (hv : onC p A B (some (z, w)) = true) (hcc : (x == z && (y + w) % p == 0) = false) : (x = z ∧ y = w ∧ (2 * y) % p ≠ 0) ∨ x ≠ z := by
  obtain ⟨hx, hy, hxy⟩ := on_lt hu
  obtain ⟨hz, hw, hzw⟩ := on_lt hv
  simp only at hx hy hxy hz hw hzw
  by_cases h : x = z
  · left
    subst h
    have h2 : (y + w) % p ≠ 0 := by simpa using hcc
    have h3 := sq_ok hp hy hw (hxy.trans hzw.symm) h2
    subst h3
    exact ⟨rfl, rfl, by rw [Nat.two_mul]; exact h2⟩
  · exact .inr h
theorem add_ok {p A B : Nat} (hp : p ∈ PR) (hA : A < p) {u v : Pt} (hu : onC p A B u = true) (hv : onC p A B v = true) :
    t_added_points (p : Int) ((A : Int), (B : Int)) (cP u) (cP v) = some (cP (addN p (invC p) A u v)) ∧ t__law_added (p : Int) ((A : Int), (B : Int)) (cP u) (cP v) = some (cP (addN p (invC p) A u v)) := by
  have h0 : 0 < p := by have := pr_le hp; omega
  have hl := (pr_le hp).2
  have h0' : (0 : Int) < (p : Int) := by omega
  cases u with
  | none => exact ⟨rfl, rfl⟩
  | some u =>
    cases v with
    | none => exact ⟨rfl, rfl⟩
    | some v =>
      obtain ⟨x, y⟩ := u
      obtain ⟨z, w⟩ := v
      obtain ⟨hx, hy, hxy⟩ := on_lt hu
      obtain ⟨hz, hw, hzw⟩ := on_lt hv
      simp only at hx hy hxy hz hw hzw
      have hc := cond_ok (p := p) (x := x) (y := y) (z := z) (w := w) h0
      rw [addN_ss]
      constructor
      · unfold t_added_points
        rw [if_neg (by simp)]
        refine (be (v := ((x : Int), (y : Int))) rfl).trans ((be (v := ((z : Int), (w : Int))) rfl).trans ((be hc).trans ?_))
        cases hcc : (x == z && (y + w) % p == 0) with
        | true => rfl
        | false =>
          rw [if_neg (by decide)]
          have key : (if (eqE (eO (e2 eI eI)) (some ((x : Int), (y : Int))) (some ((z : Int), (w : Int)))) = true then ((mulO (3 * (x : Int)) (x : Int)).bind fun v16 =>
              (t_undone_number (p : Int) (2 * (y : Int))).bind fun v17 => (mulO (v16 + (A : Int)) v17).bind fun v18 => (modO v18 (p : Int)).bind fun v19 => some v19) else
              ((t_undone_number (p : Int) ((z : Int) - (x : Int))).bind fun v20 => (mulO ((w : Int) - (y : Int)) v20).bind fun v21 => (modO v21 (p : Int)).bind fun v22 => some v22)) = some ((slN p (invC p) A (x, y) (z, w) : Nat) : Int) := by
            unfold slN
            simp only
            rcases apart hp hu hv hcc with ⟨rfl, rfl, _⟩ | hne
            · rw [if_pos ((eqO_iff x y x y).mpr ⟨rfl, rfl⟩), beq_self_eq_true, cond_true, un_ok hp, ix2 h0]
              exact slT h0 (by omega) (by omega)
            · rw [if_neg (fun h => hne ((eqO_iff x y z w).mp h).1), beq_eq_false_iff_ne.mpr hne, cond_false, un_ok hp, ixd h0 hx]
              exact slF h0 hy hw (by omega) _ (inv_lt _ _)
          exact (be key).trans (last_ok h0 _ hx hy hz (sl_lt h0 _ _) (by omega))
      · unfold t__law_added
        rw [if_neg (by simp)]
        have hc' : ((if (decide (((x : Int), (y : Int)).1 = ((z : Int), (w : Int)).1)) = true then ((cP (some (x, y))).bind fun v4 => (cP (some (z, w))).bind fun v5 => (modO (v4.2 + v5.2) (p : Int)).bind fun v6 => some (decide (v6 = 0))) else some false)) = some (x == z && (y + w) % p == 0) := hc
        refine (be (v := ((x : Int), (y : Int))) rfl).trans ((be (v := ((z : Int), (w : Int))) rfl).trans ((be hc').trans ?_))
        cases hcc : (x == z && (y + w) % p == 0) with
        | true => rfl
        | false =>
          rw [if_neg (by decide)]
          have key : (if (eqE (eO (e2 eI eI)) (cP (some (x, y))) (cP (some (z, w)))) = true then ((cP (some (x, y))).bind fun v23 => (cP (some (x, y))).bind fun v24 =>
              (mulO (3 * v23.1) v24.1).bind fun v25 => (modO (v25 + (A : Int)) (p : Int)).bind fun v26 => (cP (some (x, y))).bind fun v27 => (t__law_over (p : Int) v26 (2 * v27.2)).bind fun v28 => some v28) else
              ((cP (some (z, w))).bind fun v29 => (cP (some (x, y))).bind fun v30 => (modO (v29.2 - v30.2) (p : Int)).bind fun v31 => (cP (some (z, w))).bind fun v32 => (cP (some (x, y))).bind fun v33 => (t__law_over (p : Int) v31 (v32.1 - v33.1)).bind fun v34 => some v34)) = some ((slN p (invC p) A (x, y) (z, w) : Nat) : Int) := by
            unfold slN
            simp only
            rcases apart hp hu hv hcc with ⟨rfl, rfl, h2⟩ | hne
            · rw [if_pos ((eqO_iff' x y x y).mpr ⟨rfl, rfl⟩), beq_self_eq_true, cond_true]
              refine (be (v := ((x : Int), (y : Int))) rfl).trans ((be (v := ((x : Int), (y : Int))) rfl).trans ((be (mulO_r _ (fits_of (by omega) (by omega)))).trans ((be (modO_p _ h0')).trans ((be (v := ((x : Int), (y : Int))) rfl).trans ?_))))
              have hz2 : (2 * (y : Int)) % (p : Int) ≠ 0 := by
                rw [← emod_toNat _ h0, ix2 h0]
                omega
              refine (be (ov_ok hp _ _ ⟨Int.emod_nonneg _ (by omega), Int.emod_lt_of_pos _ h0'⟩ (by omega) hz2)).trans ?_
              rw [ix2 h0, Int.mul_emod, Int.emod_emod_of_dvd _ (Int.dvd_refl _), ← Int.mul_emod, Int.natCast_emod, Int.natCast_mul, Int.natCast_add, Int.natCast_mul, Int.natCast_mul]
              rfl
            · rw [if_neg (fun h => hne ((eqO_iff' x y z w).mp h).1), beq_eq_false_iff_ne.mpr hne, cond_false]
              refine (be (v := ((z : Int), (w : Int))) rfl).trans ((be (v := ((x : Int), (y : Int))) rfl).trans ((be (modO_p _ h0')).trans ((be (v := ((z : Int), (w : Int))) rfl).trans ((be (v := ((x : Int), (y : Int))) rfl).trans ?_))))
              have hz2 : ((z : Int) - (x : Int)) % (p : Int) ≠ 0 := fun h => by
                obtain ⟨k, hk⟩ := Int.dvd_of_emod_eq_zero h
                have : k = 0 := by
                  rcases Int.lt_trichotomy k 0 with h | h | h
                  · have := Int.mul_le_mul_of_nonneg_left (show k ≤ -1 by omega) (show (0 : Int) ≤ p by omega)
                    omega
                  · exact h
                  · have := Int.mul_le_mul_of_nonneg_left (show 1 ≤ k by omega) (show (0 : Int) ≤ p by omega)
                    omega
                subst this
                omega
              refine (be (ov_ok hp _ _ ⟨Int.emod_nonneg _ (by omega), Int.emod_lt_of_pos _ h0'⟩ (by omega) hz2)).trans ?_
              rw [ixd h0 hx]
              exact congrArg some ((mod_mul _ _ _).trans (slF2 hy hw _))
          exact (be key).trans (last_ok' h0 _ hx hy hz (sl_lt h0 _ _) (by omega))
end K85

set_option Elab.async false
set_option linter.all false
set_option autoImplicit false
set_option maxRecDepth 100000
set_option maxHeartbeats 1000000
namespace K85
open PySem PySem.Spec PyProof.Rows L2 DL
theorem least_of {P : Nat → Prop} : ∀ n : Nat, (∃ k, 1 ≤ k ∧ k ≤ n ∧ P k) → ∃ o, 1 ≤ o ∧ o ≤ n ∧ P o ∧ ∀ k, 1 ≤ k → k < o → ¬ P k
  | 0, ⟨k, h1, h2, _⟩ => by omega
  | n + 1, ⟨k, h1, h2, h3⟩ => by
    by_cases h : ∃ k, 1 ≤ k ∧ k ≤ n ∧ P k
    · obtain ⟨o, a, b, c, d⟩ := least_of n h
      exact ⟨o, a, by omega, c, d⟩
    · have hk : k = n + 1 := by
        by_cases hk : k ≤ n
        · exact absurd ⟨k, h1, hk, h3⟩ h
        · omega
      subst hk
      exact ⟨n + 1, h1, h2, h3, fun m m1 m2 hm => h ⟨m, m1, by omega, hm⟩⟩
section
variable {p A B : Nat} (hp : p ∈ PR) (hA : A < p) (Gp : Grp p A B)
abbrev cc (A B : Nat) : Int × Int := ((A : Int), (B : Int))
def ee {p A B : Nat} (Gp : Grp p A B) (i j : Int) : Option (Int × Int) := cP (Gp.E i j)
include hp hA in
theorem addE (i j k l : Int) : t_added_points (p : Int) (cc A B) (ee Gp i j) (ee Gp k l) = some (ee Gp (i + k) (j + l)) := by
  unfold ee
  rw [← Gp.add]
  exact (add_ok hp hA (Gp.on i j) (Gp.on k l)).1
include hp hA in
theorem laddE (i j k l : Int) : t__law_added (p : Int) (cc A B) (ee Gp i j) (ee Gp k l) = some (ee Gp (i + k) (j + l)) := by
  unfold ee
  rw [← Gp.add]
  exact (add_ok hp hA (Gp.on i j) (Gp.on k l)).2
theorem e_none (i j : Int) : ee Gp i j = none ↔ (Gp.n1 : Int) ∣ i ∧ (Gp.n2 : Int) ∣ j := by
  rw [← Gp.zero]
  unfold ee cP
  exact Option.map_eq_none_iff
theorem e_00 : ee Gp 0 0 = none := (e_none Gp 0 0).mpr ⟨Int.dvd_zero _, Int.dvd_zero _⟩
theorem e_same {i j k l : Int} (h1 : (Gp.n1 : Int) ∣ i - k) (h2 : (Gp.n2 : Int) ∣ j - l) : ee Gp i j = ee Gp k l := congrArg cP (Gp.same i j k l h1 h2)
/-- the order of a point -/
def IsOrd (i j : Int) (o : Nat) : Prop := 1 ≤ o ∧ o ≤ Gp.n1 ∧ ee Gp (o * i) (o * j) = none ∧ ∀ k : Nat, 1 ≤ k → k < o → ee Gp (k * i) (k * j) ≠ none
theorem ex_ord (i j : Int) : ∃ o, IsOrd Gp i j o := by
  refine least_of (P := fun k => ee Gp (k * i) (k * j) = none) Gp.n1 ⟨Gp.n1, Gp.n1p, Nat.le_refl _, (e_none Gp _ _).mpr ⟨Int.dvd_mul_right _ _, ?_⟩⟩
  exact Int.dvd_trans (Int.natCast_dvd_natCast.mpr Gp.n21) (Int.dvd_mul_right _ _)
/-- the row of multiples -/
def mulL (i j : Int) (o : Nat) : List (Option (Int × Int)) := (List.range o).map fun k : Nat => ee Gp (k * i) (k * j)
theorem mulL_len (i j : Int) (o : Nat) : (mulL Gp i j o).length = o := by simp [mulL]
theorem mulL_succ (i j : Int) (o : Nat) : mulL Gp i j (o + 1) = mulL Gp i j o ++ [ee Gp (o * i) (o * j)] := by
  unfold mulL
  rw [List.range_succ, List.map_append]
  rfl
theorem step_i (m : Nat) (i : Int) : (m : Int) * i + i = ((m + 1 : Nat) : Int) * i := by
  rw [Int.natCast_add, Int.add_mul]
  simp
include hp hA in
theorem mult_loop {i j : Int} {o : Nat} (ho : IsOrd Gp i j o) : ∀ (xs : List Int) (m : Nat), m + 1 ≤ o → o ≤ m + xs.length →
    forO (r := List (Option (Int × Int))) (fun (x5 : Int) (s2 : (List (Option (Int × Int)))) => (atI s2 (-1)).bind fun v6 => (t__law_added (p : Int) (cc A B) v6 (ee Gp i j)).bind fun v7 =>
      if (Option.isNone v7) = true then (some (.bk s2)) else ((pushO s2 v7).bind fun v9 => some (.nx v9))) xs (mulL Gp i j (m + 1)) = some (.nx (mulL Gp i j o))
  | [], m, h1, h2 => by
    simp at h2
    omega
  | x :: xs, m, h1, h2 => by
    have hl := (pr_le hp).2
    have hn := Gp.n1b
    have ho2 := ho.2.1
    have a1 : atI (mulL Gp i j (m + 1)) (-1) = some (ee Gp (m * i) (m * j)) := by
      rw [mulL_succ]
      exact atI_last _ _
    have a2 := laddE hp hA Gp (m * i) (m * j) i j
    rw [step_i, step_i] at a2
    by_cases hm : m + 1 = o
    · refine Eq.trans (for_bk (s1 := mulL Gp i j (m + 1)) ?_) (by rw [hm])
      refine (be a1).trans ((be a2).trans ?_)
      rw [hm, ho.2.2.1]
      rfl
    · have hne := ho.2.2.2 (m + 1) (by omega) (by omega)
      refine (for_go (s1 := mulL Gp i j (m + 1 + 1)) ?_).trans (mult_loop ho xs (m + 1) (by omega) (by rw [List.length_cons] at h2; omega))
      refine (be a1).trans ((be a2).trans ?_)
      rw [if_neg (by simpa using hne), mulL_succ Gp i j (m + 1)]
      exact be (pushO_eq (by rw [mulL_len]; omega))
include hp hA in
theorem mult_ok {i j : Int} {o : Nat} (ho : IsOrd Gp i j o) : t__law_multiples (p : Int) (cc A B) (ee Gp i j) = some (mulL Gp i j o) := by
  have hl := (pr_le hp).2
  unfold t__law_multiples
  rw [show ((2 : Int) * (p : Int)) + 9 = ((2 * p + 9 : Nat) : Int) by omega, rngO1_eq (by omega)]
  simp only [Option.bind_some]
  refine forB_of (s' := mulL Gp i j o) ?_
  have := mult_loop hp hA Gp ho (rangeI 0 (2 * p + 9)) 0 ho.1 (by rw [rangeI_len]; have := ho.2.1; have := Gp.n1b; omega)
  rw [show mulL Gp i j (0 + 1) = [none] by
    show [ee Gp ((0 : Nat) * i) ((0 : Nat) * j)] = [none]
    rw [show (((0 : Nat) : Int)) = 0 from rfl, Int.zero_mul, Int.zero_mul, e_00]] at this
  exact this
include hp hA in
theorem ord_loop {i j : Int} {o : Nat} (ho : IsOrd Gp i j o) : ∀ (n m : Nat), 1 ≤ m → m ≤ o → o - m < n →
    whileO (r := Int) (fun (s1 : (Int × (Option (Int × Int)))) => some (!Option.isNone s1.2)) (fun (s1 : (Int × (Option (Int × Int)))) => (t_added_points (p : Int) (cc A B) s1.2 (ee Gp i j)).bind fun v2 =>
      (some (s1.1 + 1)).bind fun x3 => some (.nx (x3, v2))) n ((m : Int), ee Gp (m * i) (m * j)) = some (.nx ((o : Int), ee Gp (o * i) (o * j)))
  | 0, m, _, _, h => by omega
  | n + 1, m, h0, h1, h2 => by
    by_cases hm : m = o
    · subst hm
      refine while_stop ?_
      show some (!Option.isNone (ee Gp (m * i) (m * j))) = _
      rw [ho.2.2.1]
      rfl
    · have hne := ho.2.2.2 m h0 (by omega)
      refine (while_go (s1 := (((m + 1 : Nat) : Int), ee Gp ((m + 1 : Nat) * i) ((m + 1 : Nat) * j))) ?_ ?_).trans (ord_loop ho n (m + 1) (by omega) (by omega) (by omega))
      · show some (!Option.isNone (ee Gp (m * i) (m * j))) = some true
        cases h : ee Gp (m * i) (m * j) with
        | none => exact absurd h hne
        | some v => rfl
      · have a2 := addE hp hA Gp (m * i) (m * j) i j
        rw [step_i, step_i] at a2
        exact (be a2).trans ((be rfl).trans rfl)
include hp hA in
theorem order_ok {i j : Int} {o : Nat} (ho : IsOrd Gp i j o) : t_order_of_point (p : Int) (cc A B) (ee Gp i j) = some (o : Int) := by
  have hl := (pr_le hp).2
  have := ord_loop hp hA Gp ho 100 1 (by omega) ho.1 (by have := ho.2.1; have := Gp.n1b; omega)
  rw [show ((1 : Nat) : Int) = 1 from rfl, Int.one_mul, Int.one_mul] at this
  unfold t_order_of_point
  exact whileB_of (by omega) this
/-! multiples of a point by halving -/
include hp hA in
theorem times_loop : ∀ (n k : Nat) (a b c d : Int), k < 2 ^ n → ∃ s, whileO (r := (Option (Int × Int))) (fun (s9 : (Int × (Option (Int × Int)) × (Option (Int × Int)))) => some (decide (0 < s9.1))) (fun (s9 : (Int × (Option (Int × Int)) × (Option (Int × Int)))) => (if (decide ((s9.1 % 2) = 1)) = true then ((t_added_points (p : Int) (cc A B) s9.2.2 s9.2.1).bind fun v12 =>
    some v12) else (some s9.2.2)).bind fun s13 =>
    (t_added_points (p : Int) (cc A B) s9.2.1 s9.2.1).bind fun v14 =>
    (some (s9.1 / 2)).bind fun x15 =>
    some (.nx (x15, v14, s13))) (n + 1) ((k : Int), ee Gp a b, ee Gp c d) = some (.nx (0, s, ee Gp (c + k * a) (d + k * b)))
  | 0, k, a, b, c, d, h => by
    have : k = 0 := by simpa using h
    subst this
    refine ⟨ee Gp a b, Eq.trans (while_stop ?_) ?_⟩
    · rfl
    · simp
  | n + 1, k, a, b, c, d, h => by
    by_cases hk : k = 0
    · subst hk
      refine ⟨ee Gp a b, Eq.trans (while_stop ?_) ?_⟩
      · rfl
      · simp
    · obtain ⟨s, e⟩ := times_loop n (k / 2) (a + a) (b + b) (if k % 2 = 1 then c + a else c) (if k % 2 = 1 then d + b else d) (by rw [Nat.pow_succ] at h; omega)
      refine ⟨s, Eq.trans (while_go (s1 := (((k / 2 : Nat) : Int), ee Gp (a + a) (b + b), ee Gp (if k % 2 = 1 then c + a else c) (if k % 2 = 1 then d + b else d))) ?_ ?_) (e.trans ?_)⟩
      · exact congrArg some (decide_eq_true (by omega))
      · have h1 := addE hp hA Gp c d a b
        have h2 := addE hp hA Gp a b a b
        by_cases h3 : k % 2 = 1
        · rw [if_pos h3, if_pos h3]
          refine (be (v := ee Gp (c + a) (d + b)) ?_).trans ((be h2).trans ((be rfl).trans rfl))
          rw [if_pos (decide_eq_true (by show (k : Int) % 2 = 1; omega))]
          exact (be h1).trans rfl
        · rw [if_neg h3, if_neg h3]
          refine (be (v := ee Gp c d) ?_).trans ((be h2).trans ((be rfl).trans rfl))
          rw [if_neg (by rw [decide_eq_true_eq]; show ¬ (k : Int) % 2 = 1; omega)]
      · have hdm := Nat.div_add_mod k 2
        have e1 : ∀ x y : Int, (if k % 2 = 1 then x + y else x) + ((k / 2 : Nat) : Int) * (y + y) = x + k * y := fun x y => by
          have : (k : Int) = 2 * ((k / 2 : Nat) : Int) + ((k % 2 : Nat) : Int) := by omega
          rw [this, Int.add_mul, Int.mul_add, Int.mul_assoc]
          rcases (show k % 2 = 0 ∨ k % 2 = 1 by omega) with h | h
          · rw [if_neg (by omega), h]
            generalize ((k / 2 : Nat) : Int) * y = z
            simp
            omega
          · rw [if_pos h, h]
            generalize ((k / 2 : Nat) : Int) * y = z
            simp
            omega
        rw [e1, e1]
end
end K85

set_option Elab.async false
set_option linter.all false
set_option autoImplicit false
set_option maxRecDepth 100000
set_option maxHeartbeats 1000000
namespace K85
open PySem PySem.Spec PyProof.Rows L2 DL
abbrev iP (q : Nat × Nat) : Int × Int := ((q.1 : Int), (q.2 : Int))
/-! told plainly -/
inductive PlE : {α : Type} → (α → Dv) → Nat → Prop
  | int (k : Nat) : PlE eI k
  | opt {α : Type} {e : α → Dv} {k : Nat} : PlE e k → PlE (eO e) k
  | tup {α : Type} {e : α → Dv} {k : Nat} : PlE e k → PlE (eT e) (k + 1)
  | two {α β : Type} {e : α → Dv} {e' : β → Dv} {k : Nat} : PlE e k → PlE e' k → PlE (e2 e e') (k + 1)
theorem plain_int (k : Nat) (i : Int) : t__law_plain (k + 1) (eI i) = some true := rfl
theorem plain_none (k : Nat) : t__law_plain (k + 1) .none = some true := rfl
theorem plain_tuple (k : Nat) (xs : List Dv) (h : ∀ d ∈ xs, t__law_plain k d = some true) : t__law_plain (k + 1) (.tuple xs) = some true := by
  have e : lcO (fun (x5 : Dv) => (t__law_plain k x5).bind fun v6 => if (!v6) = true then (some (some x5)) else some none) xs = some ([] : List Dv) := by
    rw [lcO_eq (g := fun _ => none) fun x hx => (be (h x hx)).trans rfl]
    simp
  refine (be (v := true) rfl).trans ?_
  rw [if_pos rfl]
  refine (be (v := xs) rfl).trans ((be (szO_eq e (by simp))).trans ?_)
  rfl
theorem plain_ok {α : Type} {e : α → Dv} {k : Nat} (h : PlE e k) : ∀ a, t__law_plain (k + 1) (e a) = some true := by
  induction h with
  | int k => exact fun a => plain_int k a
  | opt _ ih =>
    intro a
    cases a with
    | none => exact plain_none _
    | some a => exact ih a
  | tup _ ih =>
    intro xs
    refine plain_tuple _ _ fun d hd => ?_
    obtain ⟨a, _, rfl⟩ := List.mem_map.mp hd
    exact ih a
  | two _ _ ih ih' =>
    intro x
    refine plain_tuple _ _ fun d hd => ?_
    rcases List.mem_cons.mp hd with rfl | hd
    · exact ih _
    · rcases List.mem_cons.mp hd with rfl | hd
      · exact ih' _
      · cases hd
theorem plain_up : ∀ (k : Nat) (d : Dv), t__law_plain k d = some true → True := fun _ _ _ => trivial
section
variable {p A B : Nat} (hp : p ∈ PR) (hA : A < p)
theorem pts_lt {q : Nat × Nat} (h : q ∈ ptsN p A B) : q.1 < p ∧ q.2 < p ∧ q.2 * q.2 % p = (q.1 * q.1 * q.1 + A * q.1 + B) % p := by
  unfold ptsN at h
  obtain ⟨x, hx, h⟩ := List.mem_flatMap.mp h
  obtain ⟨y, hy, rfl⟩ := List.mem_map.mp h
  obtain ⟨h1, h2⟩ := List.mem_filter.mp hy
  exact ⟨List.mem_range.mp hx, List.mem_range.mp h1, by simpa using h2⟩
theorem pts_mem {q : Nat × Nat} (h1 : q.1 < p) (h2 : q.2 < p) (h3 : q.2 * q.2 % p = (q.1 * q.1 * q.1 + A * q.1 + B) % p) : q ∈ ptsN p A B := by
  unfold ptsN
  refine List.mem_flatMap.mpr ⟨q.1, List.mem_range.mpr h1, List.mem_map.mpr ⟨q.2, List.mem_filter.mpr ⟨List.mem_range.mpr h2, by simpa using h3⟩, rfl⟩⟩
theorem pts_on {q : Nat × Nat} : onC p A B (some q) = true ↔ q ∈ ptsN p A B := by
  constructor
  · intro h
    obtain ⟨a, b, c⟩ := on_lt h
    exact pts_mem a b c
  · intro h
    obtain ⟨a, b, c⟩ := pts_lt h
    simp only [onC, Bool.and_eq_true, Nat.ble_eq, beq_iff_eq]
    exact ⟨by omega, by omega, c⟩
theorem law_row (h0 : 0 < p) (h1 : p ≤ 100) (hA : A < p) (x : Nat) (hx : x < p) : szO (lcO (fun (x7 : Int) => (mulO x7 x7).bind fun v8 => (mulO (x : Int) (x : Int)).bind fun v9 => (mulO v9 (x : Int)).bind fun v10 => (mulO (A : Int) (x : Int)).bind fun v11 => (modO (((v8 - v10) - v11) - (B : Int)) (p : Int)).bind fun v12 => if (decide (v12 = 0)) = true then (some (some ((x : Int), x7))) else some none) (rangeI 0 p)) =
    some ((((List.range p).filter fun y => (y * y) % p == (x * x * x + A * x + B) % p).map fun y => (x, y)).map iP) := by
  have h0' : (0 : Int) < (p : Int) := by omega
  rw [rangeI_nat]
  have e := szlc_filter (t := fun y : Int => decide ((y * y - (x * x * x : Nat) - (A * x : Nat) - (B : Int)) % (p : Int) = 0)) (g := fun y : Int => ((x : Int), y)) (xs := (List.range p).map fun i : Nat => (i : Int)) (f := fun (x7 : Int) => (mulO x7 x7).bind fun v8 => (mulO (x : Int) (x : Int)).bind fun v9 => (mulO v9 (x : Int)).bind fun v10 => (mulO (A : Int) (x : Int)).bind fun v11 => (modO (((v8 - v10) - v11) - (B : Int)) (p : Int)).bind fun v12 => if (decide (v12 = 0)) = true then (some (some ((x : Int), x7))) else some none) (fun y hy => by
    obtain ⟨n, hn, rfl⟩ := List.mem_map.mp hy
    have hn := List.mem_range.mp hn
    have hxx : fits (x : Int) := fits_of (by omega) (by omega)
    refine (be (mulO_l _ (fits_of (by omega) (by omega)))).trans ((be (mulO_l _ hxx)).trans ((be (mulO_r _ hxx)).trans ((be (mulO_r _ hxx)).trans ((be (modO_p _ h0')).trans ?_))))
    rw [Int.natCast_mul, Int.natCast_mul, Int.natCast_mul]
    split <;> rfl) (by simp; omega)
  rw [e, List.filter_map, List.map_map, List.map_map]
  congr 1
  have e2 : ∀ y : Nat, (decide (((y : Int) * (y : Int) - (x * x * x : Nat) - (A * x : Nat) - (B : Int)) % (p : Int) = 0)) = ((y * y) % p == (x * x * x + A * x + B) % p) := fun y => by
    refine Bool.eq_iff_iff.mpr ?_
    rw [decide_eq_true_eq, beq_iff_eq]
    rw [← Int.natCast_mul]
    generalize y * y = a
    have : ((a : Int) - (x * x * x : Nat) - (A * x : Nat) - (B : Int)) = (a : Int) - ((x * x * x + A * x + B : Nat) : Int) := by
      generalize x * x * x = b
      generalize A * x = c
      omega
    rw [this, ← Int.emod_eq_emod_iff_emod_sub_eq_zero, ← Int.natCast_emod, ← Int.natCast_emod]
    omega
  have e3 : (fun y : Int => decide ((y * y - (x * x * x : Nat) - (A * x : Nat) - (B : Int)) % (p : Int) = 0)) ∘ (fun i : Nat => (i : Int)) = fun y : Nat => (y * y) % p == (x * x * x + A * x + B) % p := funext e2
  rw [e3]
  rfl
include hp hA in
theorem law_points_ok : t__law_points (p : Int) (cc A B) = some ((ptsN p A B).map iP) := by
  have h0 : 0 < p := by have := pr_le hp; omega
  have hl := (pr_le hp).2
  unfold t__law_points
  rw [rngO1_eq (by omega)]
  simp only [Option.bind_some]
  refine (be (v := (ptsN p A B).map iP) ?_).trans rfl
  rw [rangeI_nat]
  have := fold_flat (f := fun (x4 : Int) (s2 : (List (Int × Int))) => (szO (lcO (fun (x7 : Int) => (mulO x7 x7).bind fun v8 => (mulO x4 x4).bind fun v9 => (mulO v9 x4).bind fun v10 => (mulO (A : Int) x4).bind fun v11 => (modO (((v8 - v10) - v11) - (B : Int)) (p : Int)).bind fun v12 => if (decide (v12 = 0)) = true then (some (some (x4, x7))) else some none) (rangeI 0 p))).bind fun y13 => (plusO s2 y13).bind fun v14 => some v14)
    (g := fun x : Int => (((List.range p).filter fun y => (y * y) % p == (x.toNat * x.toNat * x.toNat + A * x.toNat + B) % p).map fun y => (x.toNat, y)).map iP) 100 ((List.range p).map fun i : Nat => (i : Int)) [] (by simp; omega) (fun x hx => by
      simp only [List.length_map]
      exact Nat.le_trans (List.length_filter_le ..) (by simp; omega)) (fun x hx s hs => by
      obtain ⟨n, hn, rfl⟩ := List.mem_map.mp hx
      have hn := List.mem_range.mp hn
      refine (be (law_row h0 (by omega) hA n hn)).trans ?_
      rw [Int.toNat_natCast]
      refine be (plusO_eq ?_)
      simp only [List.length_map]
      have := List.length_filter_le (fun y => (y * y) % p == (n * n * n + A * n + B) % p) (List.range p)
      simp at this
      omega)
  rw [rangeI_nat p] at this
  refine this.trans ?_
  unfold ptsN
  rw [List.nil_append, List.flatMap_map, List.map_flatMap]
  rfl
/-- the mirror -/
def mir (p : Int) (u : Option (Int × Int)) : Option (Int × Int) := u.map fun q => (q.1, (-q.2) % p)
include hp hA in
theorem mir_ok (Gp : Grp p A B) (i j : Int) : mir (p : Int) (ee Gp i j) = ee Gp (-i) (-j) := by
  have h0 : 0 < p := by have := pr_le hp; omega
  cases h : Gp.E i j with
  | none =>
    have h1 : ee Gp i j = none := by unfold ee; rw [h]; rfl
    rw [h1]
    obtain ⟨a, b⟩ := (e_none Gp i j).mp h1
    exact ((e_none Gp (-i) (-j)).mpr ⟨(Int.dvd_neg).mpr a, (Int.dvd_neg).mpr b⟩).symm
  | some q =>
    obtain ⟨x, y⟩ := q
    have hon := Gp.on i j
    rw [h] at hon
    obtain ⟨hx, hy, hxy⟩ := on_lt hon
    simp only at hx hy hxy
    have e1 : (-(y : Int)) % (p : Int) = (((p - y) % p : Nat) : Int) := nat_mod_shift ⟨-1, by omega⟩
    have h1 : mir (p : Int) (ee Gp i j) = cP (some (x, (p - y) % p)) := by
      unfold ee
      rw [h]
      show some ((x : Int), (-(y : Int)) % (p : Int)) = _
      rw [e1]
      rfl
    have hq : (x, (p - y) % p) ∈ ptsN p A B := by
      refine pts_mem hx (Nat.mod_lt _ h0) ?_
      show ((p - y) % p) * ((p - y) % p) % p = _
      rw [← hxy, ← Nat.mul_mod]
      have : (((p - y) * (p - y) : Nat) : Int) = (y * y : Nat) + p * ((p : Int) - 2 * y) := by
        rw [Int.natCast_mul, show (((p - y : Nat)) : Int) = (p : Int) - y by omega, Int.natCast_mul, Int.mul_sub, Int.mul_sub, Int.sub_mul, Int.sub_mul]
        rw [Int.mul_comm (y : Int) (p : Int), show (p : Int) * (2 * (y : Int)) = 2 * ((p : Int) * y) by rw [← Int.mul_assoc, Int.mul_comm (p : Int) 2, Int.mul_assoc]]
        generalize (p : Int) * y = a
        omega
      have h2 : ((((p - y) * (p - y)) % p : Nat) : Int) = ((y * y % p : Nat) : Int) := by
        rw [Int.natCast_emod, this, Int.add_mul_emod_self_left, Int.natCast_emod]
      exact_mod_cast h2
    obtain ⟨k, l, hkl⟩ := Gp.all _ hq
    have hadd := Gp.add i j k l
    rw [h, hkl, addN_ss] at hadd
    have hz : (y + (p - y) % p) % p = 0 := by
      rw [Nat.add_mod, Nat.mod_mod, ← Nat.add_mod, show y + (p - y) = p by omega, Nat.mod_self]
    rw [show ((x : Nat) == x && (y + (p - y) % p) % p == 0) = true by rw [hz]; simp] at hadd
    obtain ⟨a, b⟩ := (Gp.zero _ _).mp hadd.symm
    rw [h1]
    have : ee Gp k l = ee Gp (-i) (-j) := e_same Gp (by rw [show k - -i = i + k by omega]; exact a) (by rw [show l - -j = j + l by omega]; exact b)
    rw [← this]
    unfold ee
    rw [hkl]
include hp hA in
theorem times_nn (Gp : Grp p A B) (n : Nat) (k : Nat) (hk : k < 2 ^ 40) (i j : Int) : t_times_point (n + 1) (p : Int) (cc A B) (k : Int) (ee Gp i j) = some (ee Gp (k * i) (k * j)) := by
  unfold t_times_point
  rw [if_neg (by rw [decide_eq_true_eq]; omega)]
  obtain ⟨s, e⟩ := times_loop hp hA Gp 40 k i j 0 0 hk
  rw [e_00, Int.zero_add, Int.zero_add] at e
  exact whileB_of (by omega) e
include hp hA in
theorem times_ok (Gp : Grp p A B) (k : Int) (hk : -(2 ^ 40) < k ∧ k < 2 ^ 40) (i j : Int) : t_times_point 2 (p : Int) (cc A B) k (ee Gp i j) = some (ee Gp (k * i) (k * j)) := by
  have h0 : 0 < p := by have := pr_le hp; omega
  have h0' : (0 : Int) < (p : Int) := by omega
  by_cases hn : k < 0
  · obtain ⟨m, hm⟩ := Int.eq_ofNat_of_zero_le (show 0 ≤ -k by omega)
    have h1 : ((if (Option.isNone (ee Gp i j)) = true then (some none) else ((ee Gp i j).bind fun v2 => (ee Gp i j).bind fun v3 => (modO (-v3.2) (p : Int)).bind fun v4 => some (some (v2.1, v4))))) = some (mir (p : Int) (ee Gp i j)) := by
      cases ee Gp i j with
      | none => rfl
      | some q =>
        refine (if_neg (by simp)).trans ?_
        refine (be (v := q) rfl).trans ((be (v := q) rfl).trans ((be (modO_p _ h0')).trans rfl))
    have h2 := times_nn hp hA Gp 0 m (by omega) (-i) (-j)
    unfold t_times_point
    rw [if_pos (decide_eq_true hn)]
    refine (be h1).trans ?_
    rw [mir_ok hp hA, hm]
    refine (be h2).trans ?_
    rw [← hm, Int.neg_mul_neg, Int.neg_mul_neg]
  · obtain ⟨m, rfl⟩ := Int.eq_ofNat_of_zero_le (show 0 ≤ k by omega)
    exact times_nn hp hA Gp 1 m (by omega) i j
include hp hA in
theorem row_at (Gp : Grp p A B) {i j : Int} {o : Nat} (ho : IsOrd Gp i j o) (k : Int) : atI (mulL Gp i j o) (k % (o : Int)) = some (ee Gp (k * i) (k * j)) := by
  have ho0 : (0 : Int) < (o : Int) := by have := ho.1; omega
  have hz := (e_none Gp _ _).mp ho.2.2.1
  obtain ⟨m, hm⟩ := Int.eq_ofNat_of_zero_le (Int.emod_nonneg k (b := (o : Int)) (by omega))
  have hlt : m < o := by have := Int.emod_lt_of_pos k ho0; omega
  have hdm := Int.emod_add_mul_ediv k (o : Int)
  rw [hm]
  refine atI_nat ?_
  unfold mulL
  rw [List.getElem?_map, List.getElem?_range hlt]
  refine congrArg some (e_same Gp ?_ ?_)
  · have : (m : Int) * i - k * i = (o * i) * (-(k / (o : Int))) := by
      rw [← Int.sub_mul, show (m : Int) - k = -((o : Int) * (k / (o : Int))) by omega]
      rw [Int.neg_mul, Int.mul_neg, Int.mul_right_comm]
    rw [this]
    exact Int.dvd_trans hz.1 (Int.dvd_mul_right _ _)
  · have : (m : Int) * j - k * j = (o * j) * (-(k / (o : Int))) := by
      rw [← Int.sub_mul, show (m : Int) - k = -((o : Int) * (k / (o : Int))) by omega]
      rw [Int.neg_mul, Int.mul_neg, Int.mul_right_comm]
    rw [this]
    exact Int.dvd_trans hz.2 (Int.dvd_mul_right _ _)
end
end K85

set_option Elab.async false
set_option linter.all false
set_option autoImplicit false
set_option maxRecDepth 100000
set_option maxHeartbeats 1000000
namespace K85
open PySem PySem.Spec PyProof.Rows L2 DL
section
variable {p A B : Nat} (hp : p ∈ PR) (hA : A < p) (hB : B < p) (Gp : Grp p A B)
/-- the points as the program has them -/
def pO (p A B : Nat) : List (Option (Int × Int)) := none :: (ptsN p A B).map fun q => some (iP q)
def oN (p A B : Nat) (u : Option (Int × Int)) : Int := match t_order_of_point (p : Int) (cc A B) u with
  | some v => v
  | none => 0
theorem pts_ee (Gp : Grp p A B) {u : Option (Int × Int)} (hu : u ∈ pO p A B) : ∃ i j, u = ee Gp i j := by
  rcases List.mem_cons.mp hu with rfl | hu
  · exact ⟨0, 0, (e_00 Gp).symm⟩
  · obtain ⟨q, hq, rfl⟩ := List.mem_map.mp hu
    obtain ⟨i, j, h⟩ := Gp.all q hq
    exact ⟨i, j, by unfold ee; rw [h]; rfl⟩
theorem ee_pts (i j : Int) : ee Gp i j ∈ pO p A B := by
  unfold ee
  have h := Gp.on i j
  cases hE : Gp.E i j with
  | none => exact List.mem_cons_self ..
  | some q =>
    rw [hE] at h
    exact List.mem_cons_of_mem _ (List.mem_map.mpr ⟨q, pts_on.mp h, rfl⟩)
include hp hA in
theorem oN_ee {i j : Int} {o : Nat} (ho : IsOrd Gp i j o) : oN p A B (ee Gp i j) = o := by
  unfold oN
  rw [order_ok hp hA Gp ho]
include hp hA in
theorem orders (Gp : Grp p A B) {u : Option (Int × Int)} (hu : u ∈ pO p A B) : t_order_of_point (p : Int) (cc A B) u = some (oN p A B u) ∧ 1 ≤ oN p A B u ∧ oN p A B u ≤ Gp.n1 ∧ ∃ M, t__law_multiples (p : Int) (cc A B) u = some M ∧ (M.length : Int) = oN p A B u := by
  obtain ⟨i, j, rfl⟩ := pts_ee Gp hu
  obtain ⟨o, ho⟩ := ex_ord Gp i j
  rw [oN_ee hp hA Gp ho]
  refine ⟨order_ok hp hA Gp ho, ?_, ?_, _, mult_ok hp hA Gp ho, by rw [mulL_len]⟩
  · have := ho.1; omega
  · have := ho.2.1; omega
theorem pO_len (Gp : Grp p A B) : (pO p A B).length = Gp.n1 * Gp.n2 := by
  rw [← Gp.len]
  simp [pO]
theorem pts_few (h1 : p ≤ 100) : (ptsN p A B).length ≤ 10000 := by
  unfold ptsN
  rw [List.length_flatMap]
  have : ∀ xs : List Nat, (List.map (fun x => (((List.range p).filter fun y => (y * y) % p == (x * x * x + A * x + B) % p).map fun y => (x, y)).length) xs).sum ≤ 100 * xs.length := by
    intro xs
    induction xs with
    | nil => simp
    | cons x xs ih =>
      rw [List.map_cons, List.sum_cons, List.length_cons]
      have h2 : (((List.range p).filter fun y => (y * y) % p == (x * x * x + A * x + B) % p).map fun y => (x, y)).length ≤ 100 := by
        rw [List.length_map]
        refine Nat.le_trans (List.length_filter_le ..) ?_
        rw [List.length_range]
        exact h1
      omega
  have h3 := this (List.range p)
  rw [List.length_range] at h3
  omega
/-- the list of the orders -/
def oL (p A B : Nat) : List Int := 1 :: (ptsN p A B).map fun q => oN p A B (some (iP q))
include hp hA in
theorem oN_none (Gp : Grp p A B) : oN p A B none = 1 := by
  have ho : IsOrd Gp 0 0 1 := ⟨Nat.le_refl _, Gp.n1p, by rw [Int.mul_zero, e_00], fun k h1 h2 => by omega⟩
  have := oN_ee hp hA Gp ho
  rw [e_00] at this
  exact this
include hp hA in
theorem oL_eq (Gp : Grp p A B) : (pO p A B).map (oN p A B) = oL p A B := by
  unfold pO oL
  rw [List.map_cons, oN_none hp hA Gp, List.map_map]
  rfl
include hp hA in
theorem top_ok (Gp : Grp p A B) : maxO eI (oL p A B) = some (Gp.n1 : Int) := by
  have e : maxO eI (oL p A B) = some (maxE eI 1 ((ptsN p A B).map fun q => oN p A B (some (iP q)))) := rfl
  rw [e]
  obtain ⟨h1, h2⟩ := maxE_spec ((ptsN p A B).map fun q => oN p A B (some (iP q))) 1
  have hle : ∀ y ∈ oL p A B, y ≤ Gp.n1 := fun y hy => by
    rw [← oL_eq hp hA Gp] at hy
    obtain ⟨u, hu, rfl⟩ := List.mem_map.mp hy
    exact (orders hp hA Gp hu).2.2.1
  have hmem : (Gp.n1 : Int) ∈ oL p A B := by
    rw [← oL_eq hp hA Gp]
    refine List.mem_map.mpr ⟨ee Gp 1 0, ee_pts Gp 1 0, oN_ee hp hA Gp ⟨Gp.n1p, Nat.le_refl _, ?_, fun k h1 h2 h3 => ?_⟩⟩
    · rw [Int.mul_one, Int.mul_zero]
      exact (e_none Gp _ _).mpr ⟨Int.dvd_refl _, Int.dvd_zero _⟩
    · rw [Int.mul_one, Int.mul_zero] at h3
      have := Int.natCast_dvd_natCast.mp ((e_none Gp _ _).mp h3).1
      have := Nat.le_of_dvd (by omega) this
      omega
  have h3 := h2 _ hmem
  have h4 := hle _ h1
  congr 1
  omega
/-- the factors that are due -/
def facs (n1 n2 : Nat) : List Int := ([(n2 : Int), (n1 : Int)]).filter fun x => decide (1 < x)
theorem size_div {a b : Nat} (h : 1 ≤ a) : ((a * b : Nat) : Int) / (a : Int) = b := by
  rw [Int.natCast_mul]
  exact Int.mul_ediv_cancel_left _ (by omega)
include hp hA in
theorem group_ok (Gp : Grp p A B) (hpo : t_points_of (p : Int) (cc A B) = some (pO p A B)) : t_group_of_curve (p : Int) (cc A B) = some (facs Gp.n1 Gp.n2) := by
  have hl := (pr_le hp).2
  have hf := pts_few (p := p) (A := A) (B := B) (by omega)
  have hn := Gp.n1b
  unfold t_group_of_curve
  refine (be hpo).trans ((be (szmap_eq (g := oN p A B) (fun u hu => (be (orders hp hA Gp hu).1).trans rfl) (by rw [pO_len Gp, ← Gp.len]; omega))).trans ?_)
  rw [oL_eq hp hA Gp]
  refine (be (top_ok hp hA Gp)).trans ?_
  rw [pO_len Gp]
  have hd : divO ((Gp.n1 * Gp.n2 : Nat) : Int) (Gp.n1 : Int) = some (Gp.n2 : Int) := by
    unfold divO
    rw [if_pos ⟨by have := Gp.n1p; omega, by omega⟩, size_div Gp.n1p]
  refine (be hd).trans ((be (szlc_filter (t := fun x => decide (1 < x)) (g := fun x => x) (fun x _ => by split <;> rfl) (by simp))).trans ?_)
  rw [List.map_id']
  rfl
include hp hA in
/-- the law's own factors -/
theorem due_ok (Gp : Grp p A B) : ((if (decide (((Gp.n1 * Gp.n2 : Nat) : Int) = 1)) = true then (some []) else (((if (decide (((Gp.n1 * Gp.n2 : Nat) : Int) = (Gp.n1 : Int))) = true then (some [((Gp.n1 * Gp.n2 : Nat) : Int)]) else ((divO ((Gp.n1 * Gp.n2 : Nat) : Int) (Gp.n1 : Int)).bind fun v18 => some [v18, (Gp.n1 : Int)]))).bind fun v19 => some v19))) = some (facs Gp.n1 Gp.n2) := by
  have hl := (pr_le hp).2
  have hn := Gp.n1b
  have h1 := Gp.n1p
  have h2 := Gp.n2p
  have hd : divO ((Gp.n1 * Gp.n2 : Nat) : Int) (Gp.n1 : Int) = some (Gp.n2 : Int) := by
    unfold divO
    rw [if_pos ⟨by omega, by omega⟩, size_div h1]
  have hle := Nat.le_of_dvd (by omega) Gp.n21
  generalize Gp.n1 = n1 at *
  generalize Gp.n2 = n2 at *
  by_cases h3 : n2 = 1
  · subst h3
    rw [Nat.mul_one] at hd ⊢
    by_cases h4 : n1 = 1
    · subst h4
      rfl
    · rw [if_neg (by rw [decide_eq_true_eq]; omega), if_pos (decide_eq_true rfl)]
      unfold facs
      rw [List.filter_cons_of_neg (by decide), List.filter_cons_of_pos (by rw [decide_eq_true_eq]; omega)]
      rfl
  · have h5 : n1 * 2 ≤ n1 * n2 := Nat.mul_le_mul_left _ (by omega)
    rw [if_neg (by rw [decide_eq_true_eq]; omega), if_neg (by rw [decide_eq_true_eq]; omega), hd]
    unfold facs
    rw [List.filter_cons_of_pos (by rw [decide_eq_true_eq]; omega), List.filter_cons_of_pos (by rw [decide_eq_true_eq]; omega)]
    rfl
end
theorem pl1 {α : Type} {e : α → Dv} (h : PlE e 3) (a : α) : t__law_plain 4 (e a) = some true := plain_ok h a
theorem pl_int (a : Int) : t__law_plain 4 (eI a) = some true := pl1 (.int 3) a
theorem pl_pt (a : Option (Int × Int)) : t__law_plain 4 (eO (e2 eI eI) a) = some true := pl1 (.opt (.two (.int 2) (.int 2))) a
theorem pl_pts (a : List (Option (Int × Int))) : t__law_plain 4 (eT (eO (e2 eI eI)) a) = some true := pl1 (.tup (.opt (.two (.int 1) (.int 1)))) a
theorem pl_ints (a : List Int) : t__law_plain 4 (eT eI a) = some true := pl1 (.tup (.int 2)) a
theorem pl_form (a : (Int × Int) × Int) : t__law_plain 4 (e2 (e2 eI eI) eI a) = some true := pl1 (.two (.two (.int 1) (.int 1)) (.int 2)) a
theorem pl_curves (a : List (Int × Int)) : t__law_plain 4 (eT (e2 eI eI) a) = some true := pl1 (.tup (.two (.int 1) (.int 1))) a
theorem exb {α τ : Type} {x : Option α} {f : α → Option (Bool × τ)} {v : α} (h : x = some v) (k : ∃ n, f v = some (true, n)) : ∃ n, x.bind f = some (true, n) := by
  rw [be h]
  exact k
theorem exif {τ : Type} {c : Bool} {x y : Option (Bool × τ)} (h : c = false) (k : ∃ n, y = some (true, n)) : ∃ n, (if c = true then x else y) = some (true, n) := by
  rw [if_neg (by rw [h]; decide)]
  exact k
theorem exfor {α σ r τ : Type} {f : α → σ → Option (Fo σ r)} {xs : List α} {s : σ} {k : σ → Option (Bool × τ)} {kr : r → Option (Bool × τ)} (h : ∀ x s, x ∈ xs → ∃ s', f x s = some (.nx s')) (kk : ∀ s, ∃ n, k s = some (true, n)) : ∃ n, forB f xs s k kr = some (true, n) := by
  obtain ⟨s', e, _⟩ := for_keep (f := f) (fun _ => True) xs s trivial fun x s hx _ => by
    obtain ⟨s', e⟩ := h x s hx
    exact ⟨s', e, trivial⟩
  rw [forB_of e]
  exact kk s'
theorem exn {α σ r : Type} {x : Option α} {f : α → Option (Fo σ r)} {v : α} (h : x = some v) (k : ∃ n, f v = some (.nx n)) : ∃ n, x.bind f = some (.nx n) := by
  rw [be h]
  exact k
theorem exnif {σ r : Type} {c : Bool} {x y : Option (Fo σ r)} (h : c = false) (k : ∃ n, y = some (.nx n)) : ∃ n, (if c = true then x else y) = some (.nx n) := by
  rw [if_neg (by rw [h]; decide)]
  exact k
theorem exnfor {α σ r τ ρ : Type} {f : α → σ → Option (Fo σ r)} {xs : List α} {s : σ} {k : σ → Option (Fo τ ρ)} {kr : r → Option (Fo τ ρ)} (h : ∀ x s, x ∈ xs → ∃ s', f x s = some (.nx s')) (kk : ∀ s, ∃ n, k s = some (.nx n)) : ∃ n, forB f xs s k kr = some (.nx n) := by
  obtain ⟨s', e, _⟩ := for_keep (f := f) (fun _ => True) xs s trivial fun x s hx _ => by
    obtain ⟨s', e⟩ := h x s hx
    exact ⟨s', e, trivial⟩
  rw [forB_of e]
  exact kk s'
/-- told plainly and as due -/
theorem told {α : Type} {e : α → Dv} [EqE e] {a b : α} {x : Option Bool} (h : a = b) (hx : x = some (!eqE e a b)) : ((if (!true) = true then some true else x)) = some false := by
  rw [if_neg (by decide), hx, h, eqE_self]
  rfl
theorem flat_one {α β : Type} (g : α → β) : ∀ xs : List α, xs.flatMap (fun x => [g x]) = xs.map g
  | [] => rfl
  | x :: xs => by
    rw [List.flatMap_cons, flat_one g xs]
    rfl
theorem fold_push {α β : Type} {f : α → List β → Option (List β)} {g : α → β} (xs : List α) (hl : xs.length ≤ 100000) (h : ∀ x ∈ xs, ∀ s : List β, s.length < 1000000 → f x s = some (s ++ [g x])) : foldO f xs [] = some (xs.map g) := by
  have := fold_flat (f := f) (g := fun x => [g x]) 1 xs [] (by simp; omega) (fun x _ => by simp) (fun x hx s hs => h x hx s (by omega))
  rw [this, List.nil_append, flat_one]
section
variable {p A B : Nat} (hp : p ∈ PR) (hA : A < p) (hB : B < p)
include hp hA in
theorem right_ok (Gp : Grp p A B) (hpo : t_points_of (p : Int) (cc A B) = some (pO p A B)) (ds : List Int) (n : Nat) : ∃ n', t__law_points_right ds n (p : Int) (cc A B) = some (true, n') := by
  have h0 : 0 < p := by have := pr_le hp; omega
  have h0' : (0 : Int) < (p : Int) := by omega
  have hl := (pr_le hp).2
  have hf := pts_few (p := p) (A := A) (B := B) (by omega)
  have hpl : plusO [none] (List.map (fun z => (some z)) ((ptsN p A B).map iP)) = some (pO p A B) := by
    rw [plusO_eq (by simp; omega), List.map_map]
    rfl
  have hlen : (((ptsN p A B).map iP).length : Int) + 1 = ((Gp.n1 * Gp.n2 : Nat) : Int) := by
    rw [List.length_map, ← Gp.len]
    omega
  unfold t__law_points_right
  refine exb (law_points_ok hp hA) (exb hpo (exb (pl_pts _) (exb (v := false) (told rfl (be hpl)) (exif rfl ?_))))
  have hfo : foldO (fun (x10 : (Int × Int)) (s8 : (List Int)) => (t__law_multiples (p : Int) (cc A B) (some x10)).bind fun v11 => (pushO s8 (List.length v11 : Int)).bind fun v12 => some v12) ((ptsN p A B).map iP) [] = some (((ptsN p A B).map iP).map fun q => oN p A B (some q)) := by
    refine fold_push _ (by rw [List.length_map]; omega) fun q hq s hs => ?_
    obtain ⟨q', hq', rfl⟩ := List.mem_map.mp hq
    obtain ⟨_, _, _, M, hM, hM2⟩ := orders hp hA Gp (u := some (iP q')) (List.mem_cons_of_mem _ (List.mem_map.mpr ⟨q', hq', rfl⟩))
    refine (be hM).trans ?_
    rw [hM2]
    exact be (pushO_eq (by omega))
  refine exb hfo (exb (v := oL p A B) ?_ (exb (top_ok hp hA Gp) (exb rfl ?_)))
  · rw [plusO_eq (by simp; omega), List.map_map]
    rfl
  rw [hlen]
  refine exb (due_ok hp hA Gp) (exb (group_ok hp hA Gp hpo) (exb (pl_ints _) (exif (by rw [eqE_self]; rfl) ?_)))
  refine exfor (fun x s hx => ?_) (fun s => ⟨s, rfl⟩)
  -- a turn
  have hpts : ∀ u : Option (Int × Int), u ∈ (List.map (fun z => (some z)) ((ptsN p A B).map iP)) → u ∈ pO p A B := fun u hu => by
    rw [List.map_map] at hu
    exact List.mem_cons_of_mem _ hu
  have h1 : ∃ u n1, ((if (!eqE (eL (e2 eI eI)) ((ptsN p A B).map iP) []) = true then ((plusO [none] (List.map (fun z => (some z)) ((ptsN p A B).map iP))).bind fun v36 => (pickO ds s v36).bind fun v37 => some (v37.1, v37.2)) else (some (none, s)))) = some (u, n1) ∧ u ∈ pO p A B := by
    cases hc : (!eqE (eL (e2 eI eI)) ((ptsN p A B).map iP) []) with
    | false => exact ⟨none, s, rfl, List.mem_cons_self ..⟩
    | true =>
      obtain ⟨u, hu, e⟩ := pick_ex (ds := ds) (n := s) (xs := pO p A B) (by simp [pO])
      exact ⟨u, s + 1, (if_pos rfl).trans ((be hpl).trans ((be e).trans rfl)), hu⟩
  obtain ⟨u, n1, e1, hu⟩ := h1
  obtain ⟨i, j, rfl⟩ := pts_ee Gp hu
  obtain ⟨o, ho⟩ := ex_ord Gp i j
  refine exn e1 ?_
  have h2 : ((if (Option.isNone (ee Gp i j)) = true then (some (ee Gp i j)) else ((ee Gp i j).bind fun v41 => (ee Gp i j).bind fun v42 => (modO (0 - v42.2) (p : Int)).bind fun v43 => some (some (v41.1, v43))))) = some (ee Gp (-i) (-j)) := by
    rw [← mir_ok hp hA]
    cases ee Gp i j with
    | none => rfl
    | some q =>
      refine (if_neg (by simp)).trans ?_
      refine (be (v := q) rfl).trans ((be (v := q) rfl).trans ((be (modO_p _ h0')).trans ?_))
      rw [Int.zero_sub]
      rfl
  refine exn h2 ?_
  have hl3 : (List.map (fun z : Int × Int => (some z)) ((ptsN p A B).map iP)).length ≤ 10000 := by simp only [List.length_map]; exact hf
  refine exn (plusO_eq (by simp only [List.length_cons, List.length_nil]; omega)) (exn (plusO_eq (by simp only [List.length_append, List.length_cons, List.length_nil]; omega)) ?_)
  obtain ⟨v, hv, e3⟩ := pick_ex (ds := ds) (n := n1) (xs := [none, ee Gp i j, ee Gp (-i) (-j)] ++ List.map (fun z => some z) ((ptsN p A B).map iP) ++ List.map (fun z => some z) ((ptsN p A B).map iP)) (by simp)
  refine exn e3 ?_
  have hv2 : v ∈ pO p A B := by
    rcases List.mem_append.mp hv with hv | hv
    · rcases List.mem_append.mp hv with hv | hv
      · simp only [List.mem_cons, List.not_mem_nil, or_false] at hv
        rcases hv with rfl | rfl | rfl
        · exact List.mem_cons_self ..
        · exact ee_pts Gp _ _
        · exact ee_pts Gp _ _
      · exact hpts v hv
    · exact hpts v hv
  obtain ⟨k, l, rfl⟩ := pts_ee Gp hv2
  refine exn (addE hp hA Gp i j k l) (exn (pl_pt _) (exn (v := false) (told rfl (be (laddE hp hA Gp i j k l))) (exnif rfl ?_)))
  have h5 : (((if (!Option.isNone (ee Gp i j)) = true then ((t__law_multiples (p : Int) (cc A B) (ee Gp i j)).bind fun v56 => some v56) else (some [none])))) = some (mulL Gp i j o) := by
    by_cases hz : ee Gp i j = none
    · have ho1 : o = 1 := by
        by_cases h1 : o = 1
        · exact h1
        · refine absurd hz ?_
          have := ho.2.2.2 1 (Nat.le_refl _) (by have := ho.1; omega)
          rwa [show ((1 : Nat) : Int) = 1 from rfl, Int.one_mul, Int.one_mul] at this
      subst ho1
      rw [hz]
      show some [none] = some [ee Gp ((0 : Nat) * i) ((0 : Nat) * j)]
      rw [show (((0 : Nat) : Int)) = 0 from rfl, Int.zero_mul, Int.zero_mul, e_00]
    · rw [if_pos (by cases h : ee Gp i j with
        | none => exact absurd h hz
        | some v => rfl)]
      exact (be (mult_ok hp hA Gp ho)).trans rfl
  refine exn h5 (exn (order_ok hp hA Gp ho) (exn (pl_int _) (exnif (by rw [mulL_len]; simp) ?_)))
  obtain ⟨m, hm0, hm1, e6⟩ := next_ex (ds := ds) (n := n1 + 1) (m := 99) (by omega)
  refine exn e6 ?_
  refine exnfor (fun x s hx => ?_) (fun s => ⟨_, rfl⟩)
  have hxb : -(2 ^ 40) < x ∧ x < 2 ^ 40 := by
    simp only [List.mem_cons, List.not_mem_nil, or_false] at hx
    rcases hx with rfl | rfl | rfl | rfl <;> omega
  refine exn (times_ok hp hA Gp x hxb i j) (exn (pl_pt _) (exn (v := false) (told (e := eO (e2 eI eI)) (b := ee Gp (x * i) (x * j)) rfl ?_) (exnif rfl ⟨(), rfl⟩)))
  rw [mulL_len]
  refine (be (modO_p _ (by have := ho.1; omega))).trans ((be (row_at hp hA Gp ho x)).trans rfl)
end
end K85

set_option Elab.async false
set_option linter.all false
set_option autoImplicit false
set_option maxRecDepth 100000
set_option maxHeartbeats 1000000
namespace K85
open PySem PySem.Spec PyProof.Rows L2 DL
def LT : Nat → Nat
  | 5 => LT5
  | 7 => LT7
  | 11 => LT11
  | 13 => LT13
  | _ => LT17
def ST : Nat → Nat
  | 5 => ST5
  | 7 => ST7
  | 11 => ST11
  | 13 => ST13
  | _ => ST17
def dgC (L p : Nat) (c : Int × Int) : Nat := (L / 1024 ^ (c.1.toNat * p + c.2.toNat)) % 1024
def lst (p : Nat) (c : Int × Int) : Int × Int := (((dgC (LT p) p c / 32 : Nat) : Int), ((dgC (LT p) p c % 32 : Nat) : Int))
def shp (p : Nat) (c : Int × Int) : Int := ((dgC (ST p) p c : Nat) : Int)
abbrev eC2 : Int × Int → Dv := e2 eI eI
def alO (p : Nat) (c : Int × Int) : Option (List (Int × Int)) := szO (mapO (fun (x21 : Int) => (t__law_turned (p : Int) c x21).bind fun v22 => some v22) (rangeI 1 (p - 1)))
def fuO (p : Nat) (c l : Int × Int) : Option (List Int) := szO (lcO (fun (x34 : Int) => (t__law_turned (p : Int) c x34).bind fun v35 => if (eqE (e2 eI eI) v35 l) = true then (some (some x34)) else some none) (rangeI 1 (p - 1)))
def okI (p : Nat) (d : Int × Int) : Bool := decide (0 ≤ d.1) && (decide (d.1 < p) && (decide (0 ≤ d.2) && (decide (d.2 < p) && !(disc p d.1.toNat d.2.toNat == 0))))
def anO {α : Type} (x : Option α) (f : α → Bool) : Bool := match x with
  | some v => f v
  | none => false
theorem anO_inv {α : Type} {x : Option α} {f : α → Bool} (h : anO x f = true) : ∃ v, x = some v ∧ f v = true := by
  cases x with
  | none => cases h
  | some v => exact ⟨v, rfl, h⟩
def ckF (l : Int × Int → Int × Int) (sh : Int × Int → Int) (p : Nat) (c : Int × Int) : Bool :=
  anO (alO p c) fun al => (anO (minO (e2 eI eI) al) fun m => eqE (e2 eI eI) m (l c)) && (al.all (fun d => eqE (e2 eI eI) (l d) (l c) && (decide (sh d = sh c) && okI p d)) &&
     ((anO (fuO p c (l c)) fun y => anO (atI y 0) fun u => anO (t_curve_form (p : Int) c) fun r => eqE (e2 (e2 eI eI) eI) r (l c, u)) &&
     ((anO (fuO p c c) fun y => anO (t_curve_keepers (p : Int) c) fun r => eqE (eT eI) r y) &&
     ((anO (t_shape_number (p : Int) c) fun s => decide (s = sh c)) &&
      (anO (t__law_over (p : Int) (6912 * c.1 * c.1 * c.1) (4 * c.1 * c.1 * c.1 + 27 * c.2 * c.2)) fun s => decide (s = sh c))))))
def ckR (p a : Nat) : Bool := (List.range p).all fun b => disc p a b == 0 || ckF (lst p) (shp p) p ((a : Int), (b : Int))
def ckP (p : Nat) : Bool :=
  anO (t__law_forms (p : Int)) fun r => decide (r.2 = (p : Int) * (p : Int) - (p : Int)) && anO (t_all_curves (p : Int)) fun fs => eqE (eL (e2 eI eI)) fs r.1 &&
    anO (szO (mapO (fun (x79 : (Int × Int)) => (t_curve_keepers (p : Int) x79).bind fun v80 => (divO ((p : Int) - 1) (List.length v80 : Int)).bind fun v81 => some v81) fs)) fun ys => decide (List.sum ys = (p : Int) * (p : Int) - (p : Int))
end K85

set_option Elab.async false
set_option linter.all false
set_option autoImplicit false
set_option maxRecDepth 100000
set_option maxHeartbeats 1000000
namespace K85
open PySem PySem.Spec PyProof.Rows L2 DL
theorem f_5_0 : ckR 5 0 = true := by decide +kernel
theorem f_5_1 : ckR 5 1 = true := by decide +kernel
theorem f_5_2 : ckR 5 2 = true := by decide +kernel
theorem f_5_3 : ckR 5 3 = true := by decide +kernel
theorem f_5_4 : ckR 5 4 = true := by decide +kernel
theorem f_7_0 : ckR 7 0 = true := by decide +kernel
theorem f_7_1 : ckR 7 1 = true := by decide +kernel
theorem f_7_2 : ckR 7 2 = true := by decide +kernel
theorem f_7_3 : ckR 7 3 = true := by decide +kernel
theorem f_7_4 : ckR 7 4 = true := by decide +kernel
theorem f_7_5 : ckR 7 5 = true := by decide +kernel
theorem f_7_6 : ckR 7 6 = true := by decide +kernel
theorem f_11_0 : ckR 11 0 = true := by decide +kernel
theorem f_11_1 : ckR 11 1 = true := by decide +kernel
theorem f_11_2 : ckR 11 2 = true := by decide +kernel
theorem f_11_3 : ckR 11 3 = true := by decide +kernel
theorem f_11_4 : ckR 11 4 = true := by decide +kernel
theorem f_11_5 : ckR 11 5 = true := by decide +kernel
theorem f_11_6 : ckR 11 6 = true := by decide +kernel
theorem f_11_7 : ckR 11 7 = true := by decide +kernel
theorem f_11_8 : ckR 11 8 = true := by decide +kernel
theorem f_11_9 : ckR 11 9 = true := by decide +kernel
theorem f_11_10 : ckR 11 10 = true := by decide +kernel
theorem f_13_0 : ckR 13 0 = true := by decide +kernel
theorem f_13_1 : ckR 13 1 = true := by decide +kernel
theorem f_13_2 : ckR 13 2 = true := by decide +kernel
theorem f_13_3 : ckR 13 3 = true := by decide +kernel
theorem f_13_4 : ckR 13 4 = true := by decide +kernel
theorem f_13_5 : ckR 13 5 = true := by decide +kernel
theorem f_13_6 : ckR 13 6 = true := by decide +kernel
theorem f_13_7 : ckR 13 7 = true := by decide +kernel
theorem f_13_8 : ckR 13 8 = true := by decide +kernel
theorem f_13_9 : ckR 13 9 = true := by decide +kernel
theorem f_13_10 : ckR 13 10 = true := by decide +kernel
theorem f_13_11 : ckR 13 11 = true := by decide +kernel
theorem f_13_12 : ckR 13 12 = true := by decide +kernel
theorem f_17_0 : ckR 17 0 = true := by decide +kernel
theorem f_17_1 : ckR 17 1 = true := by decide +kernel
theorem f_17_2 : ckR 17 2 = true := by decide +kernel
theorem f_17_3 : ckR 17 3 = true := by decide +kernel
theorem f_17_4 : ckR 17 4 = true := by decide +kernel
theorem f_17_5 : ckR 17 5 = true := by decide +kernel
theorem f_17_6 : ckR 17 6 = true := by decide +kernel
theorem f_17_7 : ckR 17 7 = true := by decide +kernel
theorem f_17_8 : ckR 17 8 = true := by decide +kernel
theorem f_17_9 : ckR 17 9 = true := by decide +kernel
theorem f_17_10 : ckR 17 10 = true := by decide +kernel
theorem f_17_11 : ckR 17 11 = true := by decide +kernel
theorem f_17_12 : ckR 17 12 = true := by decide +kernel
theorem f_17_13 : ckR 17 13 = true := by decide +kernel
theorem f_17_14 : ckR 17 14 = true := by decide +kernel
theorem f_17_15 : ckR 17 15 = true := by decide +kernel
theorem f_17_16 : ckR 17 16 = true := by decide +kernel
theorem w_5 : ckP 5 = true := by decide +kernel
theorem w_7 : ckP 7 = true := by decide +kernel
theorem w_11 : ckP 11 = true := by decide +kernel
theorem w_13 : ckP 13 = true := by decide +kernel
theorem all_f {p : Nat} (hp : p ∈ PR) {a : Nat} (ha : a < p) : ckR p a = true := by
  simp only [PR, List.mem_cons, List.not_mem_nil, or_false] at hp
  rcases hp with rfl | rfl | rfl | rfl | rfl
  · exact match a, ha with
    | 0, _ => f_5_0
    | 1, _ => f_5_1
    | 2, _ => f_5_2
    | 3, _ => f_5_3
    | 4, _ => f_5_4
    | n + 5, h => absurd h (by omega)
  · exact match a, ha with
    | 0, _ => f_7_0
    | 1, _ => f_7_1
    | 2, _ => f_7_2
    | 3, _ => f_7_3
    | 4, _ => f_7_4
    | 5, _ => f_7_5
    | 6, _ => f_7_6
    | n + 7, h => absurd h (by omega)
  · exact match a, ha with
    | 0, _ => f_11_0
    | 1, _ => f_11_1
    | 2, _ => f_11_2
    | 3, _ => f_11_3
    | 4, _ => f_11_4
    | 5, _ => f_11_5
    | 6, _ => f_11_6
    | 7, _ => f_11_7
    | 8, _ => f_11_8
    | 9, _ => f_11_9
    | 10, _ => f_11_10
    | n + 11, h => absurd h (by omega)
  · exact match a, ha with
    | 0, _ => f_13_0
    | 1, _ => f_13_1
    | 2, _ => f_13_2
    | 3, _ => f_13_3
    | 4, _ => f_13_4
    | 5, _ => f_13_5
    | 6, _ => f_13_6
    | 7, _ => f_13_7
    | 8, _ => f_13_8
    | 9, _ => f_13_9
    | 10, _ => f_13_10
    | 11, _ => f_13_11
    | 12, _ => f_13_12
    | n + 13, h => absurd h (by omega)
  · exact match a, ha with
    | 0, _ => f_17_0
    | 1, _ => f_17_1
    | 2, _ => f_17_2
    | 3, _ => f_17_3
    | 4, _ => f_17_4
    | 5, _ => f_17_5
    | 6, _ => f_17_6
    | 7, _ => f_17_7
    | 8, _ => f_17_8
    | 9, _ => f_17_9
    | 10, _ => f_17_10
    | 11, _ => f_17_11
    | 12, _ => f_17_12
    | 13, _ => f_17_13
    | 14, _ => f_17_14
    | 15, _ => f_17_15
    | 16, _ => f_17_16
    | n + 17, h => absurd h (by omega)
theorem all_g {p : Nat} (hp : p ∈ PR) {a : Nat} (ha : a < p) : ∃ r, okG p a r = true := by
  simp only [PR, List.mem_cons, List.not_mem_nil, or_false] at hp
  rcases hp with rfl | rfl | rfl | rfl | rfl
  · exact match a, ha with
    | 0, _ => ⟨_, g_5_0⟩
    | 1, _ => ⟨_, g_5_1⟩
    | 2, _ => ⟨_, g_5_2⟩
    | 3, _ => ⟨_, g_5_3⟩
    | 4, _ => ⟨_, g_5_4⟩
    | n + 5, h => absurd h (by omega)
  · exact match a, ha with
    | 0, _ => ⟨_, g_7_0⟩
    | 1, _ => ⟨_, g_7_1⟩
    | 2, _ => ⟨_, g_7_2⟩
    | 3, _ => ⟨_, g_7_3⟩
    | 4, _ => ⟨_, g_7_4⟩
    | 5, _ => ⟨_, g_7_5⟩
    | 6, _ => ⟨_, g_7_6⟩
    | n + 7, h => absurd h (by omega)
  · exact match a, ha with
    | 0, _ => ⟨_, g_11_0⟩
    | 1, _ => ⟨_, g_11_1⟩
    | 2, _ => ⟨_, g_11_2⟩
    | 3, _ => ⟨_, g_11_3⟩
    | 4, _ => ⟨_, g_11_4⟩
    | 5, _ => ⟨_, g_11_5⟩
    | 6, _ => ⟨_, g_11_6⟩
    | 7, _ => ⟨_, g_11_7⟩
    | 8, _ => ⟨_, g_11_8⟩
    | 9, _ => ⟨_, g_11_9⟩
    | 10, _ => ⟨_, g_11_10⟩
    | n + 11, h => absurd h (by omega)
  · exact match a, ha with
    | 0, _ => ⟨_, g_13_0⟩
    | 1, _ => ⟨_, g_13_1⟩
    | 2, _ => ⟨_, g_13_2⟩
    | 3, _ => ⟨_, g_13_3⟩
    | 4, _ => ⟨_, g_13_4⟩
    | 5, _ => ⟨_, g_13_5⟩
    | 6, _ => ⟨_, g_13_6⟩
    | 7, _ => ⟨_, g_13_7⟩
    | 8, _ => ⟨_, g_13_8⟩
    | 9, _ => ⟨_, g_13_9⟩
    | 10, _ => ⟨_, g_13_10⟩
    | 11, _ => ⟨_, g_13_11⟩
    | 12, _ => ⟨_, g_13_12⟩
    | n + 13, h => absurd h (by omega)
  · exact match a, ha with
    | 0, _ => ⟨_, g_17_0⟩
    | 1, _ => ⟨_, g_17_1⟩
    | 2, _ => ⟨_, g_17_2⟩
    | 3, _ => ⟨_, g_17_3⟩
    | 4, _ => ⟨_, g_17_4⟩
    | 5, _ => ⟨_, g_17_5⟩
    | 6, _ => ⟨_, g_17_6⟩
    | 7, _ => ⟨_, g_17_7⟩
    | 8, _ => ⟨_, g_17_8⟩
    | 9, _ => ⟨_, g_17_9⟩
    | 10, _ => ⟨_, g_17_10⟩
    | 11, _ => ⟨_, g_17_11⟩
    | 12, _ => ⟨_, g_17_12⟩
    | 13, _ => ⟨_, g_17_13⟩
    | 14, _ => ⟨_, g_17_14⟩
    | 15, _ => ⟨_, g_17_15⟩
    | 16, _ => ⟨_, g_17_16⟩
    | n + 17, h => absurd h (by omega)
end K85

set_option Elab.async false
set_option linter.all false
set_option autoImplicit false
set_option maxRecDepth 100000
set_option maxHeartbeats 1000000
namespace K85
open PySem PySem.Spec PyProof.Rows L2 DL
/-- a curve of the prime -/
def Cv (p : Nat) (c : Int × Int) : Prop := ∃ A B : Nat, c = cc A B ∧ A < p ∧ B < p ∧ disc p A B ≠ 0
theorem cv_of {p : Nat} {c : Int × Int} (h : okI p c = true) : Cv p c := by
  unfold okI at h
  simp only [Bool.and_eq_true, decide_eq_true_eq, Bool.not_eq_true', beq_eq_false_iff_ne] at h
  obtain ⟨h1, h2, h3, h4, h5⟩ := h
  refine ⟨c.1.toNat, c.2.toNat, ?_, by omega, by omega, h5⟩
  obtain ⟨x, y⟩ := c
  show (x, y) = (((x.toNat : Nat) : Int), ((y.toNat : Nat) : Int))
  rw [Int.toNat_of_nonneg h1, Int.toNat_of_nonneg h3]
structure CF (l : Int × Int → Int × Int) (sh : Int × Int → Int) (p : Nat) (c : Int × Int) where
  al : List (Int × Int)
  alE : alO p c = some al
  mn : minO (e2 eI eI) al = some (l c)
  all : ∀ d ∈ al, l d = l c ∧ sh d = sh c ∧ okI p d = true
  y : List Int
  u : Int
  fu : fuO p c (l c) = some y
  yu : atI y 0 = some u
  form : t_curve_form (p : Int) c = some (l c, u)
  y2 : List Int
  fu2 : fuO p c c = some y2
  keep : t_curve_keepers (p : Int) c = some y2
  shape : t_shape_number (p : Int) c = some (sh c)
  over : t__law_over (p : Int) (6912 * c.1 * c.1 * c.1) (4 * c.1 * c.1 * c.1 + 27 * c.2 * c.2) = some (sh c)
theorem cf_of {l : Int × Int → Int × Int} {sh : Int × Int → Int} {p : Nat} {c : Int × Int} (h : ckF l sh p c = true) : Nonempty (CF l sh p c) := by
  unfold ckF at h
  obtain ⟨al, hal, h⟩ := anO_inv h
  rw [Bool.and_eq_true, Bool.and_eq_true, Bool.and_eq_true, Bool.and_eq_true, Bool.and_eq_true] at h
  obtain ⟨h1, h2, h3, h4, h5, h6⟩ := h
  obtain ⟨m, hm, h1⟩ := anO_inv h1
  obtain ⟨y, hy, h3⟩ := anO_inv h3
  obtain ⟨u, hu, h3⟩ := anO_inv h3
  obtain ⟨r, hr, h3⟩ := anO_inv h3
  obtain ⟨y2, hy2, h4⟩ := anO_inv h4
  obtain ⟨r2, hr2, h4⟩ := anO_inv h4
  obtain ⟨s, hs, h5⟩ := anO_inv h5
  obtain ⟨s2, hs2, h6⟩ := anO_inv h6
  rw [eqE_iff.mp h1] at hm
  rw [eqE_iff.mp h3] at hr
  rw [eqE_iff.mp h4] at hr2
  rw [of_decide_eq_true h5] at hs
  rw [of_decide_eq_true h6] at hs2
  refine ⟨⟨al, hal, hm, fun d hd => ?_, y, u, hy, hu, hr, y2, hy2, hr2, hs, hs2⟩⟩
  have h7 := List.all_eq_true.mp h2 d hd
  rw [Bool.and_eq_true, Bool.and_eq_true] at h7
  exact ⟨eqE_iff.mp h7.1, of_decide_eq_true h7.2.1, h7.2.2⟩
theorem cf {p : Nat} (hp : p ∈ PR) {c : Int × Int} (h : Cv p c) : Nonempty (CF (lst p) (shp p) p c) := by
  obtain ⟨A, B, rfl, hA, hB, hd⟩ := h
  have h1 := List.all_eq_true.mp (all_f hp hA) B (List.mem_range.mpr hB)
  rw [beq_eq_false_iff_ne.mpr hd, Bool.false_or] at h1
  exact cf_of h1
theorem grp {p A B : Nat} (hp : p ∈ PR) (hA : A < p) (hB : B < p) (hd : disc p A B ≠ 0) : Nonempty (Grp p A B) := by
  obtain ⟨r, hr⟩ := all_g hp hA
  obtain ⟨n1, n2, C, hc⟩ := okG_at hr hB hd
  have := pr_le hp
  exact grp_of (by omega) (by omega) hc
theorem iscurve {p A B : Nat} (h0 : 0 < p) (h1 : p ≤ 1000) (hA : A < p) (hB : B < p) : t__law_is_curve (p : Int) (cc A B) = some (!(disc p A B == 0)) := by
  have h0' : (0 : Int) < (p : Int) := by omega
  have hA' : fits (A : Int) := fits_of (by omega) (by omega)
  have hB' : fits (B : Int) := fits_of (by omega) (by omega)
  unfold t__law_is_curve
  refine (be (mulO_r _ hA')).trans ((be (mulO_r _ hA')).trans ((be (mulO_r _ hB')).trans ((be (modO_p _ h0')).trans ?_)))
  have e : (4 * (A : Int) * A * A + 27 * (B : Int) * B) % (p : Int) = ((disc p A B : Nat) : Int) := by
    unfold disc
    rw [Int.natCast_emod, Int.natCast_add, Int.natCast_mul, Int.natCast_mul, Int.natCast_mul, Int.natCast_mul, Int.natCast_mul]
    rfl
  show some (!decide ((4 * (A : Int) * A * A + 27 * (B : Int) * B) % (p : Int) = 0)) = _
  rw [e]
  congr 2
  exact Bool.eq_iff_iff.mpr (by rw [decide_eq_true_eq, beq_iff_eq]; exact Int.natCast_eq_zero)
theorem disc01 {p : Nat} (hp : p ∈ PR) : disc p 0 1 ≠ 0 := by
  simp only [PR, List.mem_cons, List.not_mem_nil, or_false] at hp
  rcases hp with rfl | rfl | rfl | rfl | rfl <;> decide
theorem ext {α : Type} {x : Option α} {f : α → Option Bool} {v : α} (h : x = some v) (k : f v = some true) : x.bind f = some true := (be h).trans k
theorem exi {c : Bool} {x y : Option Bool} (h : c = false) (k : y = some true) : (if c = true then x else y) = some true := by
  rw [if_neg (by rw [h]; decide)]
  exact k
section
variable {p : Nat} (hp : p ∈ PR)
/-- what the law asks of a curve, its points being right -/
theorem law_rest (hp : p ∈ PR) {c : Int × Int} (hc : Cv p c) (ds : List Int) (n : Nat) (hpo : ∀ A B : Nat, A < p → B < p → t_points_of (p : Int) (cc A B) = some (pO p A B)) : ((t__law_points_right ds n (p : Int) c).bind fun v17 =>
if (!v17.1) = true then (some false) else ((rngO2 1 (p : Int)).bind fun r20 =>
(szO (mapO (fun (x21 : Int) => (t__law_turned (p : Int) c x21).bind fun v22 => some v22) r20)).bind fun y23 =>
(minO (e2 eI eI) y23).bind fun v24 =>
(pickO ds v17.2 y23).bind fun v25 =>
forB (fun (x29 : (Int × Int)) (s26 : Unit) => (t_curve_form (p : Int) x29).bind fun v30 =>
(t__law_plain 4 ((e2 (e2 eI eI) eI) v30)).bind fun v31 =>
((if (!v31) = true then some true else ((rngO2 1 (p : Int)).bind fun r33 => (szO (lcO (fun (x34 : Int) => (t__law_turned (p : Int) x29 x34).bind fun v35 => if (eqE (e2 eI eI) v35 v24) = true then (some (some x34)) else some none) r33)).bind fun y36 => (atI y36 0).bind fun v37 => some (!eqE (e2 (e2 eI eI) eI) v30 (v24, v37))))).bind fun v38 =>
if v38 = true then (some (.rt false)) else (some (.nx ()))) [c, v25.1] () (fun (s41 : Unit) => (t_curve_keepers (p : Int) c).bind fun v44 =>
(t__law_plain 4 ((eT eI) v44)).bind fun v45 =>
((if (!v45) = true then some true else ((rngO2 1 (p : Int)).bind fun r47 => (szO (lcO (fun (x48 : Int) => (t__law_turned (p : Int) c x48).bind fun v49 => if (eqE (e2 eI eI) v49 c) = true then (some (some x48)) else some none) r47)).bind fun y50 => some (!eqE (eT eI) v44 y50)))).bind fun v51 =>
if v51 = true then (some false) else ((t_shape_number (p : Int) c).bind fun v54 =>
(t__law_plain 4 (eI v54)).bind fun v55 =>
((if (!v55) = true then some true else ((mulO (6912 * c.1) c.1).bind fun v56 => (mulO v56 c.1).bind fun v57 => (mulO (4 * c.1) c.1).bind fun v58 => (mulO v58 c.1).bind fun v59 => (mulO (27 * c.2) c.2).bind fun v60 => (t__law_over (p : Int) v57 (v59 + v60)).bind fun v61 => ((if (!decide (v54 = v61)) = true then some true else ((t_shape_number (p : Int) v25.1).bind fun v62 => some (!decide (v62 = v54))))).bind fun v63 => some v63))).bind fun v65 =>
if v65 = true then (some false) else (if (decide ((p : Int) < 14)) = true then ((t__law_forms (p : Int)).bind fun v69 =>
(t_all_curves (p : Int)).bind fun v70 =>
(t__law_plain 4 ((eT (e2 eI eI)) v70)).bind fun v71 =>
((if (!v71) = true then some true else (((if (!eqE (eL (e2 eI eI)) v70 v69.1) = true then some true else ((mulO (p : Int) (p : Int)).bind fun v72 => some (!decide (v69.2 = (v72 - (p : Int))))))).bind fun v73 => some v73))).bind fun v75 =>
if v75 = true then (some false) else ((szO (mapO (fun (x79 : (Int × Int)) => (t_curve_keepers (p : Int) x79).bind fun v80 => (divO ((p : Int) - 1) (List.length v80 : Int)).bind fun v81 => some v81) v70)).bind fun y82 =>
(mulO (p : Int) (p : Int)).bind fun v83 =>
if (!decide ((List.sum y82) = (v83 - (p : Int)))) = true then (some false) else (some true))) else (some true)))) (fun x => some x))) = some true := by
  have hl := pr_le hp
  obtain ⟨C⟩ := cf hp hc
  obtain ⟨A, B, hcc, hA, hB, hd⟩ := hc
  obtain ⟨Gp⟩ := grp hp hA hB hd
  obtain ⟨n', hr⟩ := right_ok hp hA Gp (hpo A B hA hB) ds n
  rw [← hcc] at hr
  have hrng := rngO2_eq (n := p) (by omega)
  have hne : C.al ≠ [] := fun h => by
    have := C.mn
    rw [h] at this
    cases this
  obtain ⟨d, hdm, hpick⟩ := pick_ex (ds := ds) (n := n') hne
  obtain ⟨D⟩ := cf hp (cv_of (C.all d hdm).2.2)
  refine ext hr ?_
  refine exi rfl ?_
  refine ext hrng ?_
  refine ext C.alE ?_
  refine ext C.mn ?_
  refine ext hpick ?_
  refine (forB_of (s' := ()) ?_).trans ?_
  · have one : ∀ e : Int × Int, lst p e = lst p c → CF (lst p) (shp p) p e → ((t_curve_form (p : Int) e).bind fun v30 => (t__law_plain 4 ((e2 (e2 eI eI) eI) v30)).bind fun v31 =>
        ((if (!v31) = true then some true else ((rngO2 1 (p : Int)).bind fun r33 => (szO (lcO (fun (x34 : Int) => (t__law_turned (p : Int) e x34).bind fun v35 => if (eqE (e2 eI eI) v35 (lst p c)) = true then (some (some x34)) else some none) r33)).bind fun y36 => (atI y36 0).bind fun v37 => some (!eqE (e2 (e2 eI eI) eI) v30 (lst p c, v37))))).bind fun v38 =>
        if v38 = true then (some (Fo.rt false)) else (some (Fo.nx ()))) = some (Fo.nx () : Fo Unit Bool) := fun e he E => by
      refine (be E.form).trans ((be (pl_form _)).trans ((be (v := false) (told (e := e2 (e2 eI eI) eI) (a := (lst p e, E.u)) (b := (lst p c, E.u)) (by rw [he]) ?_)).trans rfl))
      have hf := E.fu
      rw [he] at hf
      rw [he]
      exact (be hrng).trans ((be hf).trans (be E.yu))
    refine Eq.trans (for_go (s1 := ()) ?_) (Eq.trans (for_go (s1 := ()) ?_) ?_)
    · exact one c rfl C
    · exact one d (C.all d hdm).1 D
    · rfl
  refine ext C.keep (ext (pl_ints _) (ext (v := false) (told (e := eT eI) rfl ((be hrng).trans (be C.fu2))) (exi rfl ?_)))
  have hc1 : fits c.1 := by rw [hcc]; exact fits_of (by show -1000000000000 ≤ (A : Int); omega) (by show (A : Int) ≤ _; omega)
  have hc2 : fits c.2 := by rw [hcc]; exact fits_of (by show -1000000000000 ≤ (B : Int); omega) (by show (B : Int) ≤ _; omega)
  refine ext C.shape (ext (pl_int _) (ext (v := false) ?_ (exi rfl ?_)))
  · rw [if_neg (by decide)]
    refine (be (mulO_r _ hc1)).trans ((be (mulO_r _ hc1)).trans ((be (mulO_r _ hc1)).trans ((be (mulO_r _ hc1)).trans ((be (mulO_r _ hc2)).trans ((be C.over).trans ((be (v := false) ?_).trans rfl))))))
    rw [if_neg (by simp)]
    refine (be D.shape).trans ?_
    rw [(C.all d hdm).2.1]
    simp
  by_cases h14 : (p : Int) < 14
  · rw [if_pos (decide_eq_true h14)]
    have hw : ckP p = true := by
      simp only [PR, List.mem_cons, List.not_mem_nil, or_false] at hp
      rcases hp with rfl | rfl | rfl | rfl | rfl
      · exact w_5
      · exact w_7
      · exact w_11
      · exact w_13
      · omega
    unfold ckP at hw
    obtain ⟨r, hr, hw⟩ := anO_inv hw
    rw [Bool.and_eq_true] at hw
    obtain ⟨w1, hw⟩ := hw
    have w1 := of_decide_eq_true w1
    obtain ⟨fs, hfs, hw⟩ := anO_inv hw
    rw [Bool.and_eq_true] at hw
    obtain ⟨w2, hw⟩ := hw
    obtain ⟨ys, hys, w3⟩ := anO_inv hw
    have w3 := of_decide_eq_true w3
    have hpp : mulO (p : Int) (p : Int) = some ((p : Int) * (p : Int)) := mulO_r _ (fits_of (by omega) (by omega))
    refine ext hr (ext hfs (ext (pl_curves _) (ext (v := false) ?_ (exi rfl (ext hys (ext hpp (exi (by rw [w3]; simp) rfl)))))))
    rw [if_neg (by decide)]
    refine (be (v := false) ?_).trans rfl
    rw [if_neg (by rw [w2]; decide)]
    refine (be hpp).trans ?_
    rw [w1]
    simp
  · rw [if_neg (by rw [decide_eq_true_eq]; exact h14)]
end
theorem law_true (hpo : ∀ p, p ∈ PR → ∀ A B : Nat, A < p → B < p → t_points_of (p : Int) (cc A B) = some (pO p A B)) (ds xs : List Int) : t_law ds xs = some true := by
  unfold t_law
  obtain ⟨v, hv, e1⟩ := pick_ex (ds := ds) (n := 0) (xs := ([5, 7, 7, 11, 13, 17] : List Int)) (by simp)
  refine ext e1 ?_
  obtain ⟨p, hp, rfl⟩ : ∃ p : Nat, p ∈ PR ∧ (p : Int) = v := by
    simp only [List.mem_cons, List.not_mem_nil, or_false] at hv
    rcases hv with rfl | rfl | rfl | rfl | rfl | rfl
    · exact ⟨5, by decide, rfl⟩
    · exact ⟨7, by decide, rfl⟩
    · exact ⟨7, by decide, rfl⟩
    · exact ⟨11, by decide, rfl⟩
    · exact ⟨13, by decide, rfl⟩
    · exact ⟨17, by decide, rfl⟩
  have hl := pr_le hp
  have h0' : (0 : Int) < (p : Int) := by omega
  obtain ⟨a, ha0, ha1, e2⟩ := next_ex (ds := ds) (n := 0 + 1) h0'
  obtain ⟨b, hb0, hb1, e3⟩ := next_ex (ds := ds) (n := 0 + 1 + 1) h0'
  refine ext e2 (ext e3 ?_)
  obtain ⟨⟨n, c⟩, e4, A, B, hcAB, hA, hB⟩ := fold_keep (f := fun (x6 : Int) (s4 : (Nat × (Int × Int))) => (t__law_is_curve (p : Int) s4.2).bind fun v7 =>
    if (!v7) = true then ((nextO ds s4.1 (p : Int)).bind fun v9 => (nextO ds v9.2 ((p : Int) - 1)).bind fun v10 => (some (v9.1, (1 + v10.1))).bind fun x11 => some (v10.2, x11)) else (some (s4.1, s4.2)))
    (fun s => ∃ A B : Nat, s.2 = cc A B ∧ A < p ∧ B < p) (rangeI 0 (Int.toNat 9)) (0 + 1 + 1 + 1, (a, b)) ⟨a.toNat, b.toNat, by
      show (a, b) = (((a.toNat : Nat) : Int), ((b.toNat : Nat) : Int))
      rw [Int.toNat_of_nonneg ha0, Int.toNat_of_nonneg hb0], by omega, by omega⟩ (fun x s _ ⟨A, B, hs, hA, hB⟩ => by
      obtain ⟨m, c⟩ := s
      have hs : c = cc A B := hs
      subst hs
      cases hd : (!(disc p A B == 0)) with
      | true => exact ⟨(m, cc A B), (be (iscurve (by omega) (by omega) hA hB)).trans (by rw [hd]; rfl), A, B, rfl, hA, hB⟩
      | false =>
        obtain ⟨a', ha0', ha1', e2'⟩ := next_ex (ds := ds) (n := m) h0'
        obtain ⟨b', hb0', hb1', e3'⟩ := next_ex (ds := ds) (n := m + 1) (m := (p : Int) - 1) (by omega)
        refine ⟨(m + 1 + 1, (a', 1 + b')), (be (iscurve (by omega) (by omega) hA hB)).trans ?_, a'.toNat, (1 + b').toNat, ?_, by omega, by omega⟩
        · rw [hd]
          exact (be e2').trans ((be e3').trans rfl)
        · show (a', 1 + b') = (((a'.toNat : Nat) : Int), (((1 + b').toNat : Nat) : Int))
          rw [Int.toNat_of_nonneg ha0', Int.toNat_of_nonneg (by omega)])
  refine ext e4 ?_
  have hcAB : c = cc A B := hcAB
  subst hcAB
  refine ext (iscurve (by omega) (by omega) hA hB) ?_
  obtain ⟨c, hcv, e5⟩ : ∃ c, Cv p c ∧ (if (!(!(disc p A B == 0))) = true then (some ((0 : Int), (1 : Int))) else (some (cc A B))) = some c := by
    cases hd : (!(disc p A B == 0)) with
    | true => exact ⟨cc A B, ⟨A, B, rfl, hA, hB, by simpa using hd⟩, rfl⟩
    | false => exact ⟨(0, 1), ⟨0, 1, rfl, by omega, by omega, disc01 hp⟩, rfl⟩
  refine ext e5 ?_
  exact law_rest hp hcv ds n (hpo p hp)
end K85

set_option Elab.async false
set_option linter.all false
set_option autoImplicit false
set_option maxRecDepth 100000
set_option maxHeartbeats 1000000
namespace K85
open PySem PySem.Spec PyProof.Rows L2 DL
/-- points_of over all curves of a prime: decided -/
def qO (p A B : Nat) : List (Option (Int × Int)) := none :: (ptsN p A B).map fun q => some ((q.1 : Int), (q.2 : Int))
def ckQ (p A : Nat) : Bool := (List.range p).all fun B => match t_points_of (p : Int) ((A : Int), (B : Int)) with
  | some r => eqE (eT (eO (e2 eI eI))) r (qO p A B)
  | none => false
theorem ckQ_inv {p A B : Nat} (h : ckQ p A = true) (hB : B < p) : t_points_of (p : Int) ((A : Int), (B : Int)) = some (qO p A B) := by
  have h1 := List.all_eq_true.mp h B (List.mem_range.mpr hB)
  cases e : t_points_of (p : Int) ((A : Int), (B : Int)) with
  | none => rw [e] at h1; cases h1
  | some r =>
    rw [e] at h1
    exact congrArg some (eqE_iff.mp h1)
theorem q_5_0 : ckQ 5 0 = true := by decide +kernel
theorem q_5_1 : ckQ 5 1 = true := by decide +kernel
theorem q_5_2 : ckQ 5 2 = true := by decide +kernel
theorem q_5_3 : ckQ 5 3 = true := by decide +kernel
theorem q_5_4 : ckQ 5 4 = true := by decide +kernel
theorem q_7_0 : ckQ 7 0 = true := by decide +kernel
theorem q_7_1 : ckQ 7 1 = true := by decide +kernel
theorem q_7_2 : ckQ 7 2 = true := by decide +kernel
theorem q_7_3 : ckQ 7 3 = true := by decide +kernel
theorem q_7_4 : ckQ 7 4 = true := by decide +kernel
theorem q_7_5 : ckQ 7 5 = true := by decide +kernel
theorem q_7_6 : ckQ 7 6 = true := by decide +kernel
theorem q_11_0 : ckQ 11 0 = true := by decide +kernel
theorem q_11_1 : ckQ 11 1 = true := by decide +kernel
theorem q_11_2 : ckQ 11 2 = true := by decide +kernel
theorem q_11_3 : ckQ 11 3 = true := by decide +kernel
theorem q_11_4 : ckQ 11 4 = true := by decide +kernel
theorem q_11_5 : ckQ 11 5 = true := by decide +kernel
theorem q_11_6 : ckQ 11 6 = true := by decide +kernel
theorem q_11_7 : ckQ 11 7 = true := by decide +kernel
theorem q_11_8 : ckQ 11 8 = true := by decide +kernel
theorem q_11_9 : ckQ 11 9 = true := by decide +kernel
theorem q_11_10 : ckQ 11 10 = true := by decide +kernel
theorem q_13_0 : ckQ 13 0 = true := by decide +kernel
theorem q_13_1 : ckQ 13 1 = true := by decide +kernel
theorem q_13_2 : ckQ 13 2 = true := by decide +kernel
theorem q_13_3 : ckQ 13 3 = true := by decide +kernel
theorem q_13_4 : ckQ 13 4 = true := by decide +kernel
theorem q_13_5 : ckQ 13 5 = true := by decide +kernel
theorem q_13_6 : ckQ 13 6 = true := by decide +kernel
theorem q_13_7 : ckQ 13 7 = true := by decide +kernel
theorem q_13_8 : ckQ 13 8 = true := by decide +kernel
theorem q_13_9 : ckQ 13 9 = true := by decide +kernel
theorem q_13_10 : ckQ 13 10 = true := by decide +kernel
theorem q_13_11 : ckQ 13 11 = true := by decide +kernel
theorem q_13_12 : ckQ 13 12 = true := by decide +kernel
theorem q_17_0 : ckQ 17 0 = true := by decide +kernel
theorem q_17_1 : ckQ 17 1 = true := by decide +kernel
theorem q_17_2 : ckQ 17 2 = true := by decide +kernel
theorem q_17_3 : ckQ 17 3 = true := by decide +kernel
theorem q_17_4 : ckQ 17 4 = true := by decide +kernel
theorem q_17_5 : ckQ 17 5 = true := by decide +kernel
theorem q_17_6 : ckQ 17 6 = true := by decide +kernel
theorem q_17_7 : ckQ 17 7 = true := by decide +kernel
theorem q_17_8 : ckQ 17 8 = true := by decide +kernel
theorem q_17_9 : ckQ 17 9 = true := by decide +kernel
theorem q_17_10 : ckQ 17 10 = true := by decide +kernel
theorem q_17_11 : ckQ 17 11 = true := by decide +kernel
theorem q_17_12 : ckQ 17 12 = true := by decide +kernel
theorem q_17_13 : ckQ 17 13 = true := by decide +kernel
theorem q_17_14 : ckQ 17 14 = true := by decide +kernel
theorem q_17_15 : ckQ 17 15 = true := by decide +kernel
theorem q_17_16 : ckQ 17 16 = true := by decide +kernel
theorem q_5 (a : Nat) (ha : a < 5) : ckQ 5 a = true := match a, ha with
  | 0, _ => q_5_0
  | 1, _ => q_5_1
  | 2, _ => q_5_2
  | 3, _ => q_5_3
  | 4, _ => q_5_4
  | n + 5, h => absurd h (by omega)
theorem q_7 (a : Nat) (ha : a < 7) : ckQ 7 a = true := match a, ha with
  | 0, _ => q_7_0
  | 1, _ => q_7_1
  | 2, _ => q_7_2
  | 3, _ => q_7_3
  | 4, _ => q_7_4
  | 5, _ => q_7_5
  | 6, _ => q_7_6
  | n + 7, h => absurd h (by omega)
theorem q_11 (a : Nat) (ha : a < 11) : ckQ 11 a = true := match a, ha with
  | 0, _ => q_11_0
  | 1, _ => q_11_1
  | 2, _ => q_11_2
  | 3, _ => q_11_3
  | 4, _ => q_11_4
  | 5, _ => q_11_5
  | 6, _ => q_11_6
  | 7, _ => q_11_7
  | 8, _ => q_11_8
  | 9, _ => q_11_9
  | 10, _ => q_11_10
  | n + 11, h => absurd h (by omega)
theorem q_13 (a : Nat) (ha : a < 13) : ckQ 13 a = true := match a, ha with
  | 0, _ => q_13_0
  | 1, _ => q_13_1
  | 2, _ => q_13_2
  | 3, _ => q_13_3
  | 4, _ => q_13_4
  | 5, _ => q_13_5
  | 6, _ => q_13_6
  | 7, _ => q_13_7
  | 8, _ => q_13_8
  | 9, _ => q_13_9
  | 10, _ => q_13_10
  | 11, _ => q_13_11
  | 12, _ => q_13_12
  | n + 13, h => absurd h (by omega)
theorem q_17 (a : Nat) (ha : a < 17) : ckQ 17 a = true := match a, ha with
  | 0, _ => q_17_0
  | 1, _ => q_17_1
  | 2, _ => q_17_2
  | 3, _ => q_17_3
  | 4, _ => q_17_4
  | 5, _ => q_17_5
  | 6, _ => q_17_6
  | 7, _ => q_17_7
  | 8, _ => q_17_8
  | 9, _ => q_17_9
  | 10, _ => q_17_10
  | 11, _ => q_17_11
  | 12, _ => q_17_12
  | 13, _ => q_17_13
  | 14, _ => q_17_14
  | 15, _ => q_17_15
  | 16, _ => q_17_16
  | n + 17, h => absurd h (by omega)
end K85

set_option Elab.async false
set_option linter.all false
set_option autoImplicit false
set_option maxRecDepth 100000
set_option maxHeartbeats 1000000
namespace K85
open PySem PySem.Spec PyProof.Rows L2 DL
theorem hpo (p : Nat) (hp : p ∈ PR) (A B : Nat) (hA : A < p) (hB : B < p) : t_points_of (p : Int) (cc A B) = some (pO p A B) := by
  simp only [PR, List.mem_cons, List.not_mem_nil, or_false] at hp
  rcases hp with rfl | rfl | rfl | rfl | rfl
  · exact ckQ_inv (q_5 A hA) hB
  · exact ckQ_inv (q_7 A hA) hB
  · exact ckQ_inv (q_11 A hA) hB
  · exact ckQ_inv (q_13 A hA) hB
  · exact ckQ_inv (q_17 A hA) hB
theorem wanted : ∀ ns : List Int, ns.length ≤ 63 → ∃ as', F_law [.sh (.list (ns.map PyData.int))] = some (.sh (.bool true), as') := by
  intro ns hl
  obtain ⟨ds, _, hd⟩ := draws_ok ns hl 400 (by decide)
  exact ⟨_, sim_law ds hd (law_true hpo ds ns)⟩
end K85
open PySem PySem.W PySem.Calls PyProof.Rows
theorem PySem.Challenge.cw_turnwarrant_k85_whole_curves_modulo_prim_holds : PySem.Challenge.rw_turnwarrant_k85_whole_curves_modulo_prim.Holds := by
  w_on; o_law
  refine HandSHeadRun.head_any (r := OpenLaw.row PySem.Challenge.rw_turnwarrant_k85_whole_curves_modulo_prim) (q := view (OpenLaw.row PySem.Challenge.rw_turnwarrant_k85_whole_curves_modulo_prim).prog [26]) (H := K85.hk) (ob := K85.ob) (M := 1680) (loose := K85.loose) (d := HandSHeadRun.topDef (OpenLaw.row PySem.Challenge.rw_turnwarrant_k85_whole_curves_modulo_prim).prog 26) (kwd := []) K85.ob_eq
    (by kernel_rfl) (fun s => by kernel_rfl) K85.run (by kernel_rfl) (by kernel_rfl) (by kernel_rfl) (by rfl) (by first | assumption | decide +kernel) (by decide +kernel) ⟨rfl, rfl, rfl, rfl, rfl, by decide +kernel⟩ ?hw ?hc
  case hw => w_witness2
  case hc =>
    refine L2.walk_ofE (l := PySem.Challenge.rw_turnwarrant_k85_whole_curves_modulo_prim) (n := 63) (k := 7) (x := "script") (CX := L2.CX0) rfl (by decide) (by kernel_rfl) ⟨rfl, by decide, by decide⟩ ?F (fun _ _ _ _ z => z)
    intro w mg fa h Y G hmg0
    obtain ⟨K, KX, c⟩ := Y
    have hmg : mg ("law" : PySem.Str) = some (.ref fa) := by
      have e : (HandSHeadRun.topDef (OpenLaw.row PySem.Challenge.rw_turnwarrant_k85_whole_curves_modulo_prim).prog 26).name = ("law" : PySem.Str) := by kernel_rfl
      rw [← e]
      exact hmg0
    obtain ⟨fd, hb, hF⟩ := K85.facts (P := (PySem.Challenge.rw_turnwarrant_k85_whole_curves_modulo_prim).prog) (w := w) KX G hmg c
    exact ⟨K, fd, DL.spD K 1 K85.F_law, KX, hb, fun H a ns hl _ hS => DL.law_end hS (K85.wanted ns hl), hF⟩

