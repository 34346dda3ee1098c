import PyProof.Rows.All
import HandS.ForMost
import HandS.IsInst
import HandS.Conv
import HandS.Style
import HandS.Flow
import HandS.SortInts
import HandS.Rev
import HandS.TupAny
import HandS.TupMul
import HandS.Deep
import HandS.Zip
import KE.SortData
import KE.DataMinMax
import KE.KTupSum
import KE.KRevSl
import HandS.Head0
import HandS.Head1
import HandS.Head2
import HandS.HeadEnd
import HandS.HeadHook1
import HandS.HeadHook2
import Wide.All
import OpenK.AllK
import Wide.FinOn
import KE.KStateDown
import Lean
import PySem.Challenge.RW_turnwarrant_k93_links_of_two_bridges
set_option Elab.async false
set_option linter.all false
set_option autoImplicit false
set_option maxRecDepth 100000
/-! DL: a layer of plain data over HandS. A def's body is read as a function of slots: each slot holds nothing, shared data (PyData, never changed again) or an owned object. -/
namespace DL
open PySem PySem.Spec PyProof.Rows L2

abbrev Dv := PyData
inductive Ob where
  | lst (xs : List Dv)
  | dct (kvs : List (Dv × Dv))
inductive Sl where
  | no | sh (d : Dv) | ow (o : Ob)
inductive Rv where
  | sh (d : Dv) | ow (o : Ob) | al (i : Nat)
abbrev Rho := List Sl
abbrev M := Rho → Option (Rv × Rho)
abbrev MB := Rho → Option (Bool × Rho)
inductive Fl where
  | nx (ρ : Rho) | rt (r : Rv) (ρ : Rho) | bk (ρ : Rho) | ct (ρ : Rho)
abbrev MS := Rho → Option Fl

/-! ### heaps -/
def Sub (G G' : Hp) : Prop := ∀ a u, Rd G a u → Rd G' a u
theorem Sub.refl (G : Hp) : Sub G G := fun _ _ h => h
theorem Sub.trans {G G1 G2 : Hp} (a : Sub G G1) (b : Sub G1 G2) : Sub G G2 := fun c u h => b c u (a c u h)
theorem sub_upd {G : Hp} {p : Addr} {o : HO} (h : G p = none) : Sub G (upd G p o) := fun a u r => by
  have n : a ≠ p := fun e => by
    subst e
    rcases r with r | ⟨_, r⟩ <;> (rw [h] at r; cases r)
  unfold Rd
  rw [upd_ne n]
  exact r
theorem sub_le {G H : Hp} (h : ∀ a o, G a = some o → H a = some o) : Sub G H := fun a u r => by
  rcases r with r | ⟨o, r⟩
  · exact .inl (h a u r)
  · exact .inr ⟨o, h a _ r⟩
section
variable {K : PySem.W.Frag} {G G' : Hp}
theorem Sub.sqL {a : Addr} {xs : List V} (s : Sub G G') (h : SqL K G a xs) : SqL K G' a xs := h.elim (fun r => .inl (s _ _ r)) .inr
theorem Sub.sqT {a : Addr} {xs : List V} (s : Sub G G') (h : SqT K G a xs) : SqT K G' a xs := h.elim (fun r => .inl (s _ _ r)) .inr
mutual
theorem dp_mono (s : Sub G G') : ∀ (d : PyData) (v : V), Dp K G v d → Dp K G' v d
  | .none, _, h => by cases h; exact .non
  | .bool b, _, h => by cases h; exact .bl b
  | .int i, _, h => by cases h; exact .int i
  | .str x, _, h => by cases h; exact .str x
  | .list ds, _, h => by
    cases h with
    | lst hs ha => exact .lst (s.sqL hs) (dpAll_mono s ds _ ha)
  | .tuple ds, _, h => by
    cases h with
    | tup hs ha => exact .tup (s.sqT hs) (dpAll_mono s ds _ ha)
  | .dict _, _, h => by cases h
theorem dpAll_mono (s : Sub G G') : ∀ (ds : List PyData) (vs : List V), DpAll K G vs ds → DpAll K G' vs ds
  | [], _, h => by cases h; exact .nil
  | d :: ds, _, h => by
    cases h with
    | cons h1 h2 => exact .cons (dp_mono s d _ h1) (dpAll_mono s ds _ h2)
end
theorem dpAll_length : ∀ {ds : List PyData} {vs : List V}, DpAll K G vs ds → vs.length = ds.length
  | [], _, h => by cases h; rfl
  | d :: ds, _, h => by
    cases h with
    | cons h1 h2 => simp [dpAll_length h2]
theorem dpAll_get : ∀ {ds : List PyData} {vs : List V} {i : Nat} {d : PyData}, DpAll K G vs ds → ds[i]? = some d → ∃ v, vs[i]? = some v ∧ Dp K G v d
  | [], _, i, d, h, e => by simp at e
  | d0 :: ds, _, 0, d, h, e => by
    cases h with
    | cons h1 h2 =>
      simp at e
      subst e
      exact ⟨_, rfl, h1⟩
  | d0 :: ds, _, i + 1, d, h, e => by
    cases h with
    | cons h1 h2 =>
      simp at e
      obtain ⟨v, h3, h4⟩ := dpAll_get h2 e
      exact ⟨v, by simpa using h3, h4⟩
theorem dpAll_append : ∀ {ds es : List PyData} {vs ws : List V}, DpAll K G vs ds → DpAll K G ws es → DpAll K G (vs ++ ws) (ds ++ es)
  | [], _, _, _, h, k => by cases h; exact k
  | d :: ds, _, _, _, h, k => by
    cases h with
    | cons h1 h2 => exact .cons h1 (dpAll_append h2 k)
theorem dpAll_take : ∀ {ds : List PyData} {vs : List V} (n : Nat), DpAll K G vs ds → DpAll K G (vs.take n) (ds.take n)
  | _, _, 0, h => by simp; exact .nil
  | [], _, n + 1, h => by cases h; exact .nil
  | d :: ds, _, n + 1, h => by
    cases h with
    | cons h1 h2 => exact .cons h1 (dpAll_take n h2)
theorem dpAll_drop : ∀ {ds : List PyData} {vs : List V} (n : Nat), DpAll K G vs ds → DpAll K G (vs.drop n) (ds.drop n)
  | _, _, 0, h => by simpa using h
  | [], _, n + 1, h => by cases h; exact .nil
  | d :: ds, _, n + 1, h => by
    cases h with
    | cons h1 h2 => exact dpAll_drop n h2
theorem dpAll_set {d : PyData} {v : V} (q : Dp K G v d) : ∀ {ds : List PyData} {vs : List V} (n : Nat), DpAll K G vs ds → DpAll K G (vs.set n v) (ds.set n d)
  | [], _, n, h => by cases h; simp; exact .nil
  | d0 :: ds, _, 0, h => by
    cases h with
    | cons h1 h2 => exact .cons q h2
  | d0 :: ds, _, n + 1, h => by
    cases h with
    | cons h1 h2 => exact .cons h1 (dpAll_set q n h2)
theorem dpAll_reverse : ∀ {ds : List PyData} {vs : List V}, DpAll K G vs ds → DpAll K G vs.reverse ds.reverse
  | [], _, h => by cases h; exact .nil
  | d :: ds, _, h => by
    cases h with
    | cons h1 h2 =>
      simp only [List.reverse_cons]
      exact dpAll_append (dpAll_reverse h2) (.cons h1 .nil)
theorem dpAll_ints : ∀ ns : List Int, DpAll K G (ns.map V.int) (ns.map PyData.int)
  | [] => .nil
  | n :: ns => .cons (.int n) (dpAll_ints ns)
theorem ints_of_dpAll : ∀ {ns : List Int} {vs : List V}, DpAll K G vs (ns.map PyData.int) → vs = ns.map V.int
  | [], _, h => by cases h; rfl
  | n :: ns, _, h => by
    cases h with
    | cons h1 h2 =>
      cases h1
      rw [ints_of_dpAll h2]
      rfl
end

/-! ### what owned objects hold -/
def keyD : Key → Dv
  | .inl i => .int i
  | .inr x => .str x
inductive DKV (K : PySem.W.Frag) (G : Hp) : List (Key × V) → List (Dv × Dv) → Prop
  | nil : DKV K G [] []
  | cons {k : Key} {v : V} {d : Dv} {r : List (Key × V)} {s : List (Dv × Dv)} : Dp K G v d → DKV K G r s → DKV K G ((k, v) :: r) ((keyD k, d) :: s)
theorem DKV.mono {K : PySem.W.Frag} {G G' : Hp} (s : Sub G G') : ∀ {kvs : List (Key × V)} {ds : List (Dv × Dv)}, DKV K G kvs ds → DKV K G' kvs ds
  | _, _, .nil => .nil
  | _, _, .cons h t => .cons (dp_mono s _ _ h) (DKV.mono s t)
def Ct (K : PySem.W.Frag) (G H : Hp) (a : Addr) : Ob → Prop
  | .lst ds => ∃ vs, H a = some (.lst vs) ∧ DpAll K G vs ds
  | .dct kvs => ∃ ks, H a = some (.dK ks) ∧ DKV K G ks kvs
theorem Ct.mono {K : PySem.W.Frag} {G G' H H' : Hp} {a : Addr} {o : Ob} (c : Ct K G H a o) (s : Sub G G') (h : H' a = H a) : Ct K G' H' a o := by
  cases o with
  | lst ds => obtain ⟨vs, e, q⟩ := c; exact ⟨vs, h.trans e, dpAll_mono s _ _ q⟩
  | dct kvs => obtain ⟨vs, e, q⟩ := c; exact ⟨vs, h.trans e, q.mono s⟩
theorem Ct.some {K : PySem.W.Frag} {G H : Hp} {a : Addr} {o : Ob} (c : Ct K G H a o) : ∃ u, H a = some u := by
  cases o with
  | lst ds => obtain ⟨vs, e, q⟩ := c; exact ⟨_, e⟩
  | dct kvs => obtain ⟨vs, e, q⟩ := c; exact ⟨_, e⟩

/-- a slot -/
def SlOk (K : PySem.W.Frag) (Fr G H : Hp) : Sl → Option (Option V) → Prop
  | .no, _ => True
  | .sh d, ov => ∃ v, ov = some (some v) ∧ Dp K G v d
  | .ow o, ov => ∃ a, ov = some (some (.ref a)) ∧ G a = none ∧ Fr a = none ∧ Ct K G H a o
structure RS (K : PySem.W.Frag) (ix : List Nat) (Fr : Hp) (FX : Nat → Option V) (G : Hp) (ρ : Rho) (σ : L2.St) (H : Hp) : Prop where
  gh : ∀ a o, G a = some o → H a = some o
  fh : ∀ a o, Fr a = some o → H a = some o
  gf : ∀ a, Fr a ≠ none → G a = none
  len : ρ.length = σ.length
  sl : ∀ (i : Nat) (s : Sl), ρ[i]? = some s → SlOk K Fr G H s σ[i]?
  sep : ∀ (i j : Nat) (a : Addr) (o o' : Ob), i ≠ j → ρ[i]? = some (.ow o) → ρ[j]? = some (.ow o') → σ[i]? = some (some (.ref a)) → σ[j]? ≠ some (some (.ref a))
  fx : ∀ (i : Nat) (v : V), FX i = some v → i ∈ ix ∧ σ[i]? = some (some v)
def VOk (K : PySem.W.Frag) (Fr G H : Hp) (ρ : Rho) (σ : L2.St) : Rv → V → Prop
  | .sh d, v => Dp K G v d
  | .ow o, v => ∃ a, v = .ref a ∧ G a = none ∧ Fr a = none ∧ Ct K G H a o ∧ ∀ (i : Nat) (o' : Ob), ρ[i]? = some (.ow o') → σ[i]? ≠ some (some (.ref a))
  | .al i, v => σ[i]? = some (some v)

section
variable {K : PySem.W.Frag} {ix : List Nat} {Fr G G' H H' : Hp} {FX : Nat → Option V} {ρ ρ' : Rho} {σ : L2.St}
theorem RS.none_of (R : RS K ix Fr FX G ρ σ H) {p : Addr} (h : H p = none) : G p = none ∧ Fr p = none := by
  constructor
  · cases e : G p with
    | none => rfl
    | some o => have := R.gh p o e; rw [h] at this; cases this
  · cases e : Fr p with
    | none => rfl
    | some o => have := R.fh p o e; rw [h] at this; cases this
theorem RS.sub (R : RS K ix Fr FX G ρ σ H) : Sub G H := sub_le R.gh
theorem SlOk.mono {s : Sl} {ov : Option (Option V)} (h : SlOk K Fr G H s ov) (su : Sub G G') (hn : ∀ (a : Addr) (o : Ob), ov = some (some (.ref a)) → s = .ow o → G a = none → Fr a = none → G' a = none ∧ H' a = H a) : SlOk K Fr G' H' s ov := by
  cases s with
  | no => trivial
  | sh d => obtain ⟨v, e, q⟩ := h; exact ⟨v, e, dp_mono su _ _ q⟩
  | ow o =>
    obtain ⟨a, e, g, f, c⟩ := h
    obtain ⟨n1, n2⟩ := hn a o e rfl g f
    exact ⟨a, e, n1, f, c.mono su n2⟩
/-- a new shared object -/
theorem RS.newG (R : RS K ix Fr FX G ρ σ H) {p : Addr} {o : HO} (h : H p = none) : RS K ix Fr FX (upd G p o) ρ σ (upd H p o) := by
  obtain ⟨hg, hf⟩ := R.none_of h
  refine ⟨fun a u e => ?_, fun a u e => ?_, fun a n => ?_, R.len, fun i s e => ?_, R.sep, R.fx⟩
  · by_cases ha : a = p
    · subst ha; rw [upd_same] at e ⊢; exact e
    · rw [upd_ne ha] at e ⊢; exact R.gh a u e
  · by_cases ha : a = p
    · subst ha; rw [hf] at e; cases e
    · rw [upd_ne ha]; exact R.fh a u e
  · by_cases ha : a = p
    · subst ha; exact absurd hf n
    · rw [upd_ne ha]; exact R.gf a n
  · refine (R.sl i s e).mono (sub_upd hg) fun a o' e1 e2 g f => ?_
    have ha : a ≠ p := fun z => by
      subst z; subst e2
      obtain ⟨b, eb, _, _, c⟩ := R.sl i _ e
      rw [e1] at eb
      cases eb
      obtain ⟨u, hu⟩ := c.some
      rw [h] at hu; cases hu
    rw [upd_ne ha, upd_ne ha]
    exact ⟨g, rfl⟩
/-- a new object that is not shared -/
theorem RS.newH (R : RS K ix Fr FX G ρ σ H) {p : Addr} {o : HO} (h : H p = none) : RS K ix Fr FX G ρ σ (upd H p o) := by
  obtain ⟨hg, hf⟩ := R.none_of h
  refine ⟨fun a u e => ?_, fun a u e => ?_, R.gf, R.len, fun i s e => ?_, R.sep, R.fx⟩
  · have ha : a ≠ p := fun z => by subst z; rw [hg] at e; cases e
    rw [upd_ne ha]; exact R.gh a u e
  · have ha : a ≠ p := fun z => by subst z; rw [hf] at e; cases e
    rw [upd_ne ha]; exact R.fh a u e
  · refine (R.sl i s e).mono (Sub.refl _) fun a o' e1 e2 g f => ?_
    have ha : a ≠ p := fun z => by
      subst z; subst e2
      obtain ⟨b, eb, _, _, c⟩ := R.sl i _ e
      rw [e1] at eb
      cases eb
      obtain ⟨u, hu⟩ := c.some
      rw [h] at hu; cases hu
    rw [upd_ne ha]
    exact ⟨g, rfl⟩
theorem RS.notIn (R : RS K ix Fr FX G ρ σ H) {p : Addr} (h : H p = none) : ∀ (i : Nat) (o : Ob), ρ[i]? = some (.ow o) → σ[i]? ≠ some (some (.ref p)) := fun i o e e1 => by
  obtain ⟨b, eb, _, _, c⟩ := R.sl i _ e
  rw [e1] at eb
  cases eb
  obtain ⟨u, hu⟩ := c.some
  rw [h] at hu; cases hu
/-- an object outside is shared from now on -/
theorem RS.share (R : RS K ix Fr FX G ρ σ H) {p : Addr} {o : HO} (h : H p = some o) (hg : G p = none) (hf : Fr p = none) (hn : ∀ (i : Nat) (o' : Ob), ρ[i]? = some (.ow o') → σ[i]? ≠ some (some (.ref p))) : RS K ix Fr FX (upd G p o) ρ σ H := by
  refine ⟨fun a u e => ?_, R.fh, fun a n => ?_, R.len, fun i s e => ?_, R.sep, R.fx⟩
  · by_cases ha : a = p
    · subst ha; rw [upd_same] at e; rw [h]; exact e
    · rw [upd_ne ha] at e; exact R.gh a u e
  · by_cases ha : a = p
    · subst ha; exact absurd hf n
    · rw [upd_ne ha]; exact R.gf a n
  · refine (R.sl i s e).mono (sub_upd hg) fun a o' e1 e2 g f => ?_
    have ha : a ≠ p := fun z => by
      subst z; subst e2
      exact hn i _ e e1
    rw [upd_ne ha]
    exact ⟨g, rfl⟩
/-- a slot is stored -/
theorem RS.set (R : RS K ix Fr FX G ρ σ H) {i : Nat} {s : Sl} {v : V} (hi : i ∉ ix) (hs : SlOk K Fr G H s (some (some v))) (hn : ∀ (o : Ob) (a : Addr), s = .ow o → v = .ref a → ∀ (j : Nat) (o' : Ob), ρ[j]? = some (.ow o') → σ[j]? ≠ some (some (.ref a))) :
    RS K ix Fr FX G (ρ.set i s) (σ.set i (some v)) H := by
  refine ⟨R.gh, R.fh, R.gf, by simp [R.len], fun j t e => ?_, fun j k a o o' ne e1 e2 e3 e4 => ?_, fun j w e => ?_⟩
  · by_cases hj : i = j
    · subst hj
      have hl : i < ρ.length := by
        have := (List.getElem?_eq_some_iff.mp e).1
        simpa using this
      rw [List.getElem?_set_self hl] at e
      cases e
      rw [List.getElem?_set_self (by rw [← R.len]; exact hl)]
      exact hs
    · rw [List.getElem?_set_ne hj] at e ⊢
      exact R.sl j t e
  · by_cases hj : i = j
    · subst hj
      have hl : i < ρ.length := by
        have := (List.getElem?_eq_some_iff.mp e1).1
        simpa using this
      have hk : i ≠ k := ne
      rw [List.getElem?_set_self hl] at e1
      rw [List.getElem?_set_ne hk] at e2
      rw [List.getElem?_set_self (by rw [← R.len]; exact hl)] at e3
      rw [List.getElem?_set_ne hk] at e4
      cases e1
      cases e3
      exact hn o a rfl rfl k o' e2 e4
    · rw [List.getElem?_set_ne hj] at e1 e3
      by_cases hk : i = k
      · subst hk
        have hl : i < ρ.length := by
          have := (List.getElem?_eq_some_iff.mp e2).1
          simpa using this
        rw [List.getElem?_set_self hl] at e2
        rw [List.getElem?_set_self (by rw [← R.len]; exact hl)] at e4
        cases e2
        cases e4
        exact hn o' a rfl rfl j o e1 e3
      · rw [List.getElem?_set_ne hk] at e2 e4
        exact R.sep j k a o o' ne e1 e2 e3 e4
  · obtain ⟨h1, h2⟩ := R.fx j w e
    have hj : i ≠ j := fun z => by subst z; exact hi h1
    exact ⟨h1, by rw [List.getElem?_set_ne hj]; exact h2⟩
/-- a slot's view is weakened: the same value, no longer owned -/
theorem RS.weak (R : RS K ix Fr FX G ρ σ H) {i : Nat} {s : Sl} (hs : SlOk K Fr G H s σ[i]?) (hn : ∀ o : Ob, s ≠ .ow o) : RS K ix Fr FX G (ρ.set i s) σ H := by
  refine ⟨R.gh, R.fh, R.gf, by simp [R.len], fun j t e => ?_, fun j k a o o' ne e1 e2 e3 e4 => ?_, R.fx⟩
  · by_cases hj : i = j
    · subst hj
      have hl : i < ρ.length := by
        have := (List.getElem?_eq_some_iff.mp e).1
        simpa using this
      rw [List.getElem?_set_self hl] at e
      cases e
      exact hs
    · rw [List.getElem?_set_ne hj] at e
      exact R.sl j t e
  · have un : ∀ {j : Nat} {o : Ob}, (ρ.set i s)[j]? = some (.ow o) → ρ[j]? = some (.ow o) := fun {j o} e => by
      by_cases hj : i = j
      · subst hj
        have hl : i < ρ.length := by
          have := (List.getElem?_eq_some_iff.mp e).1
          simpa using this
        rw [List.getElem?_set_self hl] at e
        exact absurd (Option.some.inj e) (hn o)
      · rw [List.getElem?_set_ne hj] at e
        exact e
    exact R.sep j k a o o' ne (un e1) (un e2) e3 e4
/-- the owned object of a slot changes -/
theorem RS.mut (R : RS K ix Fr FX G ρ σ H) {i : Nat} {o o' : Ob} {a : Addr} {u : HO} (h : ρ[i]? = some (.ow o)) (ha : σ[i]? = some (some (.ref a))) (hc : Ct K G (upd H a u) a o') :
    RS K ix Fr FX G (ρ.set i (.ow o')) σ (upd H a u) := by
  obtain ⟨b, eb, g, f, c⟩ := R.sl i _ h
  rw [ha] at eb
  cases eb
  have hl : i < ρ.length := (List.getElem?_eq_some_iff.mp h).1
  refine ⟨fun b x e => ?_, fun b x e => ?_, R.gf, by simp [R.len], fun j t e => ?_, fun j k b x x' ne e1 e2 e3 e4 => ?_, R.fx⟩
  · have hb : b ≠ a := fun z => by subst z; rw [g] at e; cases e
    rw [upd_ne hb]; exact R.gh b x e
  · have hb : b ≠ a := fun z => by subst z; rw [f] at e; cases e
    rw [upd_ne hb]; exact R.fh b x e
  · by_cases hj : i = j
    · subst hj
      rw [List.getElem?_set_self hl] at e
      cases e
      exact ⟨a, ha, g, f, hc⟩
    · rw [List.getElem?_set_ne hj] at e
      refine (R.sl j t e).mono (Sub.refl _) fun b x e1 e2 g' f' => ⟨g', ?_⟩
      subst e2
      exact upd_ne fun z => by
        subst z
        exact R.sep i j b o x hj h e ha e1
  · have un : ∀ {j : Nat} {x : Ob}, (ρ.set i (.ow o'))[j]? = some (.ow x) → ∃ y, ρ[j]? = some (.ow y) := fun {j x} e => by
      by_cases hj : i = j
      · subst hj; exact ⟨o, h⟩
      · rw [List.getElem?_set_ne hj] at e; exact ⟨x, e⟩
    obtain ⟨y, e1'⟩ := un e1
    obtain ⟨y', e2'⟩ := un e2
    exact R.sep j k b y y' ne e1' e2' e3 e4
end
end DL

set_option Elab.async false
set_option linter.all false
set_option autoImplicit false
set_option maxRecDepth 100000
namespace DL
open PySem PySem.Spec PyProof.Rows L2

inductive Rz where
  | sh (d : Dv) | ow (o : Ob)
def Rz.rv : Rz → Rv
  | .sh d => .sh d
  | .ow o => .ow o
abbrev MA := Rho → Option (List Rv × Rho)
abbrev ML := Rho → Option (List Dv × Rho)
def obD : Ob → Dv
  | .lst ds => .list ds
  | .dct kvs => .dict kvs
/-- the data that a value stands for -/
def dat (ρ : Rho) : Rv → Option Dv
  | .sh d => some d
  | .ow o => some (obD o)
  | .al i => match ρ[i]? with
    | some (.ow o) => some (obD o)
    | _ => none

def VOks (K : PySem.W.Frag) (Fr G H : Hp) (ρ : Rho) (σ : L2.St) : List Rv → List V → Prop
  | [], [] => True
  | r :: rs, v :: vs => VOk K Fr G H ρ σ r v ∧ (∀ (o : Ob) (a : Addr), r = .ow o → v = .ref a → ∀ (j : Nat) (o' : Ob), rs[j]? = some (.ow o') → vs[j]? ≠ some (.ref a)) ∧ VOks K Fr G H ρ σ rs vs
  | _, _ => False

/-! ### canonical readings -/
def TE' (K : PySem.W.Frag) (ix : List Nat) (f : M) : TE := fun σ H Q => ∃ Fr FX G ρ r ρ', RS K ix Fr FX G ρ σ H ∧ f ρ = some (r, ρ') ∧
  ∀ v G' H', Sub G G' → RS K ix Fr FX G' ρ' σ H' → VOk K Fr G' H' ρ' σ r v → Q v H'
def TT' (K : PySem.W.Frag) (ix : List Nat) (f : MB) : TT := fun σ H Q => ∃ Fr FX G ρ b ρ', RS K ix Fr FX G ρ σ H ∧ f ρ = some (b, ρ') ∧
  ∀ G' H', Sub G G' → RS K ix Fr FX G' ρ' σ H' → Q b H'
def TA' (K : PySem.W.Frag) (ix : List Nat) (f : MA) : TA := fun σ H Q => ∃ Fr FX G ρ rs ρ', RS K ix Fr FX G ρ σ H ∧ f ρ = some (rs, ρ') ∧
  ∀ vs G' H', Sub G G' → RS K ix Fr FX G' ρ' σ H' → VOks K Fr G' H' ρ' σ rs vs → Q vs H'
def FlP (K : PySem.W.Frag) (ix : List Nat) (Fr : Hp) (FX : Nat → Option V) (G : Hp) (fl : Fl) (D : Ends) : Prop := match fl with
  | .nx ρ' => ∀ G' σ' H', Sub G G' → RS K ix Fr FX G' ρ' σ' H' → D.nx σ' H'
  | .bk ρ' => ∀ G' σ' H', Sub G G' → RS K ix Fr FX G' ρ' σ' H' → D.bk σ' H'
  | .ct ρ' => ∀ G' σ' H', Sub G G' → RS K ix Fr FX G' ρ' σ' H' → D.ct σ' H'
  | .rt r ρ' => ∀ G' σ' H' v, Sub G G' → RS K ix Fr FX G' ρ' σ' H' → VOk K Fr G' H' ρ' σ' r v → D.rt v H'
theorem FlP.mono {K : PySem.W.Frag} {ix : List Nat} {Fr : Hp} {FX : Nat → Option V} {G G1 : Hp} {fl : Fl} {D : Ends} (h : FlP K ix Fr FX G fl D) (s : Sub G G1) : FlP K ix Fr FX G1 fl D := by
  cases fl with
  | nx ρ => exact fun G' σ' H' s' => h G' σ' H' (s.trans s')
  | bk ρ => exact fun G' σ' H' s' => h G' σ' H' (s.trans s')
  | ct ρ => exact fun G' σ' H' s' => h G' σ' H' (s.trans s')
  | rt r ρ => exact fun G' σ' H' v s' => h G' σ' H' v (s.trans s')
def TS' (K : PySem.W.Frag) (ix : List Nat) (g : MS) : TS := fun D σ H => ∃ Fr FX G ρ fl, RS K ix Fr FX G ρ σ H ∧ g ρ = some fl ∧ FlP K ix Fr FX G fl D
/-- a target takes a shared value; its slots are among tis -/
def TG' (K : PySem.W.Frag) (ix tis : List Nat) (t : Dv → Rho → Option Rho) : TG := fun v σ H Q => ∃ Fr FX G ρ d ρ', RS K ix Fr FX G ρ σ H ∧ Dp K G v d ∧ t d ρ = some ρ' ∧
  ∀ G' σ' H', Sub G G' → (σ'.length = σ.length ∧ ∀ j, j ∉ tis → σ'[j]? = σ[j]?) → RS K ix Fr FX G' ρ' σ' H' → Q σ' H'
/-- an iterator gives just these items -/
def Jok (K : PySem.W.Frag) (G : Hp) (J : It) (ds : List Dv) : Prop := ∀ (i : Nat) (G1 H1 : Hp), Sub G G1 → (∀ a o, G1 a = some o → H1 a = some o) →
  (∀ d, ds[i]? = some d → J.go i H1 ∧ ∀ x H2, J.yld i H1 x H2 → (H2 = H1 ∧ Dp K G1 x d) ∨ ∃ p o, H1 p = none ∧ H2 = upd H1 p o ∧ Dp K (upd G1 p o) x d) ∧ (ds.length ≤ i → J.stop i H1)
def TI' (K : PySem.W.Frag) (ix : List Nat) (f : ML) : TI := fun σ H R => ∃ Fr FX G ρ ds ρ', RS K ix Fr FX G ρ σ H ∧ f ρ = some (ds, ρ') ∧
  ∀ J G' H', Sub G G' → RS K ix Fr FX G' ρ' σ H' → Jok K G' J ds → R J H'

/-! ### weakening -/
section
variable {X : Cx}
theorem pe_imp {e : Expr} {t t' : TE} (h : PE X e t) (k : ∀ σ H Q, t' σ H Q → t σ H Q) : PE X e t' := ⟨fun pins s σ H Q I q => h.run pins s σ H Q I (k _ _ _ q)⟩
theorem pt_imp {e : Expr} {t t' : TT} (h : PT X e t) (k : ∀ σ H Q, t' σ H Q → t σ H Q) : PT X e t' := ⟨fun pins s σ H Q I q => h.run pins s σ H Q I (k _ _ _ q)⟩
theorem pw_imp {e : Expr} {t t' : TT} (h : PW X e t) (k : ∀ σ H Q, t' σ H Q → t σ H Q) : PW X e t' := ⟨fun wh pins s σ H Q I q => h.run wh pins s σ H Q I (k _ _ _ q)⟩
theorem pts_imp {e : List Expr} {t t' : TT} (h : PTs X e t) (k : ∀ σ H Q, t' σ H Q → t σ H Q) : PTs X e t' := ⟨fun pins s σ H Q I q => h.run pins s σ H Q I (k _ _ _ q)⟩
theorem pa_imp {e : List Expr} {t t' : TA} (h : PA X e t) (k : ∀ σ H Q, t' σ H Q → t σ H Q) : PA X e t' := ⟨fun pos pins s σ H Q I q => h.run pos pins s σ H Q I (k _ _ _ q)⟩
theorem ps_imp {e : Stmt} {t t' : TS} (h : PS X e t) (k : ∀ D σ H, t' D σ H → t D σ H) : PS X e t' := ⟨fun pins s σ H D I q => h.run pins s σ H D I (k _ _ _ q)⟩
theorem pss_imp {e : List Stmt} {t t' : TS} (h : PSs X e t) (k : ∀ D σ H, t' D σ H → t D σ H) : PSs X e t' := ⟨fun pins s σ H D I q => h.run pins s σ H D I (k _ _ _ q)⟩
theorem pg_imp {e : Expr} {t t' : TG} (h : PG X e t) (k : ∀ v σ H Q, t' v σ H Q → t v σ H Q) : PG X e t' := ⟨fun pins s σ H v u Q I r q => h.run pins s σ H v u Q I r (k _ _ _ _ q)⟩
theorem pi_imp {tg e : Expr} {t t' : TI} (h : PI X tg e t) (k : ∀ σ H Q, t' σ H Q → t σ H Q) : PI X tg e t' := ⟨fun pins s σ H Q I q => h.run pins s σ H Q I (k _ _ _ q)⟩
theorem op_imp {f : Value → Value → Sem Value} {r r' : R2} (h : OpR X f r) (k : ∀ x y H Q, r' x y H Q → r x y H Q) : OpR X f r' := fun pins s σ H x y v u Q I rx ry q => h pins s σ H x y v u Q I rx ry (k _ _ _ _ q)
end

/-! ### views -/
def VD (K : PySem.W.Frag) (G H : Hp) : Dv → V → Prop
  | .list ds, v => ∃ a vs, v = .ref a ∧ SqL K H a vs ∧ DpAll K G vs ds
  | .dict kvs, v => ∃ a ks, v = .ref a ∧ H a = some (.dK ks) ∧ DKV K G ks kvs
  | d, v => Dp K G v d
section
variable {K : PySem.W.Frag} {ix : List Nat} {Fr G G' H H' : Hp} {FX : Nat → Option V} {ρ ρ' : Rho} {σ : L2.St}
theorem ct_vd {a : Addr} {o : Ob} (c : Ct K G H a o) : VD K G H (obD o) (.ref a) := by
  cases o with
  | lst ds => obtain ⟨vs, e, q⟩ := c; exact ⟨a, vs, rfl, .inl (.inl e), q⟩
  | dct kvs => obtain ⟨ks, e, q⟩ := c; exact ⟨a, ks, rfl, e, q⟩
theorem dp_vd {d : Dv} {v : V} (gh : ∀ a o, G a = some o → H a = some o) (h : Dp K G v d) : VD K G H d v := by
  cases d with
  | list ds => cases h with | lst hs ha => exact ⟨_, _, rfl, (sub_le gh).sqL hs, ha⟩
  | dict kvs => cases h
  | none => exact h
  | bool b => exact h
  | int i => exact h
  | str x => exact h
  | tuple ds => exact h
theorem dat_vd (R : RS K ix Fr FX G ρ σ H) {r : Rv} {v : V} {d : Dv} (h : VOk K Fr G H ρ σ r v) (e : dat ρ r = some d) : VD K G H d v := by
  cases r with
  | sh d' => cases e; exact dp_vd R.gh h
  | ow o =>
    cases e
    obtain ⟨a, rfl, _, _, c, _⟩ := h
    exact ct_vd c
  | al i =>
    unfold dat at e
    simp only at e
    split at e
    · rename_i o ho
      cases e
      obtain ⟨a, ea, _, _, c⟩ := R.sl i _ ho
      have h' : σ[i]? = some (some v) := h
      rw [ea] at h'
      cases h'
      exact ct_vd c
    · cases e
theorem vd_dp {d : Dv} {v : V} (gh : ∀ a o, G a = some o → H a = some o) (h : VD K G H d v) (nd : ∀ kvs, d ≠ .dict kvs) : Dp K H v d := by
  cases d with
  | list ds => obtain ⟨a, vs, rfl, hs, ha⟩ := h; exact .lst hs (dpAll_mono (sub_le gh) _ _ ha)
  | dict kvs => exact absurd rfl (nd kvs)
  | none => exact dp_mono (sub_le gh) _ _ h
  | bool b => exact dp_mono (sub_le gh) _ _ h
  | int i => exact dp_mono (sub_le gh) _ _ h
  | str x => exact dp_mono (sub_le gh) _ _ h
  | tuple ds => exact dp_mono (sub_le gh) _ _ h

/-! ### results of one step -/
inductive Ext (G H : Hp) : Hp → Hp → Prop
  | same : Ext G H G H
  | shr (p : Addr) (o : HO) : H p = none → Ext G H (upd G p o) (upd H p o)
def Res (K : PySem.W.Frag) (G H : Hp) (Q : VK) : Rz → Prop
  | .sh d => ∀ v G' H', Ext G H G' H' → Dp K G' v d → Q v H'
  | .ow o => ∀ p u, H p = none → Ct K G (upd H p u) p o → Q (.ref p) (upd H p u)
theorem res_ok (R : RS K ix Fr FX G ρ σ H) {r : Rz} {Q : VK} (k : ∀ v G' H', Sub G G' → RS K ix Fr FX G' ρ σ H' → VOk K Fr G' H' ρ σ r.rv v → Q v H') : Res K G H Q r := by
  cases r with
  | sh d =>
    intro v G' H' x h
    cases x with
    | same => exact k v G H (Sub.refl _) R h
    | shr p o hp => exact k v _ _ (sub_upd (R.none_of hp).1) (R.newG hp) h
  | ow o =>
    intro p u hp c
    exact k _ G _ (Sub.refl _) (R.newH hp) ⟨p, rfl, (R.none_of hp).1, (R.none_of hp).2, c, R.notIn hp⟩
theorem res_int {Q : VK} {i : Int} (h : Res K G H Q (.sh (.int i))) : Q (.int i) H := h _ _ _ .same (.int i)
theorem res_bl {Q : VK} {i : Bool} (h : Res K G H Q (.sh (.bool i))) : Q (.bl i) H := h _ _ _ .same (.bl i)
theorem res_str {Q : VK} {i : Str} (h : Res K G H Q (.sh (.str i))) : Q (.str i) H := h _ _ _ .same (.str i)
theorem res_non {Q : VK} (h : Res K G H Q (.sh .none)) : Q .non H := h _ _ _ .same .non
theorem res_val {Q : VK} {d : Dv} {v : V} (h : Res K G H Q (.sh d)) (q : Dp K G v d) : Q v H := h _ _ _ .same q
theorem res_tup {Q : VK} {ds : List Dv} {vs : List V} {p : Addr} (h : Res K G H Q (.sh (.tuple ds))) (g : G p = none) (hp : H p = none) (q : DpAll K G vs ds) : Q (.ref p) (upd H p (.tup vs)) :=
  h _ _ _ (.shr p _ hp) (.tup (.inl (.inl upd_same)) (dpAll_mono (sub_upd g) _ _ q))
theorem res_lst {Q : VK} {ds : List Dv} {vs : List V} {p : Addr} (h : Res K G H Q (.ow (.lst ds))) (hp : H p = none) (q : DpAll K G vs ds) : Q (.ref p) (upd H p (.lst vs)) :=
  h p _ hp ⟨vs, upd_same, q⟩
theorem g_none (gh : ∀ a o, G a = some o → H a = some o) {p : Addr} (h : H p = none) : G p = none := by
  cases e : G p with
  | none => rfl
  | some o => have := gh p o e; rw [h] at this; cases this
end

/-! ### values of one, two, several operands, by data -/
/-- a two-place rule by data -/
def R2d (K : PySem.W.Frag) (g : Dv → Dv → Option Rz) : R2 := fun x y H Q => ∃ G d e r, (∀ a o, G a = some o → H a = some o) ∧ VD K G H d x ∧ VD K G H e y ∧ g d e = some r ∧ Res K G H Q r
def OpD (X : Cx) (f : Value → Value → Sem Value) (g : Dv → Dv → Option Rz) : Prop := OpR X f (R2d X.K g)
inductive VDs (K : PySem.W.Frag) (G H : Hp) : List Dv → List V → Prop
  | nil : VDs K G H [] []
  | cons {d : Dv} {v : V} {ds : List Dv} {vs : List V} : VD K G H d v → VDs K G H ds vs → VDs K G H (d :: ds) (v :: vs)
def RCd (K : PySem.W.Frag) (g : List Dv → Option Rz) : List V → Hp → VK → Prop := fun xs H Q => ∃ G ds r, (∀ a o, G a = some o → H a = some o) ∧ VDs K G H ds xs ∧ g ds = some r ∧ Res K G H Q r
def CallD (X : Cx) (f : Value) (g : List Dv → Option Rz) : Prop := CallR X f (RCd X.K g)
def IxD (X : Cx) (g : Dv → Dv → Option Rz) : Prop := IxR X (R2d X.K g)

/-! ### expressions -/
def eVar (i : Nat) : M := fun ρ => match ρ[i]? with
  | some (.sh d) => some (.sh d, ρ)
  | some (.ow _) => some (.al i, ρ)
  | _ => none
def eC (d : Dv) : M := fun ρ => some (.sh d, ρ)
/-- a new list that nobody holds is shared -/
def pkM (f : M) : M := fun ρ => (f ρ).bind fun x => match x.1 with
  | .ow (.lst ds) => some (.sh (.list ds), x.2)
  | _ => some x
/-- whatever it is, it is shared -/
def frM (f : M) : M := fun ρ => (f ρ).bind fun x => match x.1 with
  | .sh d => some (.sh d, x.2)
  | .ow (.lst ds) => some (.sh (.list ds), x.2)
  | .ow _ => none
  | .al i => match x.2[i]? with
    | some (.ow (.lst ds)) => some (.sh (.list ds), x.2.set i (.sh (.list ds)))
    | _ => none
def binS (g : Dv → Dv → Option Rz) (fa fb : M) : M := fun ρ => (pkM fa ρ).bind fun x => (pkM fb x.2).bind fun y =>
  (dat y.2 x.1).bind fun d => (dat y.2 y.1).bind fun e => (g d e).bind fun r => some (r.rv, y.2)
def unS (g : Dv → Option Rz) (fa : M) : M := fun ρ => (fa ρ).bind fun x => (dat x.2 x.1).bind fun d => (g d).bind fun r => some (r.rv, x.2)
section
variable {X : Cx} {ix : List Nat} {e a b c : Expr} {f fa fb fc : M} {pos : Pos}
theorem de_var (i : Nat) {x : Str} (hN : X.N[i]? = some x := by rfl) (hv : Vis X.env.scope x := by first | exact Or.inl rfl | exact Or.inr (Or.inl rfl) | exact Or.inr (Or.inr rfl)) (hd : (x == ("__debug__" : Str)) = false := by decide)
    (hcd : (x == ("__classdict__" : Str)) = false := by decide) : PE X (.Name x pos) (TE' X.K ix (eVar i)) := by
  refine pe_imp (pe_var hN hv hd hcd) fun σ H Q ⟨Fr, FX, G, ρ, r, ρ', R, hf, k⟩ => ?_
  unfold eVar at hf
  split at hf
  · rename_i d hd'
    cases hf
    obtain ⟨v, ev, q⟩ := R.sl i _ hd'
    exact ⟨v, ev, k v G H (Sub.refl _) R q⟩
  · rename_i o ho
    cases hf
    obtain ⟨a, ev, _⟩ := R.sl i _ ho
    exact ⟨_, ev, k _ G H (Sub.refl _) R ev⟩
  · cases hf
theorem de_c {v : V} {d : Dv} (h : PE X e (tC v)) (q : ∀ G, Dp X.K G v d) : PE X e (TE' X.K ix (eC d)) :=
  pe_imp h fun σ H Q ⟨Fr, FX, G, ρ, r, ρ', R, hf, k⟩ => by
    unfold eC at hf
    cases hf
    exact k v G H (Sub.refl _) R (q G)
theorem de_int {i : Int} {j} : PE X (.Constant (.int i) j pos) (TE' X.K ix (eC (.int i))) := de_c pe_int fun _ => .int i
theorem de_bl {i : Bool} {j} : PE X (.Constant (.bool i) j pos) (TE' X.K ix (eC (.bool i))) := de_c pe_bl fun _ => .bl i
theorem de_non {j} : PE X (.Constant .none j pos) (TE' X.K ix (eC .none)) := de_c pe_non fun _ => .non
theorem de_str {x : Str} {j} : PE X (.Constant (.str x) j pos) (TE' X.K ix (eC (.str x))) := de_c pe_str fun _ => .str x
theorem vok_share {Fr G H : Hp} {FX : Nat → Option V} {ρ : Rho} {σ : L2.St} {K : PySem.W.Frag} {ds : List Dv} {v : V} (R : RS K ix Fr FX G ρ σ H) (h : VOk K Fr G H ρ σ (.ow (.lst ds)) v) :
    ∃ G', Sub G G' ∧ RS K ix Fr FX G' ρ σ H ∧ Dp K G' v (.list ds) := by
  obtain ⟨a, rfl, g, fr, ⟨vs, hv, q⟩, hn⟩ := h
  exact ⟨upd G a (.lst vs), sub_upd g, R.share hv g fr hn, .lst (.inl (.inl upd_same)) (dpAll_mono (sub_upd g) _ _ q)⟩
theorem pk_ok {σ : L2.St} {H : Hp} {Q : VK} (h : TE' X.K ix (pkM f) σ H Q) : TE' X.K ix f σ H Q := by
  obtain ⟨Fr, FX, G, ρ, r, ρ', R, hf, k⟩ := h
  unfold pkM at hf
  obtain ⟨⟨r0, ρ0⟩, h0, hf⟩ := Option.bind_eq_some_iff.mp hf
  refine ⟨Fr, FX, G, ρ, r0, ρ0, R, h0, fun v G' H' s R' q => ?_⟩
  simp only at hf
  split at hf
  · cases hf
    obtain ⟨G2, s2, R2, q2⟩ := vok_share R' q
    exact k v G2 H' (s.trans s2) R2 q2
  · cases hf
    exact k v G' H' s R' q
theorem de_pk (h : PE X e (TE' X.K ix f)) : PE X e (TE' X.K ix (pkM f)) := pe_imp h fun _ _ _ => pk_ok
theorem fr_ok {σ : L2.St} {H : Hp} {Q : VK} (h : TE' X.K ix (frM f) σ H Q) : TE' X.K ix f σ H Q := by
  obtain ⟨Fr, FX, G, ρ, r, ρ', R, hf, k⟩ := h
  unfold frM at hf
  obtain ⟨⟨r0, ρ0⟩, h0, hf⟩ := Option.bind_eq_some_iff.mp hf
  refine ⟨Fr, FX, G, ρ, r0, ρ0, R, h0, fun v G' H' s R' q => ?_⟩
  simp only at hf
  split at hf
  · cases hf
    exact k v G' H' s R' q
  · cases hf
    obtain ⟨G2, s2, R2, q2⟩ := vok_share R' q
    exact k v G2 H' (s.trans s2) R2 q2
  · cases hf
  · rename_i i
    split at hf
    · rename_i ds hi
      cases hf
      obtain ⟨a, ev, g, fr, ⟨vs, hv, qv⟩⟩ := R'.sl i _ hi
      have e' : σ[i]? = some (some v) := q
      rw [ev] at e'
      cases e'
      have hx : Dp X.K (upd G' a (.lst vs)) (.ref a) (.list ds) := .lst (.inl (.inl upd_same)) (dpAll_mono (sub_upd g) _ _ qv)
      have hl : i < ρ0.length := (List.getElem?_eq_some_iff.mp hi).1
      have W : RS X.K ix Fr FX G' (ρ0.set i .no) σ H' := R'.weak (i := i) (s := .no) trivial (fun o z => nomatch z)
      have S := W.share hv g fr fun j o' e1 e2 => by
        by_cases hj : i = j
        · subst hj
          rw [List.getElem?_set_self hl] at e1
          cases e1
        · rw [List.getElem?_set_ne hj] at e1
          exact R'.sep i j a _ o' hj hi e1 ev e2
      have S2 := S.weak (i := i) (s := .sh (.list ds)) ⟨_, ev, hx⟩ (fun o z => nomatch z)
      rw [List.set_set] at S2
      exact k _ _ H' (s.trans (sub_upd g)) S2 hx
    · cases hf
theorem de_fr (h : PE X e (TE' X.K ix f)) : PE X e (TE' X.K ix (frM f)) := pe_imp h fun _ _ _ => fr_ok
theorem pk_noow {ρ ρ' : Rho} {r : Rv} (h : pkM f ρ = some (r, ρ')) : ∀ ds, r ≠ .ow (.lst ds) := fun ds e => by
  subst e
  unfold pkM at h
  obtain ⟨⟨r0, ρ0⟩, h0, hf⟩ := Option.bind_eq_some_iff.mp h
  simp only at hf
  split at hf
  · cases hf
  · rename_i hn
    cases hf
    exact hn ds rfl
/-- an operand's view stands while a later one is evaluated -/
theorem vok_keep {K : PySem.W.Frag} {Fr G H G' H' : Hp} {FX : Nat → Option V} {ρ ρ' : Rho} {σ : L2.St} {r : Rv} {v : V} (h : VOk K Fr G H ρ σ r v) (s : Sub G G') (n : ∀ o, r ≠ .ow o) : VOk K Fr G' H' ρ' σ r v := by
  cases r with
  | sh d => exact dp_mono s _ _ h
  | al i => exact h
  | ow o => exact absurd rfl (n o)
/-- .. if need be, framed -/
theorem RS.frame {K : PySem.W.Frag} {Fr G H : Hp} {FX : Nat → Option V} {ρ : Rho} {σ : L2.St} {p : Addr} {u : HO} (R : RS K ix Fr FX G ρ σ H) (g : G p = none) (hu : H p = some u) (hn : ∀ (i : Nat) (o' : Ob), ρ[i]? = some (.ow o') → σ[i]? ≠ some (some (.ref p))) :
    RS K ix (upd Fr p u) FX G ρ σ H := by
  refine ⟨R.gh, fun a o e => ?_, fun a n => ?_, R.len, fun i s e => ?_, R.sep, R.fx⟩
  · by_cases ha : a = p
    · subst ha; rw [upd_same] at e; rw [hu]; exact e
    · rw [upd_ne ha] at e; exact R.fh a o e
  · by_cases ha : a = p
    · subst ha; exact g
    · rw [upd_ne ha] at n; exact R.gf a n
  · have h := R.sl i s e
    cases s with
    | no => trivial
    | sh d => exact h
    | ow o =>
      obtain ⟨a, e1, g1, f1, c1⟩ := h
      have ha : a ≠ p := fun z => by subst z; exact hn i o e e1
      exact ⟨a, e1, g1, by rw [upd_ne ha]; exact f1, c1⟩
theorem RS.unframe {K : PySem.W.Frag} {Fr G H : Hp} {FX : Nat → Option V} {ρ : Rho} {σ : L2.St} {p : Addr} {u : HO} (R : RS K ix (upd Fr p u) FX G ρ σ H) (f0 : Fr p = none) : RS K ix Fr FX G ρ σ H := by
  have le : ∀ a o, Fr a = some o → (upd Fr p u) a = some o := fun a o e => by
    have ha : a ≠ p := fun z => by subst z; rw [f0] at e; cases e
    rw [upd_ne ha]; exact e
  refine ⟨R.gh, fun a o e => R.fh a o (le a o e), fun a n => ?_, R.len, fun i s e => ?_, R.sep, R.fx⟩
  · refine R.gf a fun z => ?_
    cases e : Fr a with
    | none => exact n e
    | some o => rw [le a o e] at z; cases z
  · have h := R.sl i s e
    cases s with
    | no => trivial
    | sh d => exact h
    | ow o =>
      obtain ⟨a, e1, g1, f1, c1⟩ := h
      refine ⟨a, e1, g1, ?_, c1⟩
      cases e : Fr a with
      | none => rfl
      | some o => rw [le a o e] at f1; cases f1
/-- one operand, then another: an owned new object waits in the frame -/
theorem hold2 {tb : TE} {σ : L2.St} {H : Hp} {K : PySem.W.Frag} {Fr G : Hp} {FX : Nat → Option V} {ρ ρ1 : Rho} {r s : Rv} {x : V} {R : V → Hp → Prop}
    (R1 : RS K ix Fr FX G ρ σ H) (v1 : VOk K Fr G H ρ σ r x) (hb : fb ρ = some (s, ρ1))
    (k : ∀ y G2 H2, Sub G G2 → RS K ix Fr FX G2 ρ1 σ H2 → VOk K Fr G2 H2 ρ1 σ r x → VOk K Fr G2 H2 ρ1 σ s y → (∀ o o' a, r = .ow o → x = .ref a → s = .ow o' → y ≠ .ref a) → R y H2) :
    TE' K ix fb σ H R := by
  cases r with
  | sh d => exact ⟨Fr, FX, G, ρ, s, ρ1, R1, hb, fun y G2 H2 su R2 v2 => k y G2 H2 su R2 (dp_mono su _ _ v1) v2 (fun o o' a z => nomatch z)⟩
  | al i => exact ⟨Fr, FX, G, ρ, s, ρ1, R1, hb, fun y G2 H2 su R2 v2 => k y G2 H2 su R2 v1 v2 (fun o o' a z => nomatch z)⟩
  | ow o =>
    obtain ⟨p, rfl, g, f0, c, hn⟩ := v1
    obtain ⟨u, hu⟩ := c.some
    refine ⟨upd Fr p u, FX, G, ρ, s, ρ1, R1.frame g hu hn, hb, fun y G2 H2 su R2 v2 => ?_⟩
    have g2 : G2 p = none := R2.gf p (by rw [upd_same]; simp)
    have h2 : H2 p = H p := (R2.fh p u upd_same).trans hu.symm
    refine k y G2 H2 su (R2.unframe f0) ⟨p, rfl, g2, f0, c.mono su h2, fun i o' e e1 => ?_⟩ ?_ ?_
    · obtain ⟨a, e2, _, f2, _⟩ := R2.sl i _ e
      rw [e1] at e2
      cases e2
      rw [upd_same] at f2
      cases f2
    · cases s with
      | sh d => exact v2
      | al i => exact v2
      | ow o' =>
        obtain ⟨q, rfl, g', f', c', hn'⟩ := v2
        have hq : q ≠ p := fun z => by subst z; rw [upd_same] at f'; cases f'
        rw [upd_ne hq] at f'
        exact ⟨q, rfl, g', f', c', hn'⟩
    · intro o1 o2 a e1 e2 e3 e4
      cases e2
      subst e3
      obtain ⟨q, e5, g', f', _⟩ := v2
      rw [e4] at e5
      cases e5
      rw [upd_same] at f'
      cases f'
theorem bin_ok {tr : R2} {g : Dv → Dv → Option Rz} {σ : L2.St} {H : Hp} {Q : VK} (h : TE' X.K ix (binS g fa fb) σ H Q) (k : ∀ x y H2, R2d X.K g x y H2 Q → tr x y H2 Q) :
    tOp tr (TE' X.K ix (pkM fa)) (TE' X.K ix (pkM fb)) σ H Q := by
  obtain ⟨Fr, FX, G, ρ, r, ρ', R, hf, kk⟩ := h
  unfold binS at hf
  obtain ⟨⟨r1, ρ1⟩, h1, hf⟩ := Option.bind_eq_some_iff.mp hf
  obtain ⟨⟨r2, ρ2⟩, h2, hf⟩ := Option.bind_eq_some_iff.mp hf
  obtain ⟨d, h3, hf⟩ := Option.bind_eq_some_iff.mp hf
  obtain ⟨e, h4, hf⟩ := Option.bind_eq_some_iff.mp hf
  obtain ⟨rr, h5, hf⟩ := Option.bind_eq_some_iff.mp hf
  cases hf
  refine ⟨Fr, FX, G, ρ, r1, ρ1, R, h1, fun x G1 H1 s1 R1 v1 => ?_⟩
  refine hold2 (tb := TE' X.K ix (pkM fb)) R1 v1 h2 fun y G2 H2 s2 R2 w1 w2 _ => ?_
  exact k x y H2 ⟨G2, d, e, rr, R2.gh, dat_vd R2 w1 h3, dat_vd R2 w2 h4, h5, res_ok R2 fun v G' H' s3 R3 v3 => kk v G' H' ((s1.trans s2).trans s3) R3 v3⟩
theorem de_bin {op : Operator} {g : Dv → Dv → Option Rz} (ho : OpD X (binaryOp op) g) (ha : PE X a (TE' X.K ix fa)) (hb : PE X b (TE' X.K ix fb)) : PE X (.BinOp a op b pos) (TE' X.K ix (binS g fa fb)) :=
  pe_imp (pe_op ho (de_pk ha) (de_pk hb)) fun σ H Q h => bin_ok h fun _ _ _ q => q
theorem de_cmp {op : CmpOp} {g : Dv → Dv → Option Rz} (ho : OpD X (compareOp op) g) (ha : PE X a (TE' X.K ix fa)) (hb : PE X b (TE' X.K ix fb)) (hm : behindInMarks op b = false := by first | exact nomark _ | rfl) : PE X (.Compare a [op] [b] pos) (TE' X.K ix (binS g fa fb)) :=
  pe_imp (pe_cmpR ho (de_pk ha) (de_pk hb) hm) fun σ H Q h => bin_ok h fun _ _ _ q => q
theorem de_ix {g : Dv → Dv → Option Rz} (hr : IxD X g) (ha : PE X a (TE' X.K ix fa)) (hb : PE X b (TE' X.K ix fb)) (hs : PlainIx b := by exact fun _ _ => rfl) : PE X (.Subscript a b pos) (TE' X.K ix (binS g fa fb)) :=
  pe_imp (pe_ix hr (de_pk ha) (de_pk hb) hs) fun σ H Q h => bin_ok h fun _ _ _ q => q
end
end DL

set_option Elab.async false
set_option linter.all false
set_option autoImplicit false
set_option maxRecDepth 100000
namespace DL
open PySem PySem.Spec PyProof.Rows L2

/-! ### operators by data -/
def addD : Dv → Dv → Option Rz
  | .int i, .int j => some (.sh (.int (i + j)))
  | .str x, .str y => if x.length + y.length ≤ sizeLine then some (.sh (.str (x ++ y))) else none
  | .tuple xs, .tuple ys => if xs.length + ys.length ≤ sizeLine then some (.sh (.tuple (xs ++ ys))) else none
  | .list xs, .list ys => if xs.length + ys.length ≤ sizeLine then some (.ow (.lst (xs ++ ys))) else none
  | _, _ => none
def subD : Dv → Dv → Option Rz
  | .int i, .int j => some (.sh (.int (i - j)))
  | _, _ => none
def mulD : Dv → Dv → Option Rz
  | .int i, .int j => if (-(18446744073709551616) < i ∧ i < 18446744073709551616) ∨ (-(18446744073709551616) < j ∧ j < 18446744073709551616) then some (.sh (.int (i * j))) else none
  | .list xs, .int k => if -(9223372036854775808) ≤ k ∧ k < 9223372036854775808 ∧ xs.length * k.toNat ≤ sizeLine then some (.ow (.lst (List.replicate k.toNat xs).flatten)) else none
  | .tuple xs, .int k => if xs ≠ [] ∧ 2 ≤ k ∧ k ≤ 1000 ∧ xs.length ≤ 1000 then some (.sh (.tuple (List.replicate k.toNat xs).flatten)) else none
  | _, _ => none
def divD : Dv → Dv → Option Rz
  | .int i, .int j => if 0 < j ∧ j < 1073741824 then some (.sh (.int (i / j))) else none
  | _, _ => none
def modD : Dv → Dv → Option Rz
  | .int i, .int j => if 0 < j then some (.sh (.int (i % j))) else none
  | _, _ => none
def powD : Dv → Dv → Option Rz
  | .int i, .int j => if 0 ≤ j ∧ j ≤ 1000000 ∧ i.natAbs < 2 ^ 64 then some (.sh (.int (i ^ j.toNat))) else none
  | _, _ => none
def shlD : Dv → Dv → Option Rz
  | .int i, .int j => if 0 ≤ j ∧ j ≤ 1000000 ∧ i.natAbs < 2 ^ 64 then some (.sh (.int (i * 2 ^ j.toNat))) else none
  | _, _ => none
def shrD : Dv → Dv → Option Rz
  | .int i, .int j => if 0 ≤ j then some (.sh (.int (i / 2 ^ j.toNat))) else none
  | _, _ => none
def bitD (g : Int → Int → Int) : Dv → Dv → Option Rz
  | .int i, .int j => some (.sh (.int (g i j)))
  | _, _ => none
def cmpD (g : Int → Int → Bool) : Dv → Dv → Option Rz
  | .int i, .int j => some (.sh (.bool (g i j)))
  | _, _ => none
def eqD : Dv → Dv → Option Bool
  | .int i, .int j => some (decide (i = j))
  | .str i, .str j => some (decide (i = j))
  | d, e => if SeqAt.shaped d = true ∧ SeqAt.shaped e = true then some (PyData.eqv d e) else none
def eqqD (d e : Dv) : Option Rz := (eqD d e).map fun b => .sh (.bool b)
def neqD (d e : Dv) : Option Rz := (eqD d e).map fun b => .sh (.bool (!b))
def isNone : Dv → Bool
  | .none => true
  | _ => false
def isND (d e : Dv) : Option Rz := if isNone e = true then some (.sh (.bool (isNone d))) else none
def notND (d e : Dv) : Option Rz := if isNone e = true then some (.sh (.bool (!isNone d))) else none
/-- x in c, c a list or a tuple -/
def inSeq (d : Dv) : Dv → Option Bool
  | .list ds => if SeqAt.shaped d = true ∧ SeqAt.shaped (.list ds) = true then some (ds.any fun z => PyData.eqv z d) else none
  | .tuple ds => if SeqAt.shaped d = true ∧ SeqAt.shaped (.tuple ds) = true then some (ds.any fun z => PyData.eqv z d) else none
  | _ => none
def inSD (d e : Dv) : Option Rz := (inSeq d e).map fun b => .sh (.bool b)
def ninSD (d e : Dv) : Option Rz := (inSeq d e).map fun b => .sh (.bool (!b))
def ixD : Dv → Dv → Option Rz
  | .list ds, .int i => (atI ds i).map .sh
  | .tuple ds, .int i => (atI ds i).map .sh
  | .str z, .int i => if z.length ≤ sizeLine then (atI z.cps.toList i).map fun c => .sh (.str ⟨#[c]⟩) else none
  | _, _ => none

section
variable {X : Cx}
theorem vd_int {K : PySem.W.Frag} {G H : Hp} {i : Int} {v : V} (h : VD K G H (.int i) v) : v = .int i := by
  have h' : Dp K G v (.int i) := h
  cases h'
  rfl
theorem vd_bool {K : PySem.W.Frag} {G H : Hp} {i : Bool} {v : V} (h : VD K G H (.bool i) v) : v = .bl i := by
  have h' : Dp K G v (.bool i) := h
  cases h'
  rfl
theorem vd_str {K : PySem.W.Frag} {G H : Hp} {i : Str} {v : V} (h : VD K G H (.str i) v) : v = .str i := by
  have h' : Dp K G v (.str i) := h
  cases h'
  rfl
theorem vd_none {K : PySem.W.Frag} {G H : Hp} {v : V} (h : VD K G H .none v) : v = .non := by
  have h' : Dp K G v .none := h
  cases h'
  rfl
theorem vd_list {K : PySem.W.Frag} {G H : Hp} {ds : List Dv} {v : V} (h : VD K G H (.list ds) v) : ∃ a vs, v = .ref a ∧ SqL K H a vs ∧ DpAll K G vs ds := h
theorem vd_tup {K : PySem.W.Frag} {G H : Hp} {ds : List Dv} {v : V} (gh : ∀ a o, G a = some o → H a = some o) (h : VD K G H (.tuple ds) v) : ∃ a vs, v = .ref a ∧ SqT K G a vs ∧ SqT K H a vs ∧ DpAll K G vs ds := by
  have h' : Dp K G v (.tuple ds) := h
  cases h' with
  | tup hs ha => exact ⟨_, _, rfl, hs, (sub_le gh).sqT hs, ha⟩
/-- ints -/
theorem opd_int {f : Value → Value → Sem Value} {r : R2} {g : Dv → Dv → Option Rz} (ho : OpR X f r) (hg : ∀ d e z, g d e = some z → ∃ i j, d = .int i ∧ e = .int j)
    (k : ∀ i j z G H Q, g (.int i) (.int j) = some z → Res X.K G H Q z → r (.int i) (.int j) H Q) : OpD X f g := by
  refine op_imp ho fun x y H Q ⟨G, d, e, z, gh, vx, vy, hz, q⟩ => ?_
  obtain ⟨i, j, rfl, rfl⟩ := hg d e z hz
  rw [vd_int vx, vd_int vy]
  exact k i j z G H Q hz q
theorem sub_d : OpD X (binaryOp .Sub) subD := opd_int op_sub (fun d e z h => by unfold subD at h; split at h <;> first | exact ⟨_, _, rfl, rfl⟩ | cases h) fun i j z G H Q hz q => by
  simp only [subD, Option.some.injEq] at hz; subst hz; exact ⟨i, j, rfl, rfl, res_int q⟩
theorem isub_d : OpD X (inplaceOp .Sub) subD := opd_int iop_sub (fun d e z h => by unfold subD at h; split at h <;> first | exact ⟨_, _, rfl, rfl⟩ | cases h) fun i j z G H Q hz q => by
  simp only [subD, Option.some.injEq] at hz; subst hz; exact ⟨i, j, rfl, rfl, res_int q⟩
theorem div_d : OpD X (binaryOp .FloorDiv) divD := opd_int op_fdiv (fun d e z h => by unfold divD at h; split at h <;> first | exact ⟨_, _, rfl, rfl⟩ | cases h) fun i j z G H Q hz q => by
  unfold divD at hz
  simp only at hz
  split at hz
  · rename_i hc; cases hz; exact ⟨i, j, rfl, rfl, hc, res_int q⟩
  · cases hz
theorem mod_d : OpD X (binaryOp .Mod) modD := opd_int op_mod (fun d e z h => by unfold modD at h; split at h <;> first | exact ⟨_, _, rfl, rfl⟩ | cases h) fun i j z G H Q hz q => by
  unfold modD at hz
  simp only at hz
  split at hz
  · rename_i hc; cases hz; exact ⟨i, j, rfl, rfl, hc, res_int q⟩
  · cases hz
theorem pow_d : OpD X (binaryOp .Pow) powD := opd_int op_pow (fun d e z h => by unfold powD at h; split at h <;> first | exact ⟨_, _, rfl, rfl⟩ | cases h) fun i j z G H Q hz q => by
  unfold powD at hz
  simp only at hz
  split at hz
  · rename_i hc; cases hz; exact ⟨i, j, rfl, rfl, hc, res_int q⟩
  · cases hz
theorem shl_d : OpD X (binaryOp .LShift) shlD := opd_int op_shl (fun d e z h => by unfold shlD at h; split at h <;> first | exact ⟨_, _, rfl, rfl⟩ | cases h) fun i j z G H Q hz q => by
  unfold shlD at hz
  simp only at hz
  split at hz
  · rename_i hc; cases hz; exact ⟨i, j, rfl, rfl, hc, res_int q⟩
  · cases hz
theorem shr_d : OpD X (binaryOp .RShift) shrD := opd_int op_shr (fun d e z h => by unfold shrD at h; split at h <;> first | exact ⟨_, _, rfl, rfl⟩ | cases h) fun i j z G H Q hz q => by
  unfold shrD at hz
  simp only at hz
  split at hz
  · rename_i hc; cases hz; exact ⟨i, j, rfl, rfl, hc, res_int q⟩
  · cases hz
theorem bitD_inv {g : Int → Int → Int} : ∀ d e z, bitD g d e = some z → ∃ i j, d = .int i ∧ e = .int j := fun d e z h => by unfold bitD at h; split at h <;> first | exact ⟨_, _, rfl, rfl⟩ | cases h
theorem cmpD_inv {g : Int → Int → Bool} : ∀ d e z, cmpD g d e = some z → ∃ i j, d = .int i ∧ e = .int j := fun d e z h => by unfold cmpD at h; split at h <;> first | exact ⟨_, _, rfl, rfl⟩ | cases h
theorem and_d : OpD X (binaryOp .BitAnd) (bitD Builtin.bitAnd) := opd_int op_and bitD_inv fun i j z G H Q hz q => by cases hz; exact ⟨i, j, rfl, rfl, res_int q⟩
theorem or_d : OpD X (binaryOp .BitOr) (bitD Builtin.bitOr) := opd_int op_or bitD_inv fun i j z G H Q hz q => by cases hz; exact ⟨i, j, rfl, rfl, res_int q⟩
theorem xor_d : OpD X (binaryOp .BitXor) (bitD Builtin.bitXor) := opd_int op_xor bitD_inv fun i j z G H Q hz q => by cases hz; exact ⟨i, j, rfl, rfl, res_int q⟩
theorem ior_d : OpD X (inplaceOp .BitOr) (bitD Builtin.bitOr) := opd_int iop_or bitD_inv fun i j z G H Q hz q => by cases hz; exact ⟨i, j, rfl, rfl, res_int q⟩
theorem lt_d : OpD X (compareOp .Lt) (cmpD fun i j => decide (i < j)) := opd_int op_lt cmpD_inv fun i j z G H Q hz q => by cases hz; exact ⟨i, j, rfl, rfl, res_bl q⟩
theorem le_d : OpD X (compareOp .LtE) (cmpD fun i j => decide (i ≤ j)) := opd_int op_le cmpD_inv fun i j z G H Q hz q => by cases hz; exact ⟨i, j, rfl, rfl, res_bl q⟩
theorem gt_d : OpD X (compareOp .Gt) (cmpD fun i j => decide (j < i)) := opd_int op_gt cmpD_inv fun i j z G H Q hz q => by cases hz; exact ⟨i, j, rfl, rfl, res_bl q⟩
theorem ge_d : OpD X (compareOp .GtE) (cmpD fun i j => decide (j ≤ i)) := opd_int op_ge cmpD_inv fun i j z G H Q hz q => by cases hz; exact ⟨i, j, rfl, rfl, res_bl q⟩
/-- list + list, whatever list -/
def rCatS (K : PySem.W.Frag) : R2 := fun x y H Q => ∃ l b xs zs, x = .ref l ∧ y = .ref b ∧ SqL K H l xs ∧ SqL K H b zs ∧ xs.length + zs.length ≤ sizeLine ∧ ∀ p, H p = none → Q (.ref p) (upd H p (.lst (xs ++ zs)))
theorem inv_lst {pins : List (Addr × Obj)} {σ : L2.St} {H : Hp} {s : Shared} {l : Addr} {xs : List V} (I : Inv X pins σ H s) (h : SqL X.K H l xs) :
    ∃ (its : List Value) (n : Nat) (sl : Array (Option Value)), Vals xs its ∧ xs.length = its.length ∧ xs.length ≤ sizeLine ∧ s.heap.get? l = some { cls := .type "list", data := .seq its.toArray n, slots := sl } := by
  obtain ⟨its, r, ⟨o, n, e, hc, hd, hda⟩, hz⟩ := I.list h
  obtain ⟨cls, dd, data, sl⟩ := o
  simp only at hc hd hda
  subst hc hd hda
  exact ⟨its, n, sl, r, r.length, hz, e⟩
end
end DL

set_option Elab.async false
set_option linter.all false
set_option autoImplicit false
set_option maxRecDepth 100000
set_option maxHeartbeats 1000000
namespace DL
open PySem PySem.Spec PyProof.Rows L2

section
variable {X : Cx}
theorem op_catS : OpR X (binaryOp .Add) (rCatS X.K) := by
  intro pins s σ H x y v u Q I rx ry h
  obtain ⟨l, b, xs, zs, rfl, rfl, hH, hB, hz, q⟩ := h
  cases rx
  cases ry
  obtain ⟨its, n, sl, r, hl, z, e⟩ := inv_lst I hH
  obtain ⟨its2, n2, sl2, r2, hl2, z2, e2⟩ := inv_lst I hB
  have fits : (xs ++ zs).length ≤ sizeLine := by rw [List.length_append]; exact hz
  have got : Q (.ref s.heap.objs.size) (upd H s.heap.objs.size (.lst (xs ++ zs))) := q _ I.fresh
  have small : its.toArray.size + its2.toArray.size ≤ sizeLine := by simpa [hl, hl2] using hz
  have fin : EP X pins σ Q (.ref s.heap.objs.size) { s with heap := s.heap.push { cls := Value.type "list", data := Data.seq (its.toArray ++ its2.toArray) } } := by
    rw [show its.toArray ++ its2.toArray = (its ++ its2).toArray from List.append_toArray ..]
    exact ⟨.ref s.heap.objs.size, _, I.lnew (t' := s.toks) (r.append r2) fits, rfl, got⟩
  exact concat_meets ⟨_, e, rfl⟩ ⟨_, e2, rfl⟩ noFill_list_add seq_list_add PySem.F.slot_list_add PySem.F.entry_list_add (PySem.F.args_list_add_2 _ _) (list_addW l b its.toArray its2.toArray n n2 none none sl sl2 small) ⟨e, e2, fin⟩
theorem add_d : OpD X (binaryOp .Add) addD := by
  intro pins s σ H x y v u Q I rx ry h
  obtain ⟨G, d, e, z, gh, vx, vy, hz, q⟩ := h
  unfold addD at hz
  split at hz
  · cases hz
    rw [vd_int vx] at rx
    rw [vd_int vy] at ry
    exact op_add pins s σ H _ _ v u Q I rx ry ⟨_, _, rfl, rfl, res_int q⟩
  · rename_i x' y'
    split at hz
    · rename_i hc
      cases hz
      rw [vd_str vx] at rx
      rw [vd_str vy] at ry
      exact op_add_str pins s σ H _ _ v u Q I rx ry ⟨_, _, rfl, rfl, hc, res_str q⟩
    · cases hz
  · rename_i xs ys
    split at hz
    · rename_i hc
      cases hz
      obtain ⟨a, vs, rfl, g1, h1, p1⟩ := vd_tup gh vx
      obtain ⟨b, ws, rfl, g2, h2, p2⟩ := vd_tup gh vy
      have l1 := dpAll_length p1
      have l2 := dpAll_length p2
      refine op_catA pins s σ H _ _ v u Q I rx ry ⟨a, b, vs, ws, rfl, rfl, h1, h2, by omega, fun e0 => ?_, fun _ e0 => ?_, fun _ _ p hp => ?_⟩
      · subst e0
        have : xs = [] := List.eq_nil_of_length_eq_zero (by simpa using l1.symm)
        subst this
        exact res_val q (.tup g2 p2)
      · subst e0
        have : ys = [] := List.eq_nil_of_length_eq_zero (by simpa using l2.symm)
        subst this
        rw [List.append_nil] at q
        exact res_val q (.tup g1 p1)
      · exact res_tup q (g_none gh hp) hp (dpAll_append p1 p2)
    · cases hz
  · rename_i xs ys
    split at hz
    · rename_i hc
      cases hz
      obtain ⟨a, vs, rfl, h1, p1⟩ := vd_list vx
      obtain ⟨b, ws, rfl, h2, p2⟩ := vd_list vy
      have l1 := dpAll_length p1
      have l2 := dpAll_length p2
      exact op_catS pins s σ H _ _ v u Q I rx ry ⟨a, b, vs, ws, rfl, rfl, h1, h2, by omega, fun p hp => res_lst q hp (dpAll_append p1 p2)⟩
    · cases hz
  · cases hz
def iaddD : Dv → Dv → Option Rz
  | .int i, .int j => some (.sh (.int (i + j)))
  | _, _ => none
theorem iadd_d : OpD X (inplaceOp .Add) iaddD := opd_int iop_add (fun d e z h => by unfold iaddD at h; split at h <;> first | exact ⟨_, _, rfl, rfl⟩ | cases h) fun i j z G H Q hz q => by
  simp only [iaddD, Option.some.injEq] at hz; subst hz; exact ⟨i, j, rfl, rfl, res_int q⟩
def rRepS (K : PySem.W.Frag) : R2 := fun x y H Q => ∃ l k xs, x = .ref l ∧ y = .int k ∧ SqL K H l xs ∧ -(2 ^ 63) ≤ k ∧ k < 2 ^ 63 ∧ xs.length * k.toNat ≤ sizeLine ∧
  ∀ p, H p = none → Q (.ref p) (upd H p (.lst (List.replicate k.toNat xs).flatten))
theorem op_repS : OpR X (binaryOp .Mult) (rRepS X.K) := by
  intro pins s σ H x y v u Q I rx ry h
  obtain ⟨l, k, xs, rfl, rfl, hH, h1, h2, hz, q⟩ := h
  cases rx
  obtain ⟨t, rfl⟩ := ry
  obtain ⟨its, n, sl, r, hl, z, e⟩ := inv_lst I hH
  have cnt : its.toArray.size * k.toNat ≤ sizeLine := by
    rw [List.size_toArray, ← hl]
    exact hz
  have isL : s.TypeIs (.ref l) "list" := ⟨_, e, rfl⟩
  have isI := fun s' : Shared => typeIs_int s' k t
  have fin : EP X pins σ Q (.ref s.heap.objs.size) { s with heap := s.heap.push { cls := Value.type "list", data := Data.seq (List.foldl (fun x1 x2 => x1 ++ x2) #[] (List.replicate (if its.toArray.isEmpty = true then 0 else k.toNat) its.toArray)) }, toks := s.toks } := by
    rw [listMul_foldl_if]
    exact ⟨.ref s.heap.objs.size, _, I.lnew (t' := s.toks) (r.rep k.toNat) (by rw [lm_len_rep_flat, Nat.mul_comm]; exact hz), rfl, q _ I.fresh⟩
  have times := lm_list_mul_any l its.toArray n none sl k t (ne_true_of_eq_false (by rw [fitsIndex_both h1 h2]; rfl)) (Nat.not_lt.mpr (Nat.le_trans cnt (by decide))) (ne_true_of_eq_false (notLongL cnt))
  exact wpAny_binaryOp_repeat_ref (T := "list") (U := "int") (by decide) isL isI noFill_list_mul F.fills_int_mul F.slot_int_rmul repeat_list F.slot_int_index.lookup
    (call_meets F.slot_int_rmul (isI s) F.entry_int_rmul (F.args_int_rmul_2 _ _) (lm_int_rmul_list_any k t l its.toArray n none sl) ⟨e, rfl, isL, call_meets F.slot_list_mul isL F.entry_list_mul (F.args_list_mul_2 _ _) times ⟨e, fin⟩⟩)
theorem dpAll_rep {K : PySem.W.Frag} {G : Hp} {ds : List Dv} {vs : List V} (h : DpAll K G vs ds) : ∀ n : Nat, DpAll K G (List.replicate n vs).flatten (List.replicate n ds).flatten
  | 0 => by simp; exact .nil
  | n + 1 => by
    simp only [List.replicate_succ, List.flatten_cons]
    exact dpAll_append h (dpAll_rep h n)
theorem mul_d : OpD X (binaryOp .Mult) mulD := by
  intro pins s σ H x y v u Q I rx ry h
  obtain ⟨G, d, e, z, gh, vx, vy, hz, q⟩ := h
  unfold mulD at hz
  split at hz
  · split at hz
    · rename_i hc
      cases hz
      rw [vd_int vx] at rx
      rw [vd_int vy] at ry
      exact op_mul pins s σ H _ _ v u Q I rx ry ⟨_, _, rfl, rfl, hc, res_int q⟩
    · cases hz
  · split at hz
    · rename_i hc
      cases hz
      obtain ⟨a, vs, rfl, h1, p1⟩ := vd_list vx
      have l1 := dpAll_length p1
      rw [vd_int vy] at ry
      exact op_repS pins s σ H _ _ v u Q I rx ry ⟨a, _, vs, rfl, rfl, h1, hc.1, hc.2.1, by rw [l1]; exact hc.2.2, fun p hp => res_lst q hp (dpAll_rep p1 _)⟩
    · cases hz
  · split at hz
    · rename_i xs k hc
      cases hz
      obtain ⟨a, vs, rfl, g1, h1, p1⟩ := vd_tup gh vx
      have l1 := dpAll_length p1
      rw [vd_int vy] at ry
      refine op_repT pins s σ H _ _ v u Q I rx ry ⟨a, _, vs, rfl, rfl, h1, fun e0 => hc.1 ?_, hc.2.1, hc.2.2.1, by rw [l1]; exact hc.2.2.2, fun p hp => res_tup q (g_none gh hp) hp (dpAll_rep p1 _)⟩
      subst e0
      exact List.eq_nil_of_length_eq_zero (by simpa using l1.symm)
    · cases hz
  · cases hz
/-! ### == and != -/
theorem eqD_bool {d e : Dv} {b : Bool} (h : eqD d e = some b) : (∃ i j, d = .int i ∧ e = .int j ∧ b = decide (i = j)) ∨ (∃ i j, d = .str i ∧ e = .str j ∧ b = decide (i = j)) ∨ (SeqAt.shaped d = true ∧ SeqAt.shaped e = true ∧ b = PyData.eqv d e) := by
  unfold eqD at h
  split at h
  · exact .inl ⟨_, _, rfl, rfl, (Option.some.inj h).symm⟩
  · exact .inr (.inl ⟨_, _, rfl, rfl, (Option.some.inj h).symm⟩)
  · split at h
    · rename_i hc; exact .inr (.inr ⟨hc.1, hc.2, (Option.some.inj h).symm⟩)
    · cases h
theorem shaped_nodict {kvs : List (PyData × PyData)} : SeqAt.shaped (.dict kvs) = false := by
  unfold SeqAt.shaped
  simp [PyData.canLay0]
theorem nodict_of {d : Dv} (h : SeqAt.shaped d = true) : ∀ kvs, d ≠ .dict kvs := fun kvs e => by
  subst e
  rw [shaped_nodict] at h
  cases h
theorem eq_d (hu : X.A.units + 64 < cLine) : OpD X (compareOp .Eq) eqqD := by
  intro pins s σ H x y v u Q I rx ry h
  obtain ⟨G, d, e, z, gh, vx, vy, hz, q⟩ := h
  obtain ⟨b, hb, rfl⟩ := Option.map_eq_some_iff.mp hz
  rcases eqD_bool hb with ⟨i, j, rfl, rfl, rfl⟩ | ⟨i, j, rfl, rfl, rfl⟩ | ⟨h1, h2, rfl⟩
  · rw [vd_int vx] at rx
    rw [vd_int vy] at ry
    refine op_eq pins s σ H _ _ v u Q I rx ry ⟨rfl, ?_⟩
    have := res_bl q
    rw [dec_int, Bool.beq_eq_decide_eq]
    exact this
  · rw [vd_str vx] at rx
    rw [vd_str vy] at ry
    refine op_eq pins s σ H _ _ v u Q I rx ry ⟨rfl, ?_⟩
    have := res_bl q
    rw [dec_str]
    rw [show (i == j) = decide (i = j) by rw [Bool.eq_iff_iff]; simp]
    exact this
  · exact op_eqD hu pins s σ H _ _ v u Q I rx ry ⟨d, e, vd_dp gh vx (nodict_of h1), vd_dp gh vy (nodict_of h2), h1, h2, res_bl q⟩
theorem ne_d (hu : X.A.units + 64 < cLine) : OpD X (compareOp .NotEq) neqD := by
  intro pins s σ H x y v u Q I rx ry h
  obtain ⟨G, d, e, z, gh, vx, vy, hz, q⟩ := h
  obtain ⟨b, hb, rfl⟩ := Option.map_eq_some_iff.mp hz
  rcases eqD_bool hb with ⟨i, j, rfl, rfl, rfl⟩ | ⟨i, j, rfl, rfl, rfl⟩ | ⟨h1, h2, rfl⟩
  · rw [vd_int vx] at rx
    rw [vd_int vy] at ry
    refine op_ne pins s σ H _ _ v u Q I rx ry ⟨rfl, ?_⟩
    have := res_bl q
    rw [dec_int, Bool.beq_eq_decide_eq]
    exact this
  · rw [vd_str vx] at rx
    rw [vd_str vy] at ry
    refine op_ne pins s σ H _ _ v u Q I rx ry ⟨rfl, ?_⟩
    have := res_bl q
    rw [dec_str]
    rw [show (i == j) = decide (i = j) by rw [Bool.eq_iff_iff]; simp]
    exact this
  · exact op_neD hu pins s σ H _ _ v u Q I rx ry ⟨d, e, vd_dp gh vx (nodict_of h1), vd_dp gh vy (nodict_of h2), h1, h2, res_bl q⟩
theorem non_vd {K : PySem.W.Frag} {G H : Hp} {d : Dv} {v : V} (h : VD K G H d v) : decide (v = .non) = isNone d := by
  cases d with
  | none => rw [vd_none h]; rfl
  | bool b => rw [vd_bool h]; rfl
  | int b => rw [vd_int h]; rfl
  | str b => rw [vd_str h]; rfl
  | list b => obtain ⟨a, vs, rfl, _⟩ := vd_list h; rfl
  | tuple b =>
    have h' : Dp K G v (.tuple b) := h
    cases h' with | tup _ _ => rfl
  | dict b => obtain ⟨a, vs, rfl, _⟩ := (show ∃ a ks, v = .ref a ∧ H a = some (.dK ks) ∧ DKV K G ks b from h); rfl
theorem isNone_eq {d : Dv} (h : isNone d = true) : d = .none := by
  cases d <;> first | rfl | cases h
theorem is_d : OpD X (compareOp .Is) isND := by
  refine op_imp op_isN fun x y H Q ⟨G, d, e, z, gh, vx, vy, hz, q⟩ => ?_
  unfold isND at hz
  split at hz
  · rename_i hn
    cases hz
    rw [isNone_eq hn] at vy
    refine ⟨vd_none vy, ?_⟩
    rw [non_vd vx]
    exact res_bl q
  · cases hz
theorem isnot_d : OpD X (compareOp .IsNot) notND := by
  refine op_imp op_notN fun x y H Q ⟨G, d, e, z, gh, vx, vy, hz, q⟩ => ?_
  unfold notND at hz
  split at hz
  · rename_i hn
    cases hz
    rw [isNone_eq hn] at vy
    refine ⟨vd_none vy, ?_⟩
    rw [non_vd vx]
    exact res_bl q
  · cases hz
/-! ### in -/
def rInT (K : PySem.W.Frag) : R2 := fun x y H Q => ∃ d ds, Dp K H x d ∧ Dp K H y (.tuple ds) ∧ SeqAt.shaped d = true ∧ SeqAt.shaped (.tuple ds) = true ∧ Q (.bl (ds.any fun z => PyData.eqv z d)) H
def rNotInT (K : PySem.W.Frag) : R2 := fun x y H Q => ∃ d ds, Dp K H x d ∧ Dp K H y (.tuple ds) ∧ SeqAt.shaped d = true ∧ SeqAt.shaped (.tuple ds) = true ∧ Q (.bl (!ds.any fun z => PyData.eqv z d)) H
theorem op_inT (hu : X.A.units + 65 < cLine) : OpR X (compareOp .In) (rInT X.K) := by
  intro pins s σ H x y v u Q I rx ry h
  obtain ⟨d, ds, hd, he, sd, se, q⟩ := h
  obtain ⟨as, r1⟩ := Dp.reads I d x v hd rx
  obtain ⟨bs, r2⟩ := Dp.reads I (.tuple ds) y u he ry
  exact SeqAt.in_tuple_reads r2 r1 (SeqAt.canLay_of_shaped se) (SeqAt.canLay_of_shaped sd) (room_in_shaped sd hu) ⟨.bl _, H, I, rfl, q⟩
theorem op_notInT (hu : X.A.units + 65 < cLine) : OpR X (compareOp .NotIn) (rNotInT X.K) := by
  intro pins s σ H x y v u Q I rx ry h
  obtain ⟨d, ds, hd, he, sd, se, q⟩ := h
  obtain ⟨as, r1⟩ := Dp.reads I d x v hd rx
  obtain ⟨bs, r2⟩ := Dp.reads I (.tuple ds) y u he ry
  exact SeqAt.notIn_tuple_reads r2 r1 (SeqAt.canLay_of_shaped se) (SeqAt.canLay_of_shaped sd) (room_in_shaped sd hu) ⟨.bl _, H, I, rfl, q⟩
theorem inSeq_inv {d e : Dv} {b : Bool} (h : inSeq d e = some b) : (∃ ds, e = .list ds ∧ SeqAt.shaped d = true ∧ SeqAt.shaped (.list ds) = true ∧ b = ds.any fun z => PyData.eqv z d) ∨ (∃ ds, e = .tuple ds ∧ SeqAt.shaped d = true ∧ SeqAt.shaped (.tuple ds) = true ∧ b = ds.any fun z => PyData.eqv z d) := by
  unfold inSeq at h
  split at h
  · split at h
    · rename_i hc; exact .inl ⟨_, rfl, hc.1, hc.2, (Option.some.inj h).symm⟩
    · cases h
  · split at h
    · rename_i hc; exact .inr ⟨_, rfl, hc.1, hc.2, (Option.some.inj h).symm⟩
    · cases h
  · cases h
theorem in_d (hu : X.A.units + 65 < cLine) : OpD X (compareOp .In) inSD := by
  intro pins s σ H x y v u Q I rx ry h
  obtain ⟨G, d, e, z, gh, vx, vy, hz, q⟩ := h
  obtain ⟨b, hb, rfl⟩ := Option.map_eq_some_iff.mp hz
  rcases inSeq_inv hb with ⟨ds, rfl, h1, h2, rfl⟩ | ⟨ds, rfl, h1, h2, rfl⟩
  · exact op_inD hu pins s σ H _ _ v u Q I rx ry ⟨d, ds, vd_dp gh vx (nodict_of h1), vd_dp gh vy (nodict_of h2), h1, h2, res_bl q⟩
  · exact op_inT hu pins s σ H _ _ v u Q I rx ry ⟨d, ds, vd_dp gh vx (nodict_of h1), vd_dp gh vy (nodict_of h2), h1, h2, res_bl q⟩
theorem nin_d (hu : X.A.units + 65 < cLine) : OpD X (compareOp .NotIn) ninSD := by
  intro pins s σ H x y v u Q I rx ry h
  obtain ⟨G, d, e, z, gh, vx, vy, hz, q⟩ := h
  obtain ⟨b, hb, rfl⟩ := Option.map_eq_some_iff.mp hz
  rcases inSeq_inv hb with ⟨ds, rfl, h1, h2, rfl⟩ | ⟨ds, rfl, h1, h2, rfl⟩
  · exact op_notInD hu pins s σ H _ _ v u Q I rx ry ⟨d, ds, vd_dp gh vx (nodict_of h1), vd_dp gh vy (nodict_of h2), h1, h2, res_bl q⟩
  · exact op_notInT hu pins s σ H _ _ v u Q I rx ry ⟨d, ds, vd_dp gh vx (nodict_of h1), vd_dp gh vy (nodict_of h2), h1, h2, res_bl q⟩
/-! ### subscripts -/
theorem atI_dp {K : PySem.W.Frag} {G : Hp} {ds : List Dv} {vs : List V} {i : Int} {d : Dv} (p : DpAll K G vs ds) (h : atI ds i = some d) : ∃ v, atI vs i = some v ∧ Dp K G v d := by
  unfold atI at h ⊢
  rw [dpAll_length p]
  obtain ⟨j, hj, hd⟩ := Option.bind_eq_some_iff.mp h
  obtain ⟨v, hv, q⟩ := dpAll_get p hd
  exact ⟨v, by rw [hj]; exact hv, q⟩
theorem ix_d : IxD X ixD := by
  intro value slice pins s σ H x y v u Q I rx ry h hs
  obtain ⟨G, d, e, z, gh, vx, vy, hz, q⟩ := h
  unfold ixD at hz
  split at hz
  · obtain ⟨d', hd', rfl⟩ := Option.map_eq_some_iff.mp hz
    obtain ⟨a, vs, rfl, h1, p1⟩ := vd_list vx
    rw [vd_int vy] at ry
    obtain ⟨w, hw, qw⟩ := atI_dp p1 hd'
    exact ix_list value slice pins s σ H _ _ v u Q I rx ry ⟨a, vs, _, w, rfl, rfl, h1, hw, res_val q qw⟩ hs
  · obtain ⟨d', hd', rfl⟩ := Option.map_eq_some_iff.mp hz
    obtain ⟨a, vs, rfl, g1, h1, p1⟩ := vd_tup gh vx
    rw [vd_int vy] at ry
    obtain ⟨w, hw, qw⟩ := atI_dp p1 hd'
    exact ix_tup value slice pins s σ H _ _ v u Q I rx ry ⟨a, vs, _, w, rfl, rfl, h1, hw, res_val q qw⟩ hs
  · split at hz
    · rename_i hc
      obtain ⟨c, hc', rfl⟩ := Option.map_eq_some_iff.mp hz
      rw [vd_str vx] at rx
      rw [vd_int vy] at ry
      exact ix_str value slice pins s σ H _ _ v u Q I rx ry ⟨_, _, c, rfl, rfl, hc, hc', res_str q⟩ hs
    · cases hz
  · cases hz
end
end DL

set_option Elab.async false
set_option linter.all false
set_option autoImplicit false
set_option maxRecDepth 100000
set_option maxHeartbeats 1000000
namespace DL
open PySem PySem.Spec PyProof.Rows L2

/-! ### argument lists, displays -/
def aNil : MA := fun ρ => some ([], ρ)
def aCons (f : M) (g : MA) : MA := fun ρ => (f ρ).bind fun x => (g x.2).bind fun y => some (x.1 :: y.1, y.2)
def shs : List Rv → Option (List Dv)
  | [] => some []
  | .sh d :: rs => (shs rs).map (d :: ·)
  | _ :: _ => none
def eTup (g : MA) : M := fun ρ => (g ρ).bind fun x => (shs x.1).bind fun ds => if ds.length ≤ sizeLine then some (.sh (.tuple ds), x.2) else none
def eLst (g : MA) : M := fun ρ => (g ρ).bind fun x => (shs x.1).bind fun ds => if ds.length ≤ sizeLine then some (.ow (.lst ds), x.2) else none
def eDct : M := fun ρ => some (.ow (.dct []), ρ)
section
variable {X : Cx} {ix : List Nat} {e a b c : Expr} {es : List Expr} {f fa fb fc : M} {g : MA} {pos : Pos}
theorem da_nil : PA X [] (TA' X.K ix aNil) := pa_imp pa_nil fun σ H Q ⟨Fr, FX, G, ρ, rs, ρ', R, hf, k⟩ => by
  cases hf
  exact k [] G H (Sub.refl _) R trivial
theorem hold_list {ta : TA} {σ : L2.St} {H : Hp} {K : PySem.W.Frag} {Fr G : Hp} {FX : Nat → Option V} {ρ ρ1 : Rho} {r : Rv} {ss : List Rv} {x : V} {R : List V → Hp → Prop}
    (R1 : RS K ix Fr FX G ρ σ H) (v1 : VOk K Fr G H ρ σ r x) (hb : g ρ = some (ss, ρ1))
    (k : ∀ ys G2 H2, Sub G G2 → RS K ix Fr FX G2 ρ1 σ H2 → VOks K Fr G2 H2 ρ1 σ (r :: ss) (x :: ys) → R ys H2) :
    TA' K ix g σ H R := by
  cases r with
  | sh d => exact ⟨Fr, FX, G, ρ, ss, ρ1, R1, hb, fun y G2 H2 su R2 v2 => k y G2 H2 su R2 ⟨dp_mono su _ _ v1, (fun o a z => nomatch z), v2⟩⟩
  | al i => exact ⟨Fr, FX, G, ρ, ss, ρ1, R1, hb, fun y G2 H2 su R2 v2 => k y G2 H2 su R2 ⟨v1, (fun o a z => nomatch z), v2⟩⟩
  | ow o =>
    obtain ⟨p, rfl, g0, f0, c, hn⟩ := v1
    obtain ⟨u, hu⟩ := c.some
    refine ⟨upd Fr p u, FX, G, ρ, ss, ρ1, R1.frame g0 hu hn, hb, fun y G2 H2 su R2 v2 => ?_⟩
    have g2 : G2 p = none := R2.gf p (by rw [upd_same]; simp)
    have h2 : H2 p = H p := (R2.fh p u upd_same).trans hu.symm
    have un : ∀ (rs : List Rv) (vs : List V), VOks K (upd Fr p u) G2 H2 ρ1 σ rs vs → VOks K Fr G2 H2 ρ1 σ rs vs ∧ ∀ (j : Nat) (o' : Ob), rs[j]? = some (.ow o') → vs[j]? ≠ some (.ref p) := by
      intro rs
      induction rs with
      | nil =>
        intro vs h
        cases vs with
        | nil => exact ⟨trivial, fun j o' e => by simp at e⟩
        | cons v vs => exact False.elim h
      | cons r rs ih =>
        intro vs h
        cases vs with
        | nil => exact False.elim h
        | cons v vs =>
          obtain ⟨h1, h2', h3⟩ := h
          obtain ⟨i1, i2⟩ := ih vs h3
          have q1 : VOk K Fr G2 H2 ρ1 σ r v ∧ ∀ o', r = .ow o' → v ≠ .ref p := by
            cases r with
            | sh d => exact ⟨h1, fun o' z => nomatch z⟩
            | al i => exact ⟨h1, fun o' z => nomatch z⟩
            | ow o' =>
              obtain ⟨q, rfl, g', f', c', hn'⟩ := h1
              have hq : q ≠ p := fun z => by subst z; rw [upd_same] at f'; cases f'
              rw [upd_ne hq] at f'
              exact ⟨⟨q, rfl, g', f', c', hn'⟩, fun o2 _ z => hq (V.ref.inj z)⟩
          refine ⟨⟨q1.1, h2', i1⟩, fun j o' e => ?_⟩
          cases j with
          | zero =>
            simp only [List.getElem?_cons_zero, Option.some.injEq] at e ⊢
            exact fun z => q1.2 o' e (Option.some.inj z)
          | succ j =>
            simp only [List.getElem?_cons_succ] at e ⊢
            exact i2 j o' e
    obtain ⟨u1, u2⟩ := un ss y v2
    refine k y G2 H2 su (R2.unframe f0) ⟨⟨p, rfl, g2, f0, c.mono su h2, fun i o' e e1 => ?_⟩, fun o1 a1 _ z j o' e => ?_, u1⟩
    · obtain ⟨a, e2, _, f2, _⟩ := R2.sl i _ e
      rw [e1] at e2
      cases e2
      rw [upd_same] at f2
      cases f2
    · cases z
      exact u2 j o' e
theorem da_cons (ha : PE X e (TE' X.K ix f)) (hr : PA X es (TA' X.K ix g)) (hs : starEach (e :: es) X.env = (false, eval e X.env) :: starEach es X.env := by rfl) : PA X (e :: es) (TA' X.K ix (aCons f g)) :=
  pa_imp (pa_cons ha hr hs) fun σ H Q ⟨Fr, FX, G, ρ, rs, ρ', R, hf, k⟩ => by
    unfold aCons at hf
    obtain ⟨⟨r1, ρ1⟩, h1, hf⟩ := Option.bind_eq_some_iff.mp hf
    obtain ⟨⟨ss, ρ2⟩, h2, hf⟩ := Option.bind_eq_some_iff.mp hf
    cases hf
    refine ⟨Fr, FX, G, ρ, r1, ρ1, R, h1, fun x G1 H1 s1 R1 v1 => ?_⟩
    exact hold_list (ta := TA' X.K ix g) R1 v1 h2 fun ys G2 H2 s2 R2 v2 => k _ G2 H2 (s1.trans s2) R2 v2
theorem shs_dp {K : PySem.W.Frag} {Fr G H : Hp} {ρ : Rho} {σ : L2.St} : ∀ {rs : List Rv} {ds : List Dv} {vs : List V}, VOks K Fr G H ρ σ rs vs → shs rs = some ds → DpAll K G vs ds
  | [], _, [], _, h => by cases h; exact .nil
  | [], _, _ :: _, h, _ => False.elim h
  | .sh d :: rs, _, [], h, _ => False.elim h
  | .sh d :: rs, _, v :: vs, ⟨h1, _, h3⟩, h => by
    obtain ⟨es, he, rfl⟩ := Option.map_eq_some_iff.mp h
    exact .cons h1 (shs_dp h3 he)
  | .ow _ :: rs, _, _, _, h => by cases h
  | .al _ :: rs, _, _, _, h => by cases h
theorem de_tup {x1} (h : PA X es (TA' X.K ix g)) : PE X (.Tuple es x1 pos) (TE' X.K ix (eTup g)) :=
  pe_imp (pe_tup h) fun σ H Q ⟨Fr, FX, G, ρ, r, ρ', R, hf, k⟩ => by
    unfold eTup at hf
    obtain ⟨⟨rs, ρ1⟩, h1, hf⟩ := Option.bind_eq_some_iff.mp hf
    obtain ⟨ds, h2, hf⟩ := Option.bind_eq_some_iff.mp hf
    simp only at hf
    split at hf
    · rename_i hc
      cases hf
      refine ⟨Fr, FX, G, ρ, rs, _, R, h1, fun vs G1 H1 s1 R1 v1 => ?_⟩
      have q := shs_dp v1 h2
      refine ⟨by rw [dpAll_length q]; exact hc, fun p hp => ?_⟩
      have s2 := sub_upd (o := HO.tup vs) (R1.none_of hp).1
      exact k (.ref p) _ _ (s1.trans s2) (R1.newG hp) (Dp.tup (.inl (.inl upd_same)) (dpAll_mono s2 _ _ q))
    · cases hf
theorem de_lst (h : PA X es (TA' X.K ix g)) : PE X (.List es pos) (TE' X.K ix (eLst g)) :=
  pe_imp (pe_lst h) fun σ H Q ⟨Fr, FX, G, ρ, r, ρ', R, hf, k⟩ => by
    unfold eLst at hf
    obtain ⟨⟨rs, ρ1⟩, h1, hf⟩ := Option.bind_eq_some_iff.mp hf
    obtain ⟨ds, h2, hf⟩ := Option.bind_eq_some_iff.mp hf
    simp only at hf
    split at hf
    · rename_i hc
      cases hf
      refine ⟨Fr, FX, G, ρ, rs, _, R, h1, fun vs G1 H1 s1 R1 v1 => ?_⟩
      have q := shs_dp v1 h2
      refine ⟨by rw [dpAll_length q]; exact hc, fun p hp => ?_⟩
      exact k (.ref p) G1 _ s1 (R1.newH hp) ⟨p, rfl, (R1.none_of hp).1, (R1.none_of hp).2, ⟨vs, upd_same, q⟩, R1.notIn hp⟩
    · cases hf
theorem de_dnew : PE X (.Dict [] [] pos) (TE' X.K ix eDct) :=
  pe_imp pe_dnewK fun σ H Q ⟨Fr, FX, G, ρ, r, ρ', R, hf, k⟩ => by
    cases hf
    intro p hp
    exact k (.ref p) G _ (Sub.refl _) (R.newH hp) ⟨p, rfl, (R.none_of hp).1, (R.none_of hp).2, ⟨[], upd_same, .nil⟩, R.notIn hp⟩

/-! ### truth, tests -/
def truD : Dv → Option Bool
  | .none => some false
  | .bool b => some b
  | .int i => some (i != 0)
  | .str y => if y.length ≤ sizeLine then some ((y.length : Int) != 0) else none
  | .list xs => some (!xs.isEmpty)
  | .tuple xs => some (!xs.isEmpty)
  | .dict xs => some (!xs.isEmpty)
theorem isEmpty_dp {K : PySem.W.Frag} {G : Hp} {ds : List Dv} {vs : List V} (h : DpAll K G vs ds) : vs.isEmpty = ds.isEmpty := by
  cases h <;> rfl
theorem tru_vd {K : PySem.W.Frag} {G H : Hp} {d : Dv} {v : V} {k : Bool} (gh : ∀ a o, G a = some o → H a = some o) (h : VD K G H d v) (e : truD d = some k) : TruV K v H k := by
  cases d with
  | none => rw [vd_none h]; cases e; rfl
  | bool b => rw [vd_bool h]; cases e; rfl
  | int b => rw [vd_int h]; cases e; rfl
  | str b =>
    rw [vd_str h]
    unfold truD at e
    simp only at e
    split at e
    · rename_i hc; cases e; exact ⟨hc, rfl⟩
    · cases e
  | list b =>
    obtain ⟨a, vs, rfl, h1, h2⟩ := vd_list h
    cases e
    exact .inl ⟨vs, h1, by rw [isEmpty_dp h2]⟩
  | tuple b =>
    obtain ⟨a, vs, rfl, _, h1, h2⟩ := vd_tup gh h
    cases e
    exact .inr (.inl ⟨vs, h1, by rw [isEmpty_dp h2]⟩)
  | dict b =>
    obtain ⟨a, vs, rfl, h1, h2⟩ := (show ∃ a ks, v = .ref a ∧ H a = some (.dK ks) ∧ DKV K G ks b from h)
    cases e
    exact .inr (.inr ⟨vs, h1, by cases h2 <;> rfl⟩)
/-- an expression as a test -/
def tV (f : M) : MB := fun ρ => (pkM f ρ).bind fun x => (dat x.2 x.1).bind fun d => (truD d).bind fun k => some (k, x.2)
def tNo (t : MB) : MB := fun ρ => (t ρ).bind fun x => some (!x.1, x.2)
def tAn (t u : MB) : MB := fun ρ => (t ρ).bind fun x => if x.1 = true then u x.2 else some (false, x.2)
def tOr' (t u : MB) : MB := fun ρ => (t ρ).bind fun x => if x.1 = true then some (true, x.2) else u x.2
def eIf (t : MB) (fa fb : M) : M := fun ρ => (t ρ).bind fun x => if x.1 = true then fa x.2 else fb x.2
def eNot (f : M) : M := fun ρ => (tV f ρ).bind fun x => some (.sh (.bool (!x.1)), x.2)
/-- x and y, x or y as values -/
def eAnd (fa fb : M) : M := fun ρ => (pkM fa ρ).bind fun x => (dat x.2 x.1).bind fun d => (truD d).bind fun k => if k = true then fb x.2 else some x
def eOr (fa fb : M) : M := fun ρ => (pkM fa ρ).bind fun x => (dat x.2 x.1).bind fun d => (truD d).bind fun k => if k = true then some x else fb x.2
variable {t u : MB}
theorem dt_truth (ha : PE X a (TE' X.K ix f)) (he : ∀ whole, isTrue a X.env whole = (do let v ← whole; standAt a.pos; holding [v] (truthy v)) := by intro _; rfl) : PT X a (TT' X.K ix (tV f)) :=
  pt_imp (pt_truth (de_pk ha) he) fun σ H Q ⟨Fr, FX, G, ρ, r, ρ', R, hf, k⟩ => by
    unfold tV at hf
    obtain ⟨⟨r1, ρ1⟩, h1, hf⟩ := Option.bind_eq_some_iff.mp hf
    obtain ⟨d, h2, hf⟩ := Option.bind_eq_some_iff.mp hf
    obtain ⟨kk, h3, hf⟩ := Option.bind_eq_some_iff.mp hf
    cases hf
    refine ⟨Fr, FX, G, ρ, r1, _, R, h1, fun x G1 H1 s1 R1 v1 => ?_⟩
    exact ⟨_, tru_vd R1.gh (dat_vd R1 v1 h2) h3, k G1 H1 s1 R1⟩
/-- an expression that is a truth, as a test -/
def tB (f : M) : MB := fun ρ => (f ρ).bind fun x => match x.1 with
  | .sh (.bool k) => some (k, x.2)
  | _ => none
theorem tB_inv {f : M} {ρ ρ' : Rho} {b : Bool} (h : tB f ρ = some (b, ρ')) : f ρ = some (.sh (.bool b), ρ') := by
  unfold tB at h
  obtain ⟨⟨r, ρ1⟩, h1, h⟩ := Option.bind_eq_some_iff.mp h
  simp only at h
  split at h
  · cases h; exact h1
  · cases h
theorem tb_ok {σ : L2.St} {H : Hp} {Q : Bool → Hp → Prop} (h : TT' X.K ix (tB f) σ H Q) : TE' X.K ix f σ H fun x H' => ∃ k, x = .bl k ∧ Q k H' := by
  obtain ⟨Fr, FX, G, ρ, r, ρ', R, hf, k⟩ := h
  refine ⟨Fr, FX, G, ρ, _, _, R, tB_inv hf, fun v G1 H1 s1 R1 v1 => ?_⟩
  have v1' : Dp X.K G1 v (.bool r) := v1
  cases v1'
  exact ⟨r, rfl, k G1 H1 s1 R1⟩
theorem dt_cmp {op : CmpOp} {g : Dv → Dv → Option Rz} (ho : OpD X (compareOp op) g) (ha : PE X a (TE' X.K ix fa)) (hb : PE X b (TE' X.K ix fb)) (hm : behindInMarks op b = false := by first | exact nomark _ | rfl) :
    PT X (.Compare a [op] [b] pos) (TT' X.K ix (tB (binS g fa fb))) :=
  pt_imp (pt_cmpR ho (de_pk ha) (de_pk hb) hm) fun σ H Q h => bin_ok (tb_ok h) fun _ _ _ q => q
theorem dt_not (h : PT X a (TT' X.K ix t)) : PT X (.UnaryOp .Not a pos) (TT' X.K ix (tNo t)) :=
  pt_imp (pt_not h) fun σ H Q ⟨Fr, FX, G, ρ, r, ρ', R, hf, k⟩ => by
    unfold tNo at hf
    obtain ⟨⟨b1, ρ1⟩, h1, hf⟩ := Option.bind_eq_some_iff.mp hf
    cases hf
    exact ⟨Fr, FX, G, ρ, b1, _, R, h1, fun G1 H1 s1 R1 => k G1 H1 s1 R1⟩
variable {rest : List Expr}
theorem dw_and1 (h : PT X a (TT' X.K ix t)) : PW X (.BoolOp .And [a] pos) (TT' X.K ix t) := pw_and1 h
theorem dw_or1 (h : PT X a (TT' X.K ix t)) : PW X (.BoolOp .Or [a] pos) (TT' X.K ix t) := pw_or1 h
theorem dw_and (ha : PT X a (TT' X.K ix t)) (hb : PW X (.BoolOp .And (b :: rest) pos) (TT' X.K ix u)) : PW X (.BoolOp .And (a :: b :: rest) pos) (TT' X.K ix (tAn t u)) :=
  pw_imp (pw_and ha hb) fun σ H Q ⟨Fr, FX, G, ρ, r, ρ', R, hf, k⟩ => by
    unfold tAn at hf
    obtain ⟨⟨b1, ρ1⟩, h1, hf⟩ := Option.bind_eq_some_iff.mp hf
    refine ⟨Fr, FX, G, ρ, b1, ρ1, R, h1, fun G1 H1 s1 R1 => ?_⟩
    cases b1 with
    | true => exact ⟨Fr, FX, G1, ρ1, r, ρ', R1, hf, fun G2 H2 s2 R2 => k G2 H2 (s1.trans s2) R2⟩
    | false => cases hf; exact k G1 H1 s1 R1
theorem dw_or (ha : PT X a (TT' X.K ix t)) (hb : PW X (.BoolOp .Or (b :: rest) pos) (TT' X.K ix u)) : PW X (.BoolOp .Or (a :: b :: rest) pos) (TT' X.K ix (tOr' t u)) :=
  pw_imp (pw_or ha hb) fun σ H Q ⟨Fr, FX, G, ρ, r, ρ', R, hf, k⟩ => by
    unfold tOr' at hf
    obtain ⟨⟨b1, ρ1⟩, h1, hf⟩ := Option.bind_eq_some_iff.mp hf
    refine ⟨Fr, FX, G, ρ, b1, ρ1, R, h1, fun G1 H1 s1 R1 => ?_⟩
    cases b1 with
    | false => exact ⟨Fr, FX, G1, ρ1, r, ρ', R1, hf, fun G2 H2 s2 R2 => k G2 H2 (s1.trans s2) R2⟩
    | true => cases hf; exact k G1 H1 s1 R1
theorem de_ifExp (hc : PT X c (TT' X.K ix t)) (ha : PE X a (TE' X.K ix fa)) (hb : PE X b (TE' X.K ix fb)) : PE X (.IfExp c a b pos) (TE' X.K ix (eIf t fa fb)) :=
  pe_imp (pe_ifExp hc ha hb) fun σ H Q ⟨Fr, FX, G, ρ, r, ρ', R, hf, k⟩ => by
    unfold eIf at hf
    obtain ⟨⟨b1, ρ1⟩, h1, hf⟩ := Option.bind_eq_some_iff.mp hf
    refine ⟨Fr, FX, G, ρ, b1, ρ1, R, h1, fun G1 H1 s1 R1 => ?_⟩
    cases b1 with
    | true => exact ⟨Fr, FX, G1, ρ1, r, ρ', R1, hf, fun v G2 H2 s2 R2 => k v G2 H2 (s1.trans s2) R2⟩
    | false => exact ⟨Fr, FX, G1, ρ1, r, ρ', R1, hf, fun v G2 H2 s2 R2 => k v G2 H2 (s1.trans s2) R2⟩
theorem de_not (ha : PE X a (TE' X.K ix f)) : PE X (.UnaryOp .Not a pos) (TE' X.K ix (eNot f)) :=
  pe_imp (pe_notT (de_pk ha)) fun σ H Q ⟨Fr, FX, G, ρ, r, ρ', R, hf, k⟩ => by
    unfold eNot tV at hf
    obtain ⟨⟨b1, ρ1⟩, h0, hf⟩ := Option.bind_eq_some_iff.mp hf
    cases hf
    obtain ⟨⟨r1, ρ2⟩, h1, h0⟩ := Option.bind_eq_some_iff.mp h0
    obtain ⟨d, h2, h0⟩ := Option.bind_eq_some_iff.mp h0
    obtain ⟨kk, h3, h0⟩ := Option.bind_eq_some_iff.mp h0
    cases h0
    refine ⟨Fr, FX, G, ρ, r1, _, R, h1, fun x G1 H1 s1 R1 v1 => ?_⟩
    exact ⟨_, tru_vd R1.gh (dat_vd R1 v1 h2) h3, k _ G1 H1 s1 R1 (.bl _)⟩
theorem de_one {op} (h : PE X a (TE' X.K ix f)) : PE X (.BoolOp op [a] pos) (TE' X.K ix f) := pe_one h
theorem de_and (ha : PE X a (TE' X.K ix fa)) (hb : PE X (.BoolOp .And (b :: rest) pos) (TE' X.K ix fb)) : PE X (.BoolOp .And (a :: b :: rest) pos) (TE' X.K ix (eAnd fa fb)) :=
  pe_imp (pe_andT (de_pk ha) hb) fun σ H Q ⟨Fr, FX, G, ρ, r, ρ', R, hf, k⟩ => by
    unfold eAnd at hf
    obtain ⟨⟨r1, ρ1⟩, h1, hf⟩ := Option.bind_eq_some_iff.mp hf
    obtain ⟨d, h2, hf⟩ := Option.bind_eq_some_iff.mp hf
    obtain ⟨kk, h3, hf⟩ := Option.bind_eq_some_iff.mp hf
    refine ⟨Fr, FX, G, ρ, r1, ρ1, R, h1, fun x G1 H1 s1 R1 v1 => ⟨kk, tru_vd R1.gh (dat_vd R1 v1 h2) h3, ?_⟩⟩
    cases kk with
    | true => exact ⟨Fr, FX, G1, ρ1, r, ρ', R1, hf, fun v G2 H2 s2 R2 => k v G2 H2 (s1.trans s2) R2⟩
    | false => cases hf; exact k x G1 H1 s1 R1 v1
theorem de_or (ha : PE X a (TE' X.K ix fa)) (hb : PE X (.BoolOp .Or (b :: rest) pos) (TE' X.K ix fb)) : PE X (.BoolOp .Or (a :: b :: rest) pos) (TE' X.K ix (eOr fa fb)) :=
  pe_imp (pe_orT (de_pk ha) hb) fun σ H Q ⟨Fr, FX, G, ρ, r, ρ', R, hf, k⟩ => by
    unfold eOr at hf
    obtain ⟨⟨r1, ρ1⟩, h1, hf⟩ := Option.bind_eq_some_iff.mp hf
    obtain ⟨d, h2, hf⟩ := Option.bind_eq_some_iff.mp hf
    obtain ⟨kk, h3, hf⟩ := Option.bind_eq_some_iff.mp hf
    refine ⟨Fr, FX, G, ρ, r1, ρ1, R, h1, fun x G1 H1 s1 R1 v1 => ⟨kk, tru_vd R1.gh (dat_vd R1 v1 h2) h3, ?_⟩⟩
    cases kk with
    | false => exact ⟨Fr, FX, G1, ρ1, r, ρ', R1, hf, fun v G2 H2 s2 R2 => k v G2 H2 (s1.trans s2) R2⟩
    | true => cases hf; exact k x G1 H1 s1 R1 v1
/-! ### chains: a < b < c -/
def eChain (g g' : Dv → Dv → Option Rz) (fa fb fc : M) : M := fun ρ => (pkM fa ρ).bind fun x => (pkM fb x.2).bind fun y => match y.1 with
  | .sh e => (dat y.2 x.1).bind fun d => (g d e).bind fun r => (match r with
    | .sh (.bool true) => (pkM fc y.2).bind fun z => (dat z.2 z.1).bind fun e2 => (g' e e2).bind fun r' => some (r'.rv, z.2)
    | .sh (.bool false) => some (.sh (.bool false), y.2)
    | _ => none)
  | _ => none
theorem chain_ok {g g' : Dv → Dv → Option Rz} {σ : L2.St} {H : Hp} {Q : VK} (h : TE' X.K ix (eChain g g' fa fb fc) σ H Q) :
    tChain (R2d X.K g) (R2d X.K g') (TE' X.K ix (pkM fa)) (TE' X.K ix (pkM fb)) (TE' X.K ix (pkM fc)) σ H Q := by
  obtain ⟨Fr, FX, G, ρ, r, ρ', R, hf, kk⟩ := h
  unfold eChain at hf
  obtain ⟨⟨r1, ρ1⟩, h1, hf⟩ := Option.bind_eq_some_iff.mp hf
  obtain ⟨⟨r2, ρ2⟩, h2, hf⟩ := Option.bind_eq_some_iff.mp hf
  cases r2 with
  | ow o => cases hf
  | al i => cases hf
  | sh e =>
  simp only at hf
  obtain ⟨d, h3, hf⟩ := Option.bind_eq_some_iff.mp hf
  obtain ⟨rr, h5, hf⟩ := Option.bind_eq_some_iff.mp hf
  refine ⟨Fr, FX, G, ρ, r1, ρ1, R, h1, fun x G1 H1 s1 R1 v1 => ?_⟩
  refine hold2 (tb := TE' X.K ix (pkM fb)) R1 v1 h2 fun y G2 H2 s2 R2 w1 w2 _ => ?_
  refine ⟨G2, d, e, rr, R2.gh, dat_vd R2 w1 h3, dp_vd R2.gh w2, h5, ?_⟩
  split at hf
  · obtain ⟨⟨r3, ρ3⟩, h6, hf⟩ := Option.bind_eq_some_iff.mp hf
    obtain ⟨e2, h8, hf⟩ := Option.bind_eq_some_iff.mp hf
    obtain ⟨r', h9, hf⟩ := Option.bind_eq_some_iff.mp hf
    cases hf
    refine res_ok R2 fun v G3 H3 s3 R3 v3 => ?_
    have v3' : Dp X.K G3 v (.bool true) := v3
    cases v3'
    refine ⟨true, rfl, ?_⟩
    rw [if_pos rfl]
    refine ⟨Fr, FX, G3, ρ2, r3, _, R3, h6, fun z G4 H4 s4 R4 u2 => ?_⟩
    exact ⟨G4, e, e2, r', R4.gh, dp_vd R4.gh (dp_mono (s3.trans s4) _ _ w2), dat_vd R4 u2 h8, h9, res_ok R4 fun v G' H' s5 R5 v5 => kk v G' H' ((((s1.trans s2).trans s3).trans s4).trans s5) R5 v5⟩
  · cases hf
    refine res_ok R2 fun v G3 H3 s3 R3 v3 => ?_
    have v3' : Dp X.K G3 v (.bool false) := v3
    cases v3'
    refine ⟨false, rfl, ?_⟩
    rw [if_neg Bool.false_ne_true]
    exact kk _ G3 H3 ((s1.trans s2).trans s3) R3 (.bl false)
  · cases hf
theorem de_chain {op op' : CmpOp} {g g' : Dv → Dv → Option Rz} (ho : OpD X (compareOp op) g) (ho' : OpD X (compareOp op') g') (ha : PE X a (TE' X.K ix fa)) (hb : PE X b (TE' X.K ix fb)) (hc : PE X c (TE' X.K ix fc))
    (hm : lastMarks [op, op'] [b, c] = false := by with_unfolding_all rfl) : PE X (.Compare a [op, op'] [b, c] pos) (TE' X.K ix (eChain g g' fa fb fc)) :=
  pe_imp (pe_chain ho ho' (de_pk ha) (de_pk hb) (de_pk hc) hm) fun _ _ _ h => chain_ok h
theorem dt_chain {op op' : CmpOp} {g g' : Dv → Dv → Option Rz} (ho : OpD X (compareOp op) g) (ho' : OpD X (compareOp op') g') (ha : PE X a (TE' X.K ix fa)) (hb : PE X b (TE' X.K ix fb)) (hc : PE X c (TE' X.K ix fc))
    (hm : lastMarks [op, op'] [b, c] = false := by with_unfolding_all rfl) : PT X (.Compare a [op, op'] [b, c] pos) (TT' X.K ix (tB (eChain g g' fa fb fc))) :=
  pt_imp (pt_chain ho ho' (de_pk ha) (de_pk hb) (de_pk hc) hm) fun _ _ _ h => chain_ok (tb_ok h)
end
end DL

set_option Elab.async false
set_option linter.all false
set_option autoImplicit false
set_option maxRecDepth 100000
set_option maxHeartbeats 1000000
namespace DL
open PySem PySem.Spec PyProof.Rows L2

/-! ### calls of built-ins by data -/
def dats (ρ : Rho) : List Rv → Option (List Dv)
  | [] => some []
  | r :: rs => (dat ρ r).bind fun d => (dats ρ rs).bind fun ds => some (d :: ds)
def eCall (g : List Dv → Option Rz) (fa : MA) : M := fun ρ => (fa ρ).bind fun x => (dats x.2 x.1).bind fun ds => (g ds).bind fun r => some (r.rv, x.2)
section
variable {X : Cx} {ix : List Nat} {e a b c : Expr} {es : List Expr} {f fa fb fc : M} {ga : MA} {pos p : Pos}
theorem dats_vd {K : PySem.W.Frag} {Fr G H : Hp} {FX : Nat → Option V} {ρ : Rho} {σ : L2.St} (R : RS K ix Fr FX G ρ σ H) : ∀ {rs : List Rv} {ds : List Dv} {vs : List V}, VOks K Fr G H ρ σ rs vs → dats ρ rs = some ds → VDs K G H ds vs
  | [], _, [], _, h => by cases h; exact .nil
  | [], _, _ :: _, h, _ => False.elim h
  | _ :: _, _, [], h, _ => False.elim h
  | r :: rs, _, v :: vs, ⟨h1, _, h3⟩, h => by
    obtain ⟨d, h4, h⟩ := Option.bind_eq_some_iff.mp h
    obtain ⟨ds, h5, h⟩ := Option.bind_eq_some_iff.mp h
    cases h
    exact .cons (dat_vd R h1 h4) (dats_vd R h3 h5)
theorem call_ok {g : List Dv → Option Rz} {σ : L2.St} {H : Hp} {Q : VK} (h : TE' X.K ix (eCall g ga) σ H Q) : tCB (RCd X.K g) (TA' X.K ix ga) σ H Q := by
  obtain ⟨Fr, FX, G, ρ, r, ρ', R, hf, k⟩ := h
  unfold eCall at hf
  obtain ⟨⟨rs, ρ1⟩, h1, hf⟩ := Option.bind_eq_some_iff.mp hf
  obtain ⟨ds, h2, hf⟩ := Option.bind_eq_some_iff.mp hf
  obtain ⟨rr, h3, hf⟩ := Option.bind_eq_some_iff.mp hf
  cases hf
  refine ⟨Fr, FX, G, ρ, rs, _, R, h1, fun vs G1 H1 s1 R1 v1 => ?_⟩
  exact ⟨G1, ds, rr, R1.gh, dats_vd R1 v1 h2, h3, res_ok R1 fun v G' H' s2 R2 v2 => k v G' H' (s1.trans s2) R2 v2⟩
theorem de_callB {id : String} {x : Str} {g : List Dv → Option Rz} (hc : CallD X (.builtin id) g) (hg : Gl X x) (hm : X.mg x = none) (hv : bootBuiltins x = some (.builtin id)) (ha : PA X (e :: es) (TA' X.K ix ga)) (hn : x ≠ "__name__" := by decide) (hdb : (x == ("__debug__" : Str)) = false := by decide)
    (he : starEach (e :: es) X.env = (false, eval e X.env) :: starEach es X.env := by rfl) (hpl : (backTo pos (starEach es X.env)).any (·.1) = false := by rfl) : PE X (.Call (.Name x p) (e :: es) [] pos) (TE' X.K ix (eCall g ga)) :=
  pe_imp (pe_callB hc hg hm hv ha hn hdb he hpl) fun _ _ _ h => call_ok h
theorem de_callTy {T : String} {x : Str} {g : List Dv → Option Rz} (hc : CallD X (.type T) g) (hg : Gl X x) (hm : X.mg x = none) (hv : bootBuiltins x = some (.type T)) (ha : PA X (e :: es) (TA' X.K ix ga)) (hn : x ≠ "__name__" := by decide) (hdb : (x == ("__debug__" : Str)) = false := by decide)
    (he : starEach (e :: es) X.env = (false, eval e X.env) :: starEach es X.env := by rfl) (hpl : (backTo pos (starEach es X.env)).any (·.1) = false := by rfl) : PE X (.Call (.Name x p) (e :: es) [] pos) (TE' X.K ix (eCall g ga)) :=
  pe_imp (pe_callTy hc hg hm hv ha hn hdb he hpl) fun _ _ _ h => call_ok h
theorem vds1 {K : PySem.W.Frag} {G H : Hp} {d : Dv} {xs : List V} (h : VDs K G H [d] xs) : ∃ v, xs = [v] ∧ VD K G H d v := by
  cases h with | cons h1 h2 => cases h2; exact ⟨_, rfl, h1⟩
theorem vds2 {K : PySem.W.Frag} {G H : Hp} {d d' : Dv} {xs : List V} (h : VDs K G H [d, d'] xs) : ∃ v v', xs = [v, v'] ∧ VD K G H d v ∧ VD K G H d' v' := by
  cases h with | cons h1 h2 => cases h2 with | cons h3 h4 => cases h4; exact ⟨_, _, rfl, h1, h3⟩
/-! abs, int, len, min, max of two -/
def absG : List Dv → Option Rz
  | [.int i] => some (.sh (.int (if i < 0 then -i else i)))
  | _ => none
def intG : List Dv → Option Rz
  | [.int i] => some (.sh (.int i))
  | [.bool k] => some (.sh (.int (if k then 1 else 0)))
  | _ => none
def lenG : List Dv → Option Rz
  | [.list ds] => some (.sh (.int ds.length))
  | [.tuple ds] => some (.sh (.int ds.length))
  | [.str z] => if z.length ≤ sizeLine then some (.sh (.int z.length)) else none
  | [.dict ds] => some (.sh (.int ds.length))
  | _ => none
def max2G : List Dv → Option Rz
  | [.int i, .int j] => some (.sh (.int (if j > i then j else i)))
  | _ => none
def min2G : List Dv → Option Rz
  | [.int i, .int j] => some (.sh (.int (if j < i then j else i)))
  | _ => none
def tupleG : List Dv → Option Rz
  | [.list ds] => some (.sh (.tuple ds))
  | [.tuple ds] => some (.sh (.tuple ds))
  | _ => none
def listG : List Dv → Option Rz
  | [.list ds] => some (.ow (.lst ds))
  | [.tuple ds] => some (.ow (.lst ds))
  | _ => none
theorem abs_d : CallD X (.builtin "abs") absG := by
  intro pins s σ H xs us Q I r h
  obtain ⟨G, ds, z, gh, vd, hz, q⟩ := h
  unfold absG at hz
  split at hz
  · cases hz
    obtain ⟨v, rfl, h1⟩ := vds1 vd
    rw [vd_int h1] at r
    exact call_abs pins s σ H _ us Q I r ⟨_, rfl, res_int q⟩
  · cases hz
theorem int_d : CallD X (.type "int") intG := by
  intro pins s σ H xs us Q I r h
  obtain ⟨G, ds, z, gh, vd, hz, q⟩ := h
  unfold intG at hz
  split at hz
  · cases hz
    obtain ⟨v, rfl, h1⟩ := vds1 vd
    rw [vd_int h1] at r
    exact call_int1 pins s σ H _ us Q I r (.inl ⟨_, rfl, res_int q⟩)
  · cases hz
    obtain ⟨v, rfl, h1⟩ := vds1 vd
    rw [vd_bool h1] at r
    exact call_int1 pins s σ H _ us Q I r (.inr ⟨_, rfl, res_int q⟩)
  · cases hz
theorem dkv_length {K : PySem.W.Frag} {G : Hp} : ∀ {ks : List (Key × V)} {kvs : List (Dv × Dv)}, DKV K G ks kvs → ks.length = kvs.length
  | _, _, .nil => rfl
  | _, _, .cons _ t => by simp [dkv_length t]
theorem len_d : CallD X (.builtin "len") lenG := by
  intro pins s σ H xs us Q I r h
  obtain ⟨G, ds, z, gh, vd, hz, q⟩ := h
  unfold lenG at hz
  split at hz
  · cases hz
    obtain ⟨v, rfl, h1⟩ := vds1 vd
    obtain ⟨a, vs, rfl, h2, p1⟩ := vd_list h1
    have l1 := dpAll_length p1
    rw [← l1] at q
    exact call_len_seq pins s σ H _ us Q I r ⟨a, vs, rfl, .inl h2, res_int q⟩
  · cases hz
    obtain ⟨v, rfl, h1⟩ := vds1 vd
    obtain ⟨a, vs, rfl, _, h2, p1⟩ := vd_tup gh h1
    have l1 := dpAll_length p1
    rw [← l1] at q
    exact call_len_seq pins s σ H _ us Q I r ⟨a, vs, rfl, .inr h2, res_int q⟩
  · split at hz
    · rename_i hc
      cases hz
      obtain ⟨v, rfl, h1⟩ := vds1 vd
      rw [vd_str h1] at r
      exact call_len_str pins s σ H _ us Q I r ⟨_, rfl, hc, res_int q⟩
    · cases hz
  · cases hz
    obtain ⟨v, rfl, h1⟩ := vds1 vd
    obtain ⟨a, ks, rfl, h2, p1⟩ := (show ∃ a ks, v = .ref a ∧ H a = some (.dK ks) ∧ DKV X.K G ks _ from h1)
    rw [← dkv_length p1] at q
    exact call_lenD pins s σ H _ us Q I r ⟨a, ks, rfl, h2, res_int q⟩
  · cases hz
theorem max2_d (hc : X.calm = true) : CallD X (.builtin "max") max2G := by
  intro pins s σ H xs us Q I r h
  obtain ⟨G, ds, z, gh, vd, hz, q⟩ := h
  unfold max2G at hz
  split at hz
  · cases hz
    obtain ⟨v, v', rfl, h1, h2⟩ := vds2 vd
    rw [vd_int h1, vd_int h2] at r
    exact call_max2 hc pins s σ H _ us Q I r ⟨_, _, rfl, res_int q⟩
  · cases hz
theorem min2_d (hc : X.calm = true) : CallD X (.builtin "min") min2G := by
  intro pins s σ H xs us Q I r h
  obtain ⟨G, ds, z, gh, vd, hz, q⟩ := h
  unfold min2G at hz
  split at hz
  · cases hz
    obtain ⟨v, v', rfl, h1, h2⟩ := vds2 vd
    rw [vd_int h1, vd_int h2] at r
    exact call_min2 hc pins s σ H _ us Q I r ⟨_, _, rfl, res_int q⟩
  · cases hz
theorem tuple_d : CallD X (.type "tuple") tupleG := by
  intro pins s σ H xs us Q I r h
  obtain ⟨G, ds, z, gh, vd, hz, q⟩ := h
  unfold tupleG at hz
  split at hz
  · cases hz
    obtain ⟨v, rfl, h1⟩ := vds1 vd
    obtain ⟨a, vs, rfl, h2, p1⟩ := vd_list h1
    exact call_tuple_of pins s σ H _ us Q I r ⟨a, vs, rfl, .inl ⟨h2, fun l hl => res_tup q (g_none gh hl) hl p1⟩⟩
  · cases hz
    obtain ⟨v, rfl, h1⟩ := vds1 vd
    obtain ⟨a, vs, rfl, g1, h2, p1⟩ := vd_tup gh h1
    exact call_tuple_of pins s σ H _ us Q I r ⟨a, vs, rfl, .inr ⟨h2, res_val q (.tup g1 p1)⟩⟩
  · cases hz
theorem list_d : CallD X (.type "list") listG := by
  intro pins s σ H xs us Q I r h
  obtain ⟨G, ds, z, gh, vd, hz, q⟩ := h
  unfold listG at hz
  split at hz
  · cases hz
    obtain ⟨v, rfl, h1⟩ := vds1 vd
    obtain ⟨a, vs, rfl, h2, p1⟩ := vd_list h1
    exact call_list_of pins s σ H _ us Q I r ⟨a, vs, rfl, .inl h2, fun l hl => res_lst q hl p1⟩
  · cases hz
    obtain ⟨v, rfl, h1⟩ := vds1 vd
    obtain ⟨a, vs, rfl, g1, h2, p1⟩ := vd_tup gh h1
    exact call_list_of pins s σ H _ us Q I r ⟨a, vs, rfl, .inr h2, fun l hl => res_lst q hl p1⟩
  · cases hz
/-! min, max of data -/
def okAl (ds : List Dv) : Bool := (ds.all fun d => ds.all fun e => PySem.W.alike d e) && (ds.all fun d => !isNone d) && decide (PyData.depthAll ds ≤ 64)
theorem okAl_all {ds : List Dv} (h : okAl ds = true) : PySem.W.AlikeAll ds ∧ PyData.depthAll ds ≤ 64 := by
  unfold okAl at h
  simp only [Bool.and_eq_true, List.all_eq_true, decide_eq_true_eq] at h
  obtain ⟨⟨h1, h2⟩, h3⟩ := h
  refine ⟨⟨fun x hx y hy => h1 x hx y hy, fun x hx e => ?_⟩, h3⟩
  have := h2 x hx
  subst e
  cases this
def minG : List Dv → Option Rz
  | [.list (x :: xs)] => if okAl (x :: xs) = true then some (.sh (PySem.W.minD x xs)) else none
  | [.tuple (x :: xs)] => if okAl (x :: xs) = true then some (.sh (PySem.W.minD x xs)) else none
  | _ => none
def maxG : List Dv → Option Rz
  | [.list (x :: xs)] => if okAl (x :: xs) = true then some (.sh (PySem.W.maxD x xs)) else none
  | [.tuple (x :: xs)] => if okAl (x :: xs) = true then some (.sh (PySem.W.maxD x xs)) else none
  | _ => none
section
open PySem.W
variable {prog : Program} {w : World} {A : Around} {E : Value → Shared → Prop} {s : Shared}
theorem best_at {f : PyData → PyData → Bool} {x : PyData} {xs : List PyData} {n : Nat} (hn : n = xs.length + 1) :
    (x :: xs)[argBest (fun i j => f ((x :: xs).getD i PyData.none) ((x :: xs).getD j PyData.none)) (n - 1)]? = some (xs.foldl (fun a y => if f y a then y else a) x) := by
  subst hn
  obtain ⟨h1, h2⟩ := argBest_fold f PyData.none x xs xs.length (Nat.le_refl _)
  rw [List.take_length] at h2
  rw [← h2, Nat.add_sub_cancel]
  have hl : argBest (fun i j => f ((x :: xs).getD i PyData.none) ((x :: xs).getD j PyData.none)) xs.length < (x :: xs).length := by
    rw [List.length_cons]; omega
  rw [List.getD_eq_getElem?_getD, List.getElem?_eq_getElem hl]
  rfl
/-- l walks the values vs, one after the other -/
def Walker (prog : Program) (w : World) (A : Around) (s : Shared) (l : Addr) (vs : Array Value) : Prop := ∀ {Q E : Value → Shared → Prop},
  (∀ (s₂ : Shared) (o : Obj) (St : Nat → Shared → Prop), s₂ = { s with heap := s.heap.push o } → WalksS prog w A s.heap.objs.size [s.heap.objs.size, l] [s.heap.objs.size] (fun a b => b = a) vs.size (fun i v => vs[i]? = some v) St → St 0 s₂ →
    (∀ b ∈ [s.heap.objs.size, l], b < s₂.heap.objs.size) → (∀ b o, s.heap.get? b = some o → b ∉ [s.heap.objs.size]) → (∀ b o, s.heap.get? b = some o → s₂.heap.get? b = some o) → Q (.ref s.heap.objs.size) s₂) →
  wpAny (model prog w) A (pyIter (.ref l)) Q E s
theorem rows_list {l : Addr} {vs : Array Value} (hh : A.handled = none) (hl : s.heap.IsList l vs) : Walker prog w A s l vs := fun k => iter_listW hh hl fun s₂ e W st a b c => k s₂ _ _ e W st a b c
theorem rows_tuple {l : Addr} {vs : Array Value} (hh : A.handled = none) (hl : s.heap.IsTuple l vs) : Walker prog w A s l vs := fun k => iter_tupleW hh hl fun s₂ e W st a b c => k s₂ _ _ e W st a b c
/-- the call of id picks what m names -/
def Picks (prog : Program) (w : World) (A : Around) (E : Value → Shared → Prop) (id : String) (m : PyData → List PyData → PyData) : Prop :=
  ∀ {s : Shared} {l : Addr} {vs : Array Value} {x : PyData} {xs : List PyData} {as : List Addr} {Q : Value → Shared → Prop}, Walker prog w A.in1 s l vs → ReadsAll s.heap vs.toList (x :: xs) as → AlikeAll (x :: xs) → A.units + 1 + PyData.depthAll (x :: xs) < cLine →
    (∀ (i : Nat) v h' tk, vs[i]? = some v → (x :: xs)[i]? = some (m x xs) → (∀ b o, s.heap.get? b = some o → h'.get? b = some o) → Q v { s with heap := h', toks := tk }) → wpAny (model prog w) A (call (.builtin id) [.ref l]) Q E s
theorem min_picks : Picks prog w A E "min" minD := fun {s l vs x xs as Q} rw_ hr ha hu k => call_min_walkH (rw_ fun s₂ o St e W st lo nw kp => ⟨_, _, _, _, vs.size, _, _, _, _, rfl, W, st, lo, (by rw [readsAll_len hr]; exact Nat.succ_pos _), nw, kp, cmpIn_lt (A := A.in1) hr ha hu, fun v s' hP m => by
  obtain ⟨h', tk, rfl, old⟩ := moved_old e rfl m
  exact k _ v h' tk hP (best_at (readsAll_len hr)) old⟩)
theorem max_picks : Picks prog w A E "max" maxD := fun {s l vs x xs as Q} rw_ hr ha hu k => call_max_walkH (rw_ fun s₂ o St e W st lo nw kp => ⟨_, _, _, _, vs.size, _, _, _, _, rfl, W, st, lo, (by rw [readsAll_len hr]; exact Nat.succ_pos _), nw, kp, cmpIn_gt (A := A.in1) hr ha hu, fun v s' hP m => by
  obtain ⟨h', tk, rfl, old⟩ := moved_old e rfl m
  exact k _ v h' tk hP (best_at (f := fun y a => dataLt a y) (readsAll_len hr)) old⟩)
end
theorem vals_get' {xs : List V} {us : List Value} (h : Vals xs us) : ∀ {i : Nat} {u : Value}, us[i]? = some u → ∃ x, xs[i]? = some x ∧ RelV x u := by
  induction h with
  | nil => intro i u e; simp at e
  | @cons a b l l' r t ih =>
    intro i u e
    cases i with
    | zero => simp at e; subst e; exact ⟨_, rfl, r⟩
    | succ i =>
      simp at e
      obtain ⟨x, h1, h2⟩ := ih e
      exact ⟨x, by simpa using h1, h2⟩
/-- one argument, a list or a tuple: the call gives one of its items -/
theorem pick_d {id : String} {g : List Dv → Option Rz} {m : PyData → List PyData → PyData} (hc : X.calm = true) (hh : X.A.handled = none) (hu : X.A.units + 200 < cLine)
    (gi : ∀ ds z, g ds = some z → ∃ x xs, (ds = [.list (x :: xs)] ∨ ds = [.tuple (x :: xs)]) ∧ okAl (x :: xs) = true ∧ z = .sh (m x xs))
    (hp : Picks X.prog X.w X.A X.xe id m) :
    CallD X (.builtin id) g := by
  intro pins s σ H xs us Q I r h
  obtain ⟨G, ds, z, gh, vd, hz, q⟩ := h
  obtain ⟨y, ys, hd, hok, rfl⟩ := gi ds z hz
  obtain ⟨hal, hdep⟩ := okAl_all hok
  have fin : ∀ {vs : List V} {its : List Value} {i : Nat} {v : Value} {h' : Heap} {tk : Nat}, DpAll X.K G vs (y :: ys) → Vals vs its → its[i]? = some v → (y :: ys)[i]? = some (m y ys) → (∀ b o, s.heap.get? b = some o → h'.get? b = some o) → EP X pins σ Q v { s with heap := h', toks := tk } := by
    intro vs its i v h' tk p1 rv hv hi hk
    obtain ⟨w1, hw1, rw1⟩ := vals_get' rv hv
    obtain ⟨w2, hw2, d2⟩ := dpAll_get p1 hi
    rw [hw1] at hw2
    cases hw2
    exact ⟨w1, H, I.kept (t' := tk) hk, rw1, res_val q d2⟩
  rcases hd with rfl | rfl
  · obtain ⟨v, rfl, h1⟩ := vds1 vd
    obtain ⟨a, vs, rfl, h2, p1⟩ := vd_list h1
    rw [Vals.ref1 r]
    obtain ⟨its, rv, pl, hz'⟩ := I.list h2
    obtain ⟨as, hr⟩ := Dp.readsAll I (y :: ys) vs its (dpAll_mono (sub_le gh) _ _ p1) rv
    exact hp (rows_list (by simp [hh]) pl.isList) hr hal (by omega) fun i v h' tk hv hi hk => fin p1 rv (by simpa using hv) hi hk
  · obtain ⟨v, rfl, h1⟩ := vds1 vd
    obtain ⟨a, vs, rfl, _, h2, p1⟩ := vd_tup gh h1
    rw [Vals.ref1 r]
    obtain ⟨its, rv, pl, hz'⟩ := I.tuple h2
    obtain ⟨as, hr⟩ := Dp.readsAll I (y :: ys) vs its (dpAll_mono (sub_le gh) _ _ p1) rv
    exact hp (rows_tuple (by simp [hh]) pl) hr hal (by omega) fun i v h' tk hv hi hk => fin p1 rv (by simpa using hv) hi hk
theorem min_d (hc : X.calm = true) (hh : X.A.handled = none) (hu : X.A.units + 200 < cLine) : CallD X (.builtin "min") minG :=
  pick_d hc hh hu (fun ds z h => by
    unfold minG at h
    split at h <;> first
      | (split at h <;> first | (rename_i hk; cases h; first | exact ⟨_, _, .inl rfl, hk, rfl⟩ | exact ⟨_, _, .inr rfl, hk, rfl⟩) | cases h)
      | cases h) min_picks
theorem max_d (hc : X.calm = true) (hh : X.A.handled = none) (hu : X.A.units + 200 < cLine) : CallD X (.builtin "max") maxG :=
  pick_d hc hh hu (fun ds z h => by
    unfold maxG at h
    split at h <;> first
      | (split at h <;> first | (rename_i hk; cases h; first | exact ⟨_, _, .inl rfl, hk, rfl⟩ | exact ⟨_, _, .inr rfl, hk, rfl⟩) | cases h)
      | cases h) max_picks
/-! sum of ints -/
def intsOf : List Dv → Option (List Int)
  | [] => some []
  | .int i :: ds => (intsOf ds).map (i :: ·)
  | _ :: _ => none
theorem intsOf_eq : ∀ {ds : List Dv} {ns : List Int}, intsOf ds = some ns → ds = ns.map PyData.int
  | [], _, h => by cases h; rfl
  | .int i :: ds, _, h => by
    obtain ⟨ms, hm, rfl⟩ := Option.map_eq_some_iff.mp h
    rw [intsOf_eq hm]
    rfl
  | .none :: _, _, h => by cases h
  | .bool _ :: _, _, h => by cases h
  | .str _ :: _, _, h => by cases h
  | .list _ :: _, _, h => by cases h
  | .tuple _ :: _, _, h => by cases h
  | .dict _ :: _, _, h => by cases h
theorem intsOf_map : ∀ ns : List Int, intsOf (ns.map PyData.int) = some ns
  | [] => rfl
  | n :: ns => by simp [intsOf, intsOf_map ns]
def sumG : List Dv → Option Rz
  | [.list ds] => (intsOf ds).map fun ns => .sh (.int ns.sum)
  | [.tuple ds] => (intsOf ds).map fun ns => .sh (.int ns.sum)
  | _ => none
theorem sum_d (hc : X.calm = true) (hh : X.A.handled = none) : CallD X (.builtin "sum") sumG := by
  intro pins s σ H xs us Q I r h
  obtain ⟨G, ds, z, gh, vd, hz, q⟩ := h
  unfold sumG at hz
  split at hz
  · obtain ⟨ns, hn, rfl⟩ := Option.map_eq_some_iff.mp hz
    obtain ⟨v, rfl, h1⟩ := vds1 vd
    rw [intsOf_eq hn] at h1
    obtain ⟨a, vs, rfl, h2, p1⟩ := vd_list h1
    rw [ints_of_dpAll p1] at h2
    exact cr_sum hc pins s σ H _ us Q I r ⟨a, ns, rfl, h2, res_int q⟩
  · obtain ⟨ns, hn, rfl⟩ := Option.map_eq_some_iff.mp hz
    obtain ⟨v, rfl, h1⟩ := vds1 vd
    rw [intsOf_eq hn] at h1
    obtain ⟨a, vs, rfl, _, h2, p1⟩ := vd_tup gh h1
    rw [ints_of_dpAll p1] at h2
    rw [Vals.ref1 r]
    obtain ⟨its, rv, pl, hz'⟩ := I.tuple h2
    have hi : IntsAre its ns := rv.ints
    obtain ⟨ys, e⟩ := hi.allInts.items
    have hnn : numsOf (intItems ys).toList = ns := by rw [← e]; exact hi.numsOf
    rw [nums_intItems] at hnn
    have hl : s.heap.IsTuple a its.toArray := pl
    rw [e] at hl
    refine PySem.W.ktm_sumG hh hl fun h' tk t' hk => ?_
    rw [preSum_eq, List.take_of_length_le (by simp), hnn]
    exact ⟨.int ns.sum, H, I.kept (t' := tk) hk, ⟨t', rfl⟩, res_int q⟩
  · cases hz
end
end DL

set_option Elab.async false
set_option linter.all false
set_option autoImplicit false
set_option maxRecDepth 100000
set_option maxHeartbeats 1000000
namespace DL
open PySem PySem.Spec PyProof.Rows L2

/-! ### what a def does with its arguments' slots -/
abbrev FnS := List Sl → Option (Rv × List Sl)
def spD (K : PySem.W.Frag) (np : Nat) (F : FnS) : Sp := fun vs H Q _ => ∃ Fr G as r as', vs.length = np ∧ RS K [] Fr (fun _ => none) G as (vs.map some) H ∧ F as = some (r, as') ∧
  ∀ v G' H', Sub G G' → RS K [] Fr (fun _ => none) G' as' (vs.map some) H' → VOk K Fr G' H' as' (vs.map some) r v → Q v H'
def toSl (ρ : Rho) : Rv → Option Sl
  | .sh d => some (.sh d)
  | .ow o => some (.ow o)
  | .al i => match ρ[i]? with
    | some (.ow o) => some (.ow o)
    | _ => none
def toSls (ρ : Rho) : List Rv → Option (List Sl)
  | [] => some []
  | r :: rs => (toSl ρ r).bind fun s => (toSls ρ rs).bind fun ss => some (s :: ss)
def wback : Rho → List Rv → List Sl → Rho
  | ρ, .al i :: rs, s :: as => wback (ρ.set i s) rs as
  | ρ, _ :: rs, _ :: as => wback ρ rs as
  | ρ, _, _ => ρ
def als : List Rv → List Nat
  | [] => []
  | .al i :: rs => i :: als rs
  | .sh _ :: rs => als rs
  | .ow _ :: rs => als rs
def alsOk (rs : List Rv) : Bool := decide (als rs).Nodup
def eFn (F : FnS) (ga : MA) : M := fun ρ => (ga ρ).bind fun x => (toSls x.2 x.1).bind fun as => if alsOk x.1 = true then (F as).bind fun y => (match y.1 with
  | .al _ => none
  | r => some (r, wback x.2 x.1 y.2)) else none

theorem toSls_get {ρ : Rho} : ∀ {rs : List Rv} {as : List Sl}, toSls ρ rs = some as → ∀ {j : Nat} {s : Sl}, as[j]? = some s → ∃ r, rs[j]? = some r ∧ toSl ρ r = some s
  | [], _, h, j, s, e => by cases h; simp at e
  | r :: rs, _, h, j, s, e => by
    obtain ⟨s0, h1, h⟩ := Option.bind_eq_some_iff.mp h
    obtain ⟨ss, h2, h⟩ := Option.bind_eq_some_iff.mp h
    cases h
    cases j with
    | zero => simp at e; subst e; exact ⟨r, rfl, h1⟩
    | succ j =>
      simp at e
      obtain ⟨r', h3, h4⟩ := toSls_get h2 e
      exact ⟨r', by simpa using h3, h4⟩
theorem toSls_of {ρ : Rho} : ∀ {rs : List Rv} {as : List Sl}, toSls ρ rs = some as → ∀ {j : Nat} {r : Rv}, rs[j]? = some r → ∃ s, as[j]? = some s ∧ toSl ρ r = some s
  | [], _, h, j, s, e => by simp at e
  | r :: rs, _, h, j, s, e => by
    obtain ⟨s0, h1, h⟩ := Option.bind_eq_some_iff.mp h
    obtain ⟨ss, h2, h⟩ := Option.bind_eq_some_iff.mp h
    cases h
    cases j with
    | zero => simp at e; subst e; exact ⟨s0, rfl, h1⟩
    | succ j =>
      simp at e
      obtain ⟨r', h3, h4⟩ := toSls_of h2 e
      exact ⟨r', by simpa using h3, h4⟩
theorem toSls_length {ρ : Rho} : ∀ {rs : List Rv} {as : List Sl}, toSls ρ rs = some as → as.length = rs.length
  | [], _, h => by cases h; rfl
  | r :: rs, _, h => by
    obtain ⟨s0, h1, h⟩ := Option.bind_eq_some_iff.mp h
    obtain ⟨ss, h2, h⟩ := Option.bind_eq_some_iff.mp h
    cases h
    simp [toSls_length h2]
section
variable {K : PySem.W.Frag} {ix : List Nat} {Fr G H : Hp} {FX : Nat → Option V} {ρ : Rho} {σ : L2.St}
theorem voks_length : ∀ {rs : List Rv} {vs : List V}, VOks K Fr G H ρ σ rs vs → vs.length = rs.length
  | [], [], _ => rfl
  | [], _ :: _, h => False.elim h
  | _ :: _, [], h => False.elim h
  | _ :: rs, _ :: vs, ⟨_, _, h⟩ => by simp [voks_length h]
theorem voks_get : ∀ {rs : List Rv} {vs : List V}, VOks K Fr G H ρ σ rs vs → ∀ {j : Nat} {r : Rv}, rs[j]? = some r → ∃ v, vs[j]? = some v ∧ VOk K Fr G H ρ σ r v
  | [], [], _, j, r, e => by simp at e
  | [], _ :: _, h, _, _, _ => False.elim h
  | _ :: _, [], h, _, _, _ => False.elim h
  | r0 :: rs, v :: vs, ⟨h1, _, h⟩, j, r, e => by
    cases j with
    | zero => simp at e; subst e; exact ⟨v, rfl, h1⟩
    | succ j =>
      simp at e
      obtain ⟨w, h2, h3⟩ := voks_get h e
      exact ⟨w, by simpa using h2, h3⟩
theorem voks_apart : ∀ {rs : List Rv} {vs : List V}, VOks K Fr G H ρ σ rs vs → ∀ {i j : Nat} {o o' : Ob} {a : Addr}, i < j → rs[i]? = some (.ow o) → rs[j]? = some (.ow o') → vs[i]? = some (.ref a) → vs[j]? ≠ some (.ref a)
  | [], _, _, i, j, o, o', a, l, e, _, _ => by simp at e
  | _ :: _, [], h, _, _, _, _, _, _, _, _, _ => False.elim h
  | r0 :: rs, v :: vs, ⟨_, h2, h⟩, i, j, o, o', a, l, e1, e2, e3 => by
    cases j with
    | zero => omega
    | succ j =>
      simp at e2
      cases i with
      | zero =>
        simp at e1 e3
        simpa using h2 o a e1 e3 j o' e2
      | succ i =>
        simp at e1 e3
        simpa using voks_apart h (by omega) e1 e2 e3
end
theorem wback_length : ∀ (rs : List Rv) (as : List Sl) (ρ : Rho), (wback ρ rs as).length = ρ.length
  | .al i :: rs, s :: as, ρ => by unfold wback; rw [wback_length rs as]; simp
  | .sh _ :: rs, s :: as, ρ => by unfold wback; exact wback_length rs as ρ
  | .ow _ :: rs, s :: as, ρ => by unfold wback; exact wback_length rs as ρ
  | [], _, ρ => by unfold wback; rfl
  | .al _ :: _, [], ρ => rfl
  | .sh _ :: _, [], ρ => rfl
  | .ow _ :: _, [], ρ => rfl
theorem wback_get : ∀ (rs : List Rv) (as : List Sl) (ρ : Rho) (k : Nat) (s : Sl), as.length = rs.length → (als rs).Nodup → (wback ρ rs as)[k]? = some s →
    (∃ j : Nat, rs[j]? = some (Rv.al k) ∧ as[j]? = some s) ∨ ((∀ j : Nat, rs[j]? ≠ some (Rv.al k)) ∧ ρ[k]? = some s)
  | [], [], ρ, k, s, _, _, e => .inr ⟨fun j => by simp, by unfold wback at e; exact e⟩
  | r :: rs, [], ρ, k, s, h, _, _ => by simp at h
  | [], a :: as, ρ, k, s, h, _, _ => by simp at h
  | r :: rs, a :: as, ρ, k, s, h, nd, e => by
    have hl : as.length = rs.length := by simpa using h
    cases r with
    | sh d =>
      have e' : (wback ρ rs as)[k]? = some s := e
      rcases wback_get rs as ρ k s hl nd e' with ⟨j, h1, h2⟩ | ⟨h1, h2⟩
      · exact .inl ⟨j + 1, by simpa using h1, by simpa using h2⟩
      · refine .inr ⟨fun j => ?_, h2⟩
        cases j with
        | zero => simp
        | succ j => simpa using h1 j
    | ow d =>
      have e' : (wback ρ rs as)[k]? = some s := e
      rcases wback_get rs as ρ k s hl nd e' with ⟨j, h1, h2⟩ | ⟨h1, h2⟩
      · exact .inl ⟨j + 1, by simpa using h1, by simpa using h2⟩
      · refine .inr ⟨fun j => ?_, h2⟩
        cases j with
        | zero => simp
        | succ j => simpa using h1 j
    | al i =>
      have nd' : i ∉ als rs ∧ (als rs).Nodup := List.nodup_cons.mp nd
      have e' : (wback (ρ.set i a) rs as)[k]? = some s := e
      rcases wback_get rs as (ρ.set i a) k s hl nd'.2 e' with ⟨j, h1, h2⟩ | ⟨h1, h2⟩
      · exact .inl ⟨j + 1, by simpa using h1, by simpa using h2⟩
      · by_cases hk : i = k
        · subst hk
          have hlt : i < ρ.length := by
            have := (List.getElem?_eq_some_iff.mp h2).1
            simpa using this
          rw [List.getElem?_set_self hlt] at h2
          exact .inl ⟨0, rfl, by simpa using h2⟩
        · rw [List.getElem?_set_ne hk] at h2
          refine .inr ⟨fun j => ?_, h2⟩
          cases j with
          | zero => simp; exact hk
          | succ j => simpa using h1 j
theorem mem_als {k : Nat} : ∀ {rs : List Rv} {j : Nat}, rs[j]? = some (.al k) → k ∈ als rs
  | [], j, e => by simp at e
  | .sh _ :: rs, 0, e => by simp at e
  | .ow _ :: rs, 0, e => by simp at e
  | .al i :: rs, 0, e => by simp at e; subst e; exact List.mem_cons_self
  | .sh _ :: rs, j + 1, e => mem_als (rs := rs) (j := j) (by simpa using e)
  | .ow _ :: rs, j + 1, e => mem_als (rs := rs) (j := j) (by simpa using e)
  | .al i :: rs, j + 1, e => List.mem_cons_of_mem _ (mem_als (rs := rs) (j := j) (by simpa using e))
theorem al_unique {rs : List Rv} (nd : (als rs).Nodup) : ∀ {i j k : Nat}, rs[i]? = some (.al k) → rs[j]? = some (.al k) → i = j := by
  induction rs with
  | nil => intro i j k e; simp at e
  | cons r rs ih =>
    intro i j k e1 e2
    have ndr : (als rs).Nodup := by
      cases r with
      | sh d => exact nd
      | ow d => exact nd
      | al i => exact (List.nodup_cons.mp nd).2
    have nin : r = .al k → ∀ j : Nat, rs[j]? ≠ some (.al k) := fun hr j e => by
      subst hr
      exact (List.nodup_cons.mp nd).1 (mem_als e)
    cases i with
    | zero =>
      cases j with
      | zero => rfl
      | succ j =>
        simp at e1 e2
        exact absurd e2 (nin e1 j)
    | succ i =>
      cases j with
      | zero =>
        simp at e1 e2
        exact absurd e1 (nin e2 i)
      | succ j =>
        simp at e1 e2
        rw [ih ndr e1 e2]

section
variable {X : Cx} {ix : List Nat} {e : Expr} {es : List Expr} {ga : MA} {pos p : Pos}
open Classical in
theorem fn_ok {F : FnS} {np : Nat} {σ : L2.St} {H : Hp} {Q : VK} (hnp : ∀ ρ rs ρ', ga ρ = some (rs, ρ') → rs.length = np) (h : TE' X.K ix (eFn F ga) σ H Q) : tCall (spD X.K np F) [] E0 (TA' X.K ix ga) σ H Q := by
  obtain ⟨Fr, FX, G, ρ, r, ρ', R, hf, k⟩ := h
  unfold eFn at hf
  obtain ⟨⟨rs, ρ1⟩, h1, hf⟩ := Option.bind_eq_some_iff.mp hf
  obtain ⟨as, h2, hf⟩ := Option.bind_eq_some_iff.mp hf
  simp only at hf
  split at hf
  rotate_left
  · cases hf
  rename_i hal
  obtain ⟨⟨r0, as'⟩, h3, hf⟩ := Option.bind_eq_some_iff.mp hf
  have nd : (als rs).Nodup := of_decide_eq_true hal
  have hr : r0 = r ∧ ρ' = wback ρ1 rs as' ∧ ∀ i, r0 ≠ .al i := by
    cases r0 with
    | sh d => cases hf; exact ⟨rfl, rfl, fun i z => nomatch z⟩
    | ow d => cases hf; exact ⟨rfl, rfl, fun i z => nomatch z⟩
    | al i => cases hf
  obtain ⟨rfl, rfl, nal⟩ := hr
  refine ⟨Fr, FX, G, ρ, rs, ρ1, R, h1, fun vs G1 H1 s1 R1 v1 => ?_⟩
  show spD X.K np F (vs ++ []) H1 Q E0
  rw [List.append_nil]
  have lv := voks_length v1
  have la := toSls_length h2
  -- where an owned argument stands
  have own : ∀ {j : Nat} {o : Ob}, as[j]? = some (.ow o) → ∃ a, vs[j]? = some (.ref a) ∧ G1 a = none ∧ Fr a = none ∧ Ct X.K G1 H1 a o ∧ (rs[j]? = some (Rv.ow o) ∨ ∃ i : Nat, rs[j]? = some (Rv.al i) ∧ ρ1[i]? = some (Sl.ow o) ∧ σ[i]? = some (some (V.ref a))) := by
    intro j o e
    obtain ⟨r, er, hs⟩ := toSls_get h2 e
    obtain ⟨v, ev, hv⟩ := voks_get v1 er
    cases r with
    | sh d => cases hs
    | ow o' =>
      cases hs
      obtain ⟨a, rfl, g, f, c, _⟩ := hv
      exact ⟨a, ev, g, f, c, .inl er⟩
    | al i =>
      unfold toSl at hs
      simp only at hs
      split at hs
      · rename_i o' ho
        cases hs
        obtain ⟨a, ea, g, f, c⟩ := R1.sl i _ ho
        have hv' : σ[i]? = some (some v) := hv
        rw [ea] at hv'
        cases hv'
        exact ⟨a, ev, g, f, c, .inr ⟨i, er, ho, ea⟩⟩
      · cases hs
  let passed : Addr → Prop := fun a => ∃ (j : Nat) (o : Ob), as[j]? = some (.ow o) ∧ vs[j]? = some (.ref a)
  let Fr' : Hp := fun a => if G1 a ≠ none ∨ passed a then none else H1 a
  have frP : ∀ a, passed a → Fr' a = none := fun a hp => if_pos (.inr hp)
  have frN : ∀ a, G1 a = none → ¬ passed a → Fr' a = H1 a := fun a g np => if_neg (fun z => z.elim (fun y => y g) np)
  have pFr : ∀ a, passed a → Fr a = none := fun a ⟨j, o, e1, e2⟩ => by
    obtain ⟨b, eb, _, f, _⟩ := own e1
    rw [e2] at eb
    cases eb
    exact f
  -- two owned arguments stand apart
  have apart : ∀ (i j : Nat) (a : Addr) (o o' : Ob), i ≠ j → as[i]? = some (.ow o) → as[j]? = some (.ow o') → vs[i]? = some (.ref a) → vs[j]? ≠ some (.ref a) := by
    intro i j a o o' ne e1 e2 e3 e4
    obtain ⟨b, eb, _, _, _, c1⟩ := own e1
    obtain ⟨b', eb', _, _, _, c2⟩ := own e2
    rw [e3] at eb; cases eb
    rw [e4] at eb'; cases eb'
    rcases c1 with c1 | ⟨i1, c1, c1', c1''⟩
    · rcases c2 with c2 | ⟨i2, c2, c2', c2''⟩
      · rcases Nat.lt_or_gt_of_ne ne with l | l
        · exact voks_apart v1 l c1 c2 e3 e4
        · exact voks_apart v1 l c2 c1 e4 e3
      · obtain ⟨v, ev, ⟨q, rfl, _, _, _, hn⟩⟩ := voks_get v1 c1
        rw [e3] at ev; cases ev
        exact hn i2 _ c2' c2''
    · rcases c2 with c2 | ⟨i2, c2, c2', c2''⟩
      · obtain ⟨v, ev, ⟨q, rfl, _, _, _, hn⟩⟩ := voks_get v1 c2
        rw [e4] at ev; cases ev
        exact hn i1 _ c1' c1''
      · by_cases hi : i1 = i2
        · subst hi
          exact ne (al_unique nd c1 c2)
        · exact R1.sep i1 i2 a _ _ hi c1' c2' c1'' c2''
  have getv : ∀ (j : Nat) (v : V), (vs.map some)[j]? = some (some v) ↔ vs[j]? = some v := fun j v => by
    rw [List.getElem?_map]
    cases vs[j]? <;> simp
  have RA : RS X.K [] Fr' (fun _ => none) G1 as (vs.map some) H1 := by
    refine ⟨R1.gh, fun a o e => ?_, fun a n => ?_, by rw [List.length_map, lv, la], fun i s e => ?_, fun i j a o o' ne e1 e2 e3 e4 => ?_, fun i v z => nomatch z⟩
    · by_cases hc : G1 a ≠ none ∨ passed a
      · have : Fr' a = none := if_pos hc
        rw [this] at e; cases e
      · have : Fr' a = H1 a := if_neg hc
        rw [this] at e; exact e
    · by_cases hc : G1 a ≠ none ∨ passed a
      · exact absurd (if_pos hc) n
      · exact Classical.not_not.mp fun z => hc (.inl z)
    · cases s with
      | no => trivial
      | sh d =>
        obtain ⟨r, er, hs⟩ := toSls_get h2 e
        obtain ⟨v, ev, hv⟩ := voks_get v1 er
        cases r with
        | sh d' => cases hs; exact ⟨v, (getv i v).mpr ev, hv⟩
        | ow o' => cases hs
        | al i' =>
          unfold toSl at hs
          simp only at hs
          split at hs <;> cases hs
      | ow o =>
        obtain ⟨a, ev, g, f, c, _⟩ := own e
        exact ⟨a, (getv i _).mpr ev, g, frP a ⟨i, o, e, ev⟩, c⟩
    · exact apart i j a o o' ne e1 e2 ((getv i _).mp e3) ((getv j _).mp e4)
  refine ⟨Fr', G1, as, r0, as', by rw [lv]; exact hnp _ _ _ h1, RA, h3, fun v G2 H2 s2 R2 v2 => ?_⟩
  have la' : as'.length = rs.length := by rw [R2.len, List.length_map, lv]
  have keepFr : ∀ a o, Fr a = some o → Fr' a = some o := fun a o e => by
    have g : G1 a = none := R1.gf a (by rw [e]; simp)
    have n : ¬ passed a := fun z => by rw [pFr a z] at e; cases e
    rw [frN a g n]; exact R1.fh a o e
  -- a slot that was not handed over
  have other : ∀ {i : Nat} {o : Ob} {a : Addr}, ρ1[i]? = some (.ow o) → (∀ j : Nat, rs[j]? ≠ some (Rv.al i)) → σ[i]? = some (some (.ref a)) → G1 a = none → Fr' a = H1 a := by
    intro i o a e1 e2 e3 g
    refine frN a g fun ⟨j, o', e4, e5⟩ => ?_
    obtain ⟨b, eb, _, _, _, c⟩ := own e4
    rw [e5] at eb; cases eb
    rcases c with c | ⟨i', c, c', c''⟩
    · obtain ⟨v, ev, ⟨q, rfl, _, _, _, hn⟩⟩ := voks_get v1 c
      rw [e5] at ev; cases ev
      exact hn i _ e1 e3
    · by_cases hi : i' = i
      · subst hi; exact e2 j c
      · exact R1.sep i' i _ _ _ hi c' e1 c'' e3
  -- a slot that was handed over
  have given : ∀ {i j : Nat} {s : Sl}, rs[j]? = some (.al i) → as'[j]? = some s → ∃ a, σ[i]? = some (some (.ref a)) ∧ vs[j]? = some (.ref a) ∧ passed a := by
    intro i j s e1 e2
    obtain ⟨s0, es, hs⟩ := toSls_of h2 e1
    unfold toSl at hs
    simp only at hs
    split at hs
    · rename_i o ho
      cases hs
      obtain ⟨a, ev, _, _, _, c⟩ := own es
      rcases c with c | ⟨i', c, c', c''⟩
      · rw [e1] at c; cases c
      · rw [e1] at c; cases c
        exact ⟨a, c'', ev, ⟨j, o, es, ev⟩⟩
    · cases hs
  have RZ : RS X.K ix Fr FX G2 (wback ρ1 rs as') σ H2 := by
    refine ⟨R2.gh, fun a o e => R2.fh a o (keepFr a o e), fun a n => ?_, by rw [wback_length]; exact R1.len, fun i s e => ?_, fun i j a o o' ne e1 e2 e3 e4 => ?_, R1.fx⟩
    · refine R2.gf a fun z => ?_
      cases e : Fr a with
      | none => exact n e
      | some o => rw [keepFr a o e] at z; cases z
    · rcases wback_get rs as' ρ1 i s la' nd e with ⟨j, e1, e2⟩ | ⟨e1, e2⟩
      · obtain ⟨a, ea, ev, pa⟩ := given e1 e2
        have q := R2.sl j s e2
        rw [(getv j _).mpr ev] at q
        rw [ea]
        cases s with
        | no => trivial
        | sh d => exact q
        | ow o =>
          obtain ⟨b, eb, g, _, c⟩ := q
          cases eb
          exact ⟨a, rfl, g, pFr a pa, c⟩
      · refine (R1.sl i s e2).mono s2 fun a o e3 e4 g f => ?_
        subst e4
        have q := other e2 e1 e3 g
        obtain ⟨b, eb, _, _, c⟩ := R1.sl i _ e2
        rw [e3] at eb; cases eb
        obtain ⟨u, hu⟩ := c.some
        rw [hu] at q
        exact ⟨R2.gf a (by rw [q]; simp), (R2.fh a u q).trans hu.symm⟩
    · rcases wback_get rs as' ρ1 i _ la' nd e1 with ⟨k1, f1, f2⟩ | ⟨f1, f2⟩
      · obtain ⟨b, eb, ev, pb⟩ := given f1 f2
        rw [e3] at eb; cases eb
        rcases wback_get rs as' ρ1 j _ la' nd e2 with ⟨k2, g1, g2⟩ | ⟨g1, g2⟩
        · obtain ⟨b', eb', ev', _⟩ := given g1 g2
          rw [e4] at eb'; cases eb'
          have nk : k1 ≠ k2 := fun z => by
            subst z
            rw [f1] at g1; cases g1
            exact ne rfl
          exact R2.sep k1 k2 _ _ _ nk f2 g2 ((getv _ _).mpr ev) ((getv _ _).mpr ev')
        · obtain ⟨b', eb', g, _, c⟩ := R1.sl j _ g2
          rw [e4] at eb'; cases eb'
          have q := other g2 g1 e4 g
          obtain ⟨u, hu⟩ := c.some
          rw [frP _ pb, hu] at q; cases q
      · rcases wback_get rs as' ρ1 j _ la' nd e2 with ⟨k2, g1, g2⟩ | ⟨g1, g2⟩
        · obtain ⟨b', eb', ev', pb'⟩ := given g1 g2
          rw [e4] at eb'; cases eb'
          obtain ⟨b, eb, g, _, c⟩ := R1.sl i _ f2
          rw [e3] at eb; cases eb
          have q := other f2 f1 e3 g
          obtain ⟨u, hu⟩ := c.some
          rw [frP _ pb', hu] at q; cases q
        · exact R1.sep i j a _ _ ne f2 g2 e3 e4
  refine k v G2 H2 (s1.trans s2) RZ ?_
  cases r0 with
  | sh d => exact v2
  | al i => exact absurd rfl (nal i)
  | ow o =>
    obtain ⟨a, rfl, g, f, c, hn⟩ := v2
    refine ⟨a, rfl, g, ?_, c, fun i o' e1 e2 => ?_⟩
    · cases e : Fr a with
      | none => rfl
      | some u => rw [keepFr a u e] at f; cases f
    · rcases wback_get rs as' ρ1 i _ la' nd e1 with ⟨j, f1, f2⟩ | ⟨f1, f2⟩
      · obtain ⟨b, eb, ev, _⟩ := given f1 f2
        rw [e2] at eb; cases eb
        exact hn j _ f2 ((getv _ _).mpr ev)
      · obtain ⟨b, eb, g', _, c'⟩ := R1.sl i _ f2
        rw [e2] at eb; cases eb
        have q := other f2 f1 e2 g'
        obtain ⟨u, hu⟩ := c'.some
        rw [f, hu] at q; cases q
theorem de_fn {k np : Nat} {f : Addr} {fd : FuncData} {ps : List Str} {x : Str} {F : FnS} (G : FnOk X.prog X.w X.K X.mg X.base CX0 k f fd ps (spD X.K np F)) (hr : Room k X.A) (hg : Gl X x) (hm : X.mg x = some (.ref f)) (hk : PySem.W.keepIn X.K (.ref f) = true) (hb : Binds X.K fd ps [])
    (ha : PA X (e :: es) (TA' X.K ix ga)) (hnp : ∀ ρ rs ρ', ga ρ = some (rs, ρ') → rs.length = np) (hdb : (x == ("__debug__" : Str)) = false := by decide) (he : starEach (e :: es) X.env = (false, eval e X.env) :: starEach es X.env := by rfl) (hpl : (backTo pos (starEach es X.env)).any (·.1) = false := by rfl) :
    PE X (.Call (.Name x p) (e :: es) [] pos) (TE' X.K ix (eFn F ga)) :=
  pe_imp (pe_call G hr hg hm hk hb .nil pass0 ha hdb he hpl) fun _ _ _ h => fn_ok hnp h
theorem de_fn0 {k : Nat} {f : Addr} {fd : FuncData} {ps : List Str} {x : Str} {F : FnS} (G : FnOk X.prog X.w X.K X.mg X.base CX0 k f fd ps (spD X.K 0 F)) (hr : Room k X.A) (hg : Gl X x) (hm : X.mg x = some (.ref f)) (hk : PySem.W.keepIn X.K (.ref f) = true) (hb : Binds X.K fd ps [])
    (hdb : (x == ("__debug__" : Str)) = false := by decide) : PE X (.Call (.Name x p) [] [] pos) (TE' X.K ix (eFn F aNil)) :=
  pe_imp (pe_call0 G hr hg hm hk hb .nil pass0 hdb) fun σ H Q h => by
    have q := fn_ok (np := 0) (fun ρ rs ρ' e => by cases e; rfl) h
    obtain ⟨Fr, FX, G, ρ, rs, ρ', R, hf, k⟩ := q
    cases hf
    exact k [] G H (Sub.refl _) R trivial
theorem aLen_nil : ∀ (ρ : Rho) rs ρ', aNil ρ = some (rs, ρ') → rs.length = 0 := fun ρ rs ρ' e => by cases e; rfl
theorem aLen_cons {f : M} {g : MA} {n : Nat} (h : ∀ ρ rs ρ', g ρ = some (rs, ρ') → rs.length = n) : ∀ ρ rs ρ', aCons f g ρ = some (rs, ρ') → rs.length = n + 1 := fun ρ rs ρ' e => by
  unfold aCons at e
  obtain ⟨x, _, e⟩ := Option.bind_eq_some_iff.mp e
  obtain ⟨y, h2, e⟩ := Option.bind_eq_some_iff.mp e
  cases e
  simp [h _ _ _ h2]
end
end DL

set_option Elab.async false
set_option linter.all false
set_option autoImplicit false
set_option maxRecDepth 100000
set_option maxHeartbeats 1000000
namespace DL
open PySem PySem.Spec PyProof.Rows L2

/-! ### statements -/
def sNil : MS := fun ρ => some (.nx ρ)
def sSeq (g h : MS) : MS := fun ρ => (g ρ).bind fun fl => match fl with
  | .nx ρ1 => h ρ1
  | fl => some fl
def sBreak : MS := fun ρ => some (.bk ρ)
def sCont : MS := fun ρ => some (.ct ρ)
/-- a name of a slot as a value: a list is shared from then on, a dict goes over -/
def cpM (f : M) : M := fun ρ => (f ρ).bind fun x => match x.1 with
  | .al i => match x.2[i]? with
    | some (.ow (.lst ds)) => some (.sh (.list ds), x.2.set i (.sh (.list ds)))
    | some (.ow o) => some (.ow o, x.2.set i .no)
    | _ => none
  | _ => some x
def sSet (i : Nat) (f : M) : MS := fun ρ => (f ρ).bind fun x => match x.1 with
  | .sh d => some (.nx (x.2.set i (.sh d)))
  | .ow o => some (.nx (x.2.set i (.ow o)))
  | .al _ => none
def sExpr (f : M) : MS := fun ρ => (f ρ).bind fun x => some (.nx x.2)
def sRet (ix : List Nat) (f : M) : MS := fun ρ => (f ρ).bind fun x => match x.1 with
  | .al i => match x.2[i]? with
    | some (.ow (.lst ds)) => if ix.contains i = true then some (.rt (.sh (.list ds)) (x.2.set i (.sh (.list ds)))) else some (.rt (.ow (.lst ds)) (x.2.set i .no))
    | some (.ow o) => some (.rt (.ow o) (x.2.set i .no))
    | _ => none
  | r => some (.rt r x.2)
def sRetN : MS := fun ρ => some (.rt (.sh .none) ρ)
def sIf (t : MB) (g h : MS) : MS := fun ρ => (t ρ).bind fun x => if x.1 = true then g x.2 else h x.2
def whileS (c : MB) (b : MS) : Nat → MS
  | 0 => fun _ => none
  | n + 1 => fun ρ => (c ρ).bind fun x => if x.1 = true then (b x.2).bind fun fl => (match fl with
    | .nx ρ2 => whileS c b n ρ2
    | .ct ρ2 => whileS c b n ρ2
    | .bk ρ2 => some (.nx ρ2)
    | .rt r ρ2 => some (.rt r ρ2)) else some (.nx x.2)
abbrev MT := Dv → Rho → Option Rho
def forS (t : MT) (b : MS) : List Dv → MS
  | [] => fun ρ => some (.nx ρ)
  | d :: ds => fun ρ => (t d ρ).bind fun ρ1 => (b ρ1).bind fun fl => match fl with
    | .nx ρ2 => forS t b ds ρ2
    | .ct ρ2 => forS t b ds ρ2
    | .bk ρ2 => some (.nx ρ2)
    | .rt r ρ2 => some (.rt r ρ2)
def sFor (f : ML) (t : MT) (b : MS) : MS := fun ρ => (f ρ).bind fun x => forS t b x.1 x.2
def tName (i : Nat) : MT := fun d ρ => some (ρ.set i (.sh d))
/-- several names -/
def tMany : List MT → List Dv → Rho → Option Rho
  | [], [], ρ => some ρ
  | t :: ts, d :: ds, ρ => (t d ρ).bind fun ρ1 => tMany ts ds ρ1
  | _, _, _ => none
def tTupT (ts : List MT) : MT := fun d ρ => match d with
  | .tuple ds => tMany ts ds ρ
  | _ => none
def sAsg (f : M) (t : MT) : MS := fun ρ => (frM f ρ).bind fun x => match x.1 with
  | .sh d => (t d x.2).bind fun ρ1 => some (.nx ρ1)
  | _ => none
def sAug (i : Nat) (g : Dv → Dv → Option Rz) (f : M) : MS := fun ρ => match ρ[i]? with
  | some (.sh d) => (pkM f ρ).bind fun x => (dat x.2 x.1).bind fun e => (g d e).bind fun r => (match r with
    | .sh z => some (.nx (x.2.set i (.sh z)))
    | .ow _ => none)
  | _ => none
section
variable {X : Cx} {ix : List Nat} {e : Expr} {es : List Expr} {f : M} {g h b : MS} {t : MB} {ga : MA} {pos p : Pos} {st : Stmt} {rest : List Stmt}
theorem ds_nil : PSs X [] (TS' X.K ix sNil) := pss_imp pss_nil fun D σ H ⟨Fr, FX, G, ρ, fl, R, hf, k⟩ => by
  cases hf
  exact k G σ H (Sub.refl _) R
theorem ds_pass : PS X (.Pass pos) (TS' X.K ix sNil) := ps_imp ps_pass fun D σ H ⟨Fr, FX, G, ρ, fl, R, hf, k⟩ => by
  cases hf
  exact k G σ H (Sub.refl _) R
theorem ds_break : PS X (.Break pos) (TS' X.K ix sBreak) := ps_imp ps_break fun D σ H ⟨Fr, FX, G, ρ, fl, R, hf, k⟩ => by
  cases hf
  exact k G σ H (Sub.refl _) R
theorem ds_cont : PS X (.Continue pos) (TS' X.K ix sCont) := ps_imp ps_continue fun D σ H ⟨Fr, FX, G, ρ, fl, R, hf, k⟩ => by
  cases hf
  exact k G σ H (Sub.refl _) R
/-- a flow's end behind a statement, D's next being h -/
theorem flp_seq {K : PySem.W.Frag} {Fr G : Hp} {FX : Nat → Option V} {fl : Fl} {D : Ends} {fl' : Fl} (h1 : (match fl with | .nx ρ1 => h ρ1 | fl => some fl) = some fl') (k : FlP K ix Fr FX G fl' D) : FlP K ix Fr FX G fl { D with nx := TS' K ix h D } := by
  cases fl with
  | nx ρ1 => exact fun G' σ' H' s R => ⟨Fr, FX, G', ρ1, fl', R, h1, k.mono s⟩
  | bk ρ1 => cases h1; exact k
  | ct ρ1 => cases h1; exact k
  | rt r ρ1 => cases h1; exact k
theorem ds_cons (h1 : PS X st (TS' X.K ix g)) (h2 : PSs X rest (TS' X.K ix h)) : PSs X (st :: rest) (TS' X.K ix (sSeq g h)) :=
  pss_imp (pss_cons h1 h2) fun D σ H ⟨Fr, FX, G, ρ, fl, R, hf, k⟩ => by
    unfold sSeq at hf
    obtain ⟨fl1, e1, hf⟩ := Option.bind_eq_some_iff.mp hf
    exact ⟨Fr, FX, G, ρ, fl1, R, e1, flp_seq hf k⟩
theorem ds_one (h1 : PS X st (TS' X.K ix g)) : PSs X [st] (TS' X.K ix g) := pss_one h1
theorem cp_ok {σ : L2.St} {H : Hp} {Q : VK} (h : TE' X.K ix (cpM f) σ H Q) : TE' X.K ix f σ H Q := by
  obtain ⟨Fr, FX, G, ρ, r, ρ', R, hf, k⟩ := h
  unfold cpM at hf
  obtain ⟨⟨r0, ρ0⟩, h0, hf⟩ := Option.bind_eq_some_iff.mp hf
  refine ⟨Fr, FX, G, ρ, r0, ρ0, R, h0, fun v G' H' s R' q => ?_⟩
  cases r0 with
  | sh d => cases hf; exact k v G' H' s R' q
  | ow o => cases hf; exact k v G' H' s R' q
  | al i =>
    simp only at hf
    split at hf
    · rename_i ds hi
      cases hf
      obtain ⟨Fr2, FX2, G2, ρ2, r2, ρ3, R2, hf2, k2⟩ := fr_ok (X := X) (ix := ix) (f := f) (Q := Q) ⟨Fr, FX, G, ρ, _, _, R, (show frM f ρ = some (.sh (.list ds), ρ0.set i (.sh (.list ds))) by unfold frM; rw [h0]; simp [hi]), k⟩
      obtain ⟨a, ev, g, fr, ⟨vs, hv, qv⟩⟩ := R'.sl i _ hi
      have e' : σ[i]? = some (some v) := q
      rw [ev] at e'
      cases e'
      have hx : Dp X.K (upd G' a (.lst vs)) (.ref a) (.list ds) := .lst (.inl (.inl upd_same)) (dpAll_mono (sub_upd g) _ _ qv)
      have hl : i < ρ0.length := (List.getElem?_eq_some_iff.mp hi).1
      have W : RS X.K ix Fr FX G' (ρ0.set i .no) σ H' := R'.weak (i := i) (s := .no) trivial (fun o z => nomatch z)
      have S := W.share hv g fr fun j o' e1 e2 => by
        by_cases hj : i = j
        · subst hj
          rw [List.getElem?_set_self hl] at e1
          cases e1
        · rw [List.getElem?_set_ne hj] at e1
          exact R'.sep i j a _ o' hj hi e1 ev e2
      have S2 := S.weak (i := i) (s := .sh (.list ds)) ⟨_, ev, hx⟩ (fun o z => nomatch z)
      rw [List.set_set] at S2
      exact k _ _ H' (s.trans (sub_upd g)) S2 hx
    · rename_i o hn hi
      cases hf
      obtain ⟨a, ev, g, fr, c⟩ := R'.sl i _ hi
      have e' : σ[i]? = some (some v) := q
      rw [ev] at e'
      cases e'
      have hl : i < ρ0.length := (List.getElem?_eq_some_iff.mp hi).1
      have W : RS X.K ix Fr FX G' (ρ0.set i .no) σ H' := R'.weak (i := i) (s := .no) trivial (fun o z => nomatch z)
      refine k _ G' H' s W ⟨a, rfl, g, fr, c, fun j o' e1 e2 => ?_⟩
      by_cases hj : i = j
      · subst hj
        rw [List.getElem?_set_self hl] at e1
        cases e1
      · rw [List.getElem?_set_ne hj] at e1
        exact R'.sep i j a _ o' hj hi e1 ev e2
    · cases hf
theorem de_cp (h : PE X e (TE' X.K ix f)) : PE X e (TE' X.K ix (cpM f)) := pe_imp h fun _ _ _ => cp_ok
theorem asg_ok {D : Ends} {σ : L2.St} {H : Hp} {i : Nat} (hi : i ∉ ix) (h : TS' X.K ix (sSet i f) D σ H) : tAsg (TE' X.K ix f) (gName i) D σ H := by
  obtain ⟨Fr, FX, G, ρ, fl, R, hf, k⟩ := h
  unfold sSet at hf
  obtain ⟨⟨r0, ρ0⟩, h0, hf⟩ := Option.bind_eq_some_iff.mp hf
  refine ⟨Fr, FX, G, ρ, r0, ρ0, R, h0, fun v G' H' s R' q => ?_⟩
  cases r0 with
  | al i => cases hf
  | sh d =>
    cases hf
    exact k G' _ H' s (R'.set hi ⟨v, rfl, q⟩ fun o a z => nomatch z)
  | ow o =>
    cases hf
    obtain ⟨a, rfl, g, fr, c, hn⟩ := q
    exact k G' _ H' s (R'.set hi ⟨a, rfl, g, fr, c⟩ fun o' a' z1 z2 j o2 e1 => by cases z2; exact hn j o2 e1)
theorem ds_set {i : Nat} {x : Str} {pos' : Pos} (hN : X.N.Nodup) (hi : X.N[i]? = some x) (hx : Loc X.env.scope x) (hix : i ∉ ix) (he : PE X e (TE' X.K ix f)) (hs : swapsWith e (some (.Name x pos')) pos.line X.env = pure false := by rfl) (hf : X.fn x = true ∨ X.env.scope.names.lookup x = some .local := by first | exact .inl rfl | exact .inr rfl | assumption) :
    PS X (.Assign [.Name x pos'] e pos) (TS' X.K ix (sSet i f)) := ps_imp (ps_set hN hi hx he hs hf) fun _ _ _ h => asg_ok hix h
theorem ds_expr (he : PE X e (TE' X.K ix f)) (hs : swapsWith e none pos.line X.env = pure false := by rfl) : PS X (.Expr e pos) (TS' X.K ix (sExpr f)) :=
  ps_imp (ps_expr he hs) fun D σ H ⟨Fr, FX, G, ρ, fl, R, hf, k⟩ => by
    unfold sExpr at hf
    obtain ⟨⟨r0, ρ0⟩, h0, hf⟩ := Option.bind_eq_some_iff.mp hf
    cases hf
    exact ⟨Fr, FX, G, ρ, r0, _, R, h0, fun v G' H' s R' q => k G' σ H' s R'⟩
theorem ds_retN : PS X (.Return none pos) (TS' X.K ix sRetN) := ps_imp ps_retN fun D σ H ⟨Fr, FX, G, ρ, fl, R, hf, k⟩ => by
  cases hf
  exact k G σ H .non (Sub.refl _) R .non
theorem ds_ret (he : PE X e (TE' X.K ix f)) : PS X (.Return (some e) pos) (TS' X.K ix (sRet ix f)) :=
  ps_imp (ps_ret he) fun D σ H ⟨Fr, FX, G, ρ, fl, R, hf, k⟩ => by
    unfold sRet at hf
    obtain ⟨⟨r0, ρ0⟩, h0, hf⟩ := Option.bind_eq_some_iff.mp hf
    refine ⟨Fr, FX, G, ρ, r0, ρ0, R, h0, fun v G' H' s R' q => ?_⟩
    cases r0 with
    | sh d => cases hf; exact k G' σ H' v s R' q
    | ow o => cases hf; exact k G' σ H' v s R' q
    | al i =>
      simp only at hf
      have e' : σ[i]? = some (some v) := q
      have move : ∀ {o : Ob}, ρ0[i]? = some (.ow o) → fl = .rt (.ow o) (ρ0.set i .no) → D.rt v H' := by
        intro o hi efl
        subst efl
        obtain ⟨a, ev, g, fr, c⟩ := R'.sl i _ hi
        rw [ev] at e'
        cases e'
        have hl : i < ρ0.length := (List.getElem?_eq_some_iff.mp hi).1
        have W : RS X.K ix Fr FX G' (ρ0.set i .no) σ H' := R'.weak (i := i) (s := .no) trivial (fun o z => nomatch z)
        refine k G' σ H' _ s W ⟨a, rfl, g, fr, c, fun j o' e1 e2 => ?_⟩
        by_cases hj : i = j
        · subst hj
          rw [List.getElem?_set_self hl] at e1
          cases e1
        · rw [List.getElem?_set_ne hj] at e1
          exact R'.sep i j a _ o' hj hi e1 ev e2
      split at hf
      · rename_i ds hi
        split at hf
        · cases hf
          obtain ⟨a, ev, g, fr, ⟨vs, hv, qv⟩⟩ := R'.sl i _ hi
          rw [ev] at e'
          cases e'
          have hx : Dp X.K (upd G' a (.lst vs)) (.ref a) (.list ds) := .lst (.inl (.inl upd_same)) (dpAll_mono (sub_upd g) _ _ qv)
          have hl : i < ρ0.length := (List.getElem?_eq_some_iff.mp hi).1
          have W : RS X.K ix Fr FX G' (ρ0.set i .no) σ H' := R'.weak (i := i) (s := .no) trivial (fun o z => nomatch z)
          have S := W.share hv g fr fun j o' e1 e2 => by
            by_cases hj : i = j
            · subst hj
              rw [List.getElem?_set_self hl] at e1
              cases e1
            · rw [List.getElem?_set_ne hj] at e1
              exact R'.sep i j a _ o' hj hi e1 ev e2
          have S2 := S.weak (i := i) (s := .sh (.list ds)) ⟨_, ev, hx⟩ (fun o z => nomatch z)
          rw [List.set_set] at S2
          exact k _ σ H' _ (s.trans (sub_upd g)) S2 hx
        · cases hf; exact move hi rfl
      · rename_i o hn hi
        cases hf; exact move hi rfl
      · cases hf
theorem ds_if {c : Expr} {b1 b2 : List Stmt} (hc : PT X c (TT' X.K ix t)) (h1 : PSs X b1 (TS' X.K ix g)) (h2 : PSs X b2 (TS' X.K ix h)) : PS X (.If c b1 b2 pos) (TS' X.K ix (sIf t g h)) :=
  ps_imp (ps_if hc h1 h2) fun D σ H ⟨Fr, FX, G, ρ, fl, R, hf, k⟩ => by
    unfold sIf at hf
    obtain ⟨⟨k1, ρ1⟩, e1, hf⟩ := Option.bind_eq_some_iff.mp hf
    refine ⟨Fr, FX, G, ρ, k1, ρ1, R, e1, fun G1 H1 s1 R1 => ?_⟩
    cases k1 with
    | true => exact ⟨Fr, FX, G1, ρ1, fl, R1, hf, k.mono s1⟩
    | false => exact ⟨Fr, FX, G1, ρ1, fl, R1, hf, k.mono s1⟩
/-- a turn's flow, for a loop that goes on by `go` -/
theorem flp_turn {K : PySem.W.Frag} {Fr G : Hp} {FX : Nat → Option V} {fl fl' : Fl} {D : Ends} {go : MS} {N : L2.St → Hp → Prop}
    (h1 : (match fl with | .nx ρ2 => go ρ2 | .ct ρ2 => go ρ2 | .bk ρ2 => some (Fl.nx ρ2) | .rt r ρ2 => some (Fl.rt r ρ2)) = some fl') (k : FlP K ix Fr FX G fl' D)
    (hN : ∀ ρ2 G' σ' H', go ρ2 = some fl' → Sub G G' → RS K ix Fr FX G' ρ2 σ' H' → N σ' H') : FlP K ix Fr FX G fl { D with nx := N, ct := N, bk := D.nx } := by
  cases fl with
  | nx ρ2 => exact fun G' σ' H' s R => hN ρ2 G' σ' H' h1 s R
  | ct ρ2 => exact fun G' σ' H' s R => hN ρ2 G' σ' H' h1 s R
  | bk ρ2 => cases h1; exact k
  | rt r ρ2 => cases h1; exact k
theorem ds_while {c : Expr} {body : List Stmt} (n : Nat) (hp : PassesOwn (model X.prog X.w) X.A X.env X.xe) (hc : PT X c (TT' X.K ix t)) (hb : PSs X body (TS' X.K ix b)) : PS X (.While c body [] pos) (TS' X.K ix (whileS t b n)) :=
  ps_imp (ps_while hp hc hb) fun D σ H ⟨Fr, FX, G, ρ, fl, R, hf, k⟩ => by
    refine ⟨fun m σ H => ∃ G1 ρ1, Sub G G1 ∧ RS X.K ix Fr FX G1 ρ1 σ H ∧ whileS t b m ρ1 = some fl, ⟨n, G, ρ, Sub.refl _, R, hf⟩, ?_⟩
    rintro m σ1 H1 ⟨G1, ρ1, s1, R1, e1⟩
    cases m with
    | zero => cases e1
    | succ m =>
      unfold whileS at e1
      obtain ⟨⟨k1, ρ2⟩, e2, e1⟩ := Option.bind_eq_some_iff.mp e1
      refine ⟨Fr, FX, G1, ρ1, k1, ρ2, R1, e2, fun G2 H2 s2 R2 => ?_⟩
      cases k1 with
      | false =>
        cases e1
        exact k G2 σ1 H2 (s1.trans s2) R2
      | true =>
        obtain ⟨fl1, e3, e1⟩ := Option.bind_eq_some_iff.mp e1
        rw [if_pos rfl]
        refine ⟨fun σ H => ∃ G1 ρ1, Sub G G1 ∧ RS X.K ix Fr FX G1 ρ1 σ H ∧ whileS t b m ρ1 = some fl, fun σ' H' w => ⟨m, Nat.lt_succ_self m, w⟩, ?_⟩
        exact ⟨Fr, FX, G2, ρ2, fl1, R2, e3, flp_turn e1 (k.mono (s1.trans s2)) fun ρ3 G' σ' H' e4 s R => ⟨G', ρ3, (s1.trans s2).trans s, R, e4⟩⟩
theorem ds_for {tg it : Expr} {body : List Stmt} {fi : ML} {tis : List Nat} {tt : MT} (hp : PassesOwn (model X.prog X.w) X.A X.env X.xe) (hc : X.calm = true) (hi : PI X tg it (TI' X.K ix fi)) (hg : PG X tg (TG' X.K ix tis tt)) (hb : PSs X body (TS' X.K ix b))
    (hs : ∀ x, foldedSetIterable it X.env x = pure x := by intro _; rfl) : PS X (.For tg it body [] pos) (TS' X.K ix (sFor fi tt b)) :=
  ps_imp (ps_for hp hc hi hg hb hs) fun D σ H ⟨Fr, FX, G, ρ, fl, R, hf, k⟩ => by
    unfold sFor at hf
    obtain ⟨⟨ds, ρ0⟩, e0, hf⟩ := Option.bind_eq_some_iff.mp hf
    refine ⟨Fr, FX, G, ρ, ds, ρ0, R, e0, fun J G0 H0 s0 R0 jk => ?_⟩
    refine ⟨fun i m σ H => m = ds.length - i ∧ i ≤ ds.length ∧ ∃ G1 ρ1, Sub G0 G1 ∧ RS X.K ix Fr FX G1 ρ1 σ H ∧ forS tt b (ds.drop i) ρ1 = some fl, ⟨ds.length, by simp, Nat.zero_le _, G0, ρ0, Sub.refl _, R0, hf⟩, ?_⟩
    rintro i m σ1 H1 ⟨rfl, hle, G1, ρ1, s1, R1, e1⟩
    obtain ⟨j1, j2⟩ := jk i G1 H1 s1 R1.gh
    by_cases hlt : i < ds.length
    · have hd : ds[i]? = some ds[i] := List.getElem?_eq_getElem hlt
      obtain ⟨j3, j4⟩ := j1 _ hd
      rw [List.drop_eq_getElem_cons hlt] at e1
      unfold forS at e1
      obtain ⟨ρ2, e2, e1⟩ := Option.bind_eq_some_iff.mp e1
      obtain ⟨fl1, e3, e1⟩ := Option.bind_eq_some_iff.mp e1
      refine .inr ⟨j3, fun σ H => ∃ G1 ρ1, Sub G0 G1 ∧ RS X.K ix Fr FX G1 ρ1 σ H ∧ forS tt b (ds.drop (i + 1)) ρ1 = some fl, fun σ' H' w => ⟨ds.length - (i + 1), by omega, rfl, hlt, w⟩, fun x H2 y => ?_⟩
      have key : ∃ G2, Sub G1 G2 ∧ RS X.K ix Fr FX G2 ρ1 σ1 H2 ∧ Dp X.K G2 x ds[i] := by
        rcases j4 x H2 y with ⟨rfl, q⟩ | ⟨p, o, hp, rfl, q⟩
        · exact ⟨G1, Sub.refl _, R1, q⟩
        · exact ⟨_, sub_upd (R1.none_of hp).1, R1.newG hp, q⟩
      obtain ⟨G2, s2, R2, q⟩ := key
      refine ⟨Fr, FX, G2, ρ1, _, ρ2, R2, q, e2, fun G3 σ3 H3 s3 _ R3 => ?_⟩
      refine ⟨Fr, FX, G3, ρ2, fl1, R3, e3, flp_turn e1 (k.mono (((s0.trans s1).trans s2).trans s3)) fun ρ4 G' σ' H' e4 s R => ⟨G', ρ4, ((s1.trans s2).trans s3).trans s, R, e4⟩⟩
    · have hi : i = ds.length := by omega
      subst hi
      rw [List.drop_length] at e1
      cases e1
      exact .inl ⟨j2 (Nat.le_refl _), k G1 σ1 H1 (s0.trans s1) R1⟩
/-! ### targets -/
theorem dg_name {i : Nat} {x : Str} (hN : X.N.Nodup) (hi : X.N[i]? = some x) (hx : Loc X.env.scope x) (hix : i ∉ ix) (hf : X.fn x = true ∨ X.env.scope.names.lookup x = some .local := by first | exact .inl rfl | exact .inr rfl | assumption) : PG X (.Name x pos) (TG' X.K ix [i] (tName i)) :=
  pg_imp (pg_name hN hi hx hf) fun v σ H Q ⟨Fr, FX, G, ρ, d, ρ', R, q, e, k⟩ => by
    cases e
    refine k G _ H (Sub.refl _) ⟨List.length_set, fun j hj => ?_⟩ (R.set hix ⟨v, rfl, q⟩ fun o a z => nomatch z)
    rw [List.getElem?_set_ne (fun z => hj (by rw [z]; exact List.mem_singleton_self _))]
inductive DGs (X : Cx) (ix : List Nat) : List Expr → List Nat → List MT → Prop
  | nil : DGs X ix [] [] []
  | cons {e : Expr} {es : List Expr} {tis tjs : List Nat} {t : MT} {ts : List MT} : PG X e (TG' X.K ix tis t) → DGs X ix es tjs ts → DGs X ix (e :: es) (tis ++ tjs) (t :: ts)
def TGs' (K : PySem.W.Frag) (ix tis : List Nat) (ts : List MT) : TGs := fun vs σ H Q => ∃ Fr FX G ρ ds ρ', RS K ix Fr FX G ρ σ H ∧ DpAll K G vs ds ∧ tMany ts ds ρ = some ρ' ∧
  ∀ G' σ' H', Sub G G' → (σ'.length = σ.length ∧ ∀ j, j ∉ tis → σ'[j]? = σ[j]?) → RS K ix Fr FX G' ρ' σ' H' → Q σ' H'
theorem pgs_imp {es : List Expr} {t t' : TGs} (h : PGs X es t) (k : ∀ v σ H Q, t' v σ H Q → t v σ H Q) : PGs X es t' := ⟨fun pins s σ H v u Q I r q => h.run pins s σ H v u Q I r (k _ _ _ _ q)⟩
theorem dgs_nil : PGs X [] (TGs' X.K ix [] []) := pgs_imp pgs_nil fun vs σ H Q ⟨Fr, FX, G, ρ, ds, ρ', R, q, e, k⟩ => by
  cases q with
  | nil => cases e; exact ⟨rfl, k G σ H (Sub.refl _) ⟨rfl, fun _ _ => rfl⟩ R⟩
  | cons _ _ => cases e
theorem dgs_cons {tis tjs : List Nat} {t : MT} {ts : List MT} (h1 : PG X e (TG' X.K ix tis t)) (h2 : PGs X es (TGs' X.K ix tjs ts)) (hs : (assignEach (e :: es) X.env).map (·.2) = assign e X.env :: (assignEach es X.env).map (·.2) := by rfl) :
    PGs X (e :: es) (TGs' X.K ix (tis ++ tjs) (t :: ts)) := pgs_imp (pgs_cons h1 h2 hs) fun vs σ H Q ⟨Fr, FX, G, ρ, ds, ρ', R, q, e, k⟩ => by
  cases q with
  | nil => cases e
  | @cons v vs d ds q1 q2 =>
    unfold tMany at e
    obtain ⟨ρ1, e1, e⟩ := Option.bind_eq_some_iff.mp e
    refine ⟨v, vs, rfl, Fr, FX, G, ρ, d, ρ1, R, q1, e1, fun G1 σ1 H1 s1 n1 R1 => ?_⟩
    refine ⟨Fr, FX, G1, ρ1, ds, ρ', R1, dpAll_mono s1 _ _ q2, e, fun G2 σ2 H2 s2 n2 R2 => k G2 σ2 H2 (s1.trans s2) ⟨n2.1.trans n1.1, fun j hj => ?_⟩ R2⟩
    rw [List.mem_append, not_or] at hj
    rw [n2.2 j hj.2, n1.2 j hj.1]
theorem tMany_length : ∀ {ts : List MT} {ds : List Dv} {ρ ρ' : Rho}, tMany ts ds ρ = some ρ' → ds.length = ts.length
  | [], [], _, _, _ => rfl
  | t :: ts, d :: ds, ρ, ρ', h => by
    unfold tMany at h
    obtain ⟨ρ1, _, h⟩ := Option.bind_eq_some_iff.mp h
    simp [tMany_length h]
  | [], _ :: _, _, _, h => by cases h
  | _ :: _, [], _, _, h => by cases h
theorem dg_tup {tis : List Nat} {ts : List MT} {k n : Nat} (hc : X.calm = true) (h : PGs X es (TGs' X.K ix tis ts)) (hl : ts.length = n := by rfl) (hn : (assignEach es X.env).length = n := by rfl) (hst : (assignEach es X.env).findIdx? (·.1) = none := by rfl) :
    PG X (.Tuple es k pos) (TG' X.K ix tis (tTupT ts)) := pg_imp (pg_tup hc h hn hst) fun v σ H Q ⟨Fr, FX, G, ρ, d, ρ', R, q, e, kk⟩ => by
  unfold tTupT at e
  split at e
  · rename_i ds
    cases q with
    | tup hs ha => exact ⟨_, _, rfl, R.sub.sqT hs, by rw [dpAll_length ha, tMany_length e]; exact hl, Fr, FX, G, ρ, ds, ρ', R, ha, e, kk⟩
  · cases e
theorem ds_asg {tg : Expr} {tis : List Nat} {tt : MT} (he : PE X e (TE' X.K ix f)) (hg : PG X tg (TG' X.K ix tis tt)) (hs : swapsWithSole [tg] e pos.line X.env = pure false := by rfl) (hw : swappedStores [tg] e X.env = pure none := by rfl)
    (h1 : (assignEach [tg] X.env).map (·.2) = [assign tg X.env] := by rfl) : PS X (.Assign [tg] e pos) (TS' X.K ix (sAsg f tt)) :=
  ps_imp (ps_asg (de_fr he) hg hs hw h1) fun D σ H ⟨Fr, FX, G, ρ, fl, R, hf, k⟩ => by
    unfold sAsg at hf
    obtain ⟨⟨r0, ρ0⟩, h0, hf⟩ := Option.bind_eq_some_iff.mp hf
    refine ⟨Fr, FX, G, ρ, r0, ρ0, R, h0, fun v G' H' s R' q => ?_⟩
    cases r0 with
    | ow o => cases hf
    | al i => cases hf
    | sh d =>
      simp only at hf
      obtain ⟨ρ1, e1, hf⟩ := Option.bind_eq_some_iff.mp hf
      cases hf
      exact ⟨Fr, FX, G', ρ0, d, _, R', q, e1, fun G2 σ2 H2 s2 _ R2 => k G2 σ2 H2 (s.trans s2) R2⟩
theorem ds_aug {i : Nat} {x : Str} {op : Operator} {gg : Dv → Dv → Option Rz} {pos' : Pos} (hN : X.N.Nodup) (hi : X.N[i]? = some x) (hx : Loc X.env.scope x) (hix : i ∉ ix) (he : PE X e (TE' X.K ix f)) (ho : OpD X (inplaceOp op) gg) (hf : X.fn x = true ∨ X.env.scope.names.lookup x = some .local := by first | exact .inl rfl | exact .inr rfl | assumption) :
    PS X (.AugAssign (.Name x pos') op e pos) (TS' X.K ix (sAug i gg f)) :=
  ps_imp (ps_aug (ti := R2d X.K gg) hN hi hx (de_pk he) (fun pins s σ H x y v u Q I r1 r2 h => ho pins s σ H x y v u Q I r1 r2 h) hf) fun D σ H ⟨Fr, FX, G, ρ, fl, R, hf, k⟩ => by
    unfold sAug at hf
    split at hf
    · rename_i d hd
      obtain ⟨v, ev, q⟩ := R.sl i _ hd
      obtain ⟨⟨r0, ρ0⟩, h0, hf⟩ := Option.bind_eq_some_iff.mp hf
      obtain ⟨e', h1, hf⟩ := Option.bind_eq_some_iff.mp hf
      obtain ⟨r, h2, hf⟩ := Option.bind_eq_some_iff.mp hf
      cases r with
      | ow o => cases hf
      | sh z =>
        cases hf
        refine ⟨v, ev, Fr, FX, G, ρ, r0, ρ0, R, h0, fun y G1 H1 s1 R1 v1 => ?_⟩
        refine ⟨G1, d, e', .sh z, R1.gh, dp_vd R1.gh (dp_mono s1 _ _ q), dat_vd R1 v1 h1, h2, res_ok R1 fun w G2 H2 s2 R2 v2 => ?_⟩
        exact k G2 _ H2 (s1.trans s2) (R2.set hix ⟨w, rfl, v2⟩ fun o a z => nomatch z)
    · cases hf
end
end DL

set_option Elab.async false
set_option linter.all false
set_option autoImplicit false
set_option maxRecDepth 100000
set_option maxHeartbeats 1000000
namespace DL
open PySem PySem.Spec PyProof.Rows L2

/-! ### what loops walk -/
def itemsOf : Dv → Option (List Dv)
  | .list ds => some ds
  | .tuple ds => some ds
  | _ => none
def iSeq (f : M) : ML := fun ρ => (frM f ρ).bind fun x => match x.1 with
  | .sh d => (itemsOf d).bind fun ds => some (ds, x.2)
  | _ => none
def rangeD (lo : Int) (n : Nat) : List Dv := (List.range n).map fun i => .int (lo + (i : Nat))
def bnd62 (i : Int) : Bool := decide (-(4611686018427387904) ≤ i ∧ i < 4611686018427387904)
def rng1 : List Dv → Option (List Dv)
  | [.int j] => if bnd62 j = true then some (rangeD 0 j.toNat) else none
  | _ => none
def rng2 : List Dv → Option (List Dv)
  | [.int i, .int j] => if bnd62 i = true ∧ bnd62 j = true then some (rangeD i (j - i).toNat) else none
  | _ => none
def rangeDC (lo c : Int) (n : Nat) : List Dv := (List.range n).map fun i => .int (lo + (i : Nat) * c)
def rng3 : List Dv → Option (List Dv)
  | [.int i, .int j, .int c] => if bnd62 i = true ∧ bnd62 j = true ∧ c = -1 then some (rangeDC i (-1) (i - j).toNat) else none
  | _ => none
def iRng (r : List Dv → Option (List Dv)) (ga : MA) : ML := fun ρ => (ga ρ).bind fun x => (dats x.2 x.1).bind fun ds => (r ds).bind fun es => some (es, x.2)
section
variable {X : Cx} {ix : List Nat} {e a b : Expr} {f : M} {ga : MA} {tg : Expr} {pos p : Pos}
def tSeqI (K : PySem.W.Frag) (tl : TE) : TI := fun σ H R => tl σ H fun x H1 => ∃ a, x = .ref a ∧ ((∃ xs, SqL K H1 a xs ∧ R (Itl K a) H1) ∨ ∃ xs, SqT K H1 a xs ∧ R (Itt K a) H1)
theorem fp_new {pins : List (Addr × Obj)} {σ : L2.St} {H : Hp} {s : Shared} (I : Inv X pins σ H s) : ∀ b ∈ [s.heap.objs.size], FpOk X pins H b := fun b hb => by
  obtain rfl : b = s.heap.objs.size := by simpa using hb
  exact I.fpOk (Nat.le_refl _) I.fresh
theorem pi_seqI {tl : TE} (hl : PE X e tl) : PI X tg e (tSeqI X.K tl) := ⟨fun pins s σ H R I h => thn (hl.run pins s σ H _ I h) fun v s1 ⟨x, H1, I1, r1, a, ea, q⟩ => by
  subst ea
  cases r1
  rcases q with ⟨xs, hq, q⟩ | ⟨xs, hq, q⟩
  · obtain ⟨its, rv, pl, hz⟩ := I1.list hq
    exact wpAny_pyIter_list pl.isList ⟨_, [_], _, _, H1, rfl, I1.kept (t' := s1.toks) fun b o e => Heap.get?_push_of_some _ e, turn_list a _, ⟨_, Heap.get?_push_size _ rfl, rfl, rfl⟩, fp_new I1, q⟩
  · obtain ⟨its, rv, pl, hz⟩ := I1.tuple hq
    exact wpAny_pyIter_tuple (show s1.heap.IsTuple a its.toArray from pl) ⟨_, [_], _, _, H1, rfl, I1.kept (t' := s1.toks) fun b o e => Heap.get?_push_of_some _ e, turn_tuple a _, ⟨_, Heap.get?_push_size _ rfl, rfl, rfl⟩, fp_new I1, q⟩⟩
theorem jok_list {K : PySem.W.Frag} {G : Hp} {a : Addr} {ds : List Dv} {vs : List V} (h : SqL K G a vs) (q : DpAll K G vs ds) : Jok K G (Itl K a) ds := fun i G1 H1 s gh => by
  have hs : SqL K H1 a vs := (s.trans (sub_le gh)).sqL h
  have l := dpAll_length q
  refine ⟨fun d hd => ?_, fun hl => ⟨vs, hs, by omega⟩⟩
  obtain ⟨v, hv, qv⟩ := dpAll_get q hd
  refine ⟨⟨vs, v, hs, hv⟩, fun x H2 ⟨e1, e2⟩ => .inl ⟨e1, ?_⟩⟩
  have := e2 vs hs
  rw [hv] at this
  cases this
  exact dp_mono s _ _ qv
theorem jok_tup {K : PySem.W.Frag} {G : Hp} {a : Addr} {ds : List Dv} {vs : List V} (h : SqT K G a vs) (q : DpAll K G vs ds) : Jok K G (Itt K a) ds := fun i G1 H1 s gh => by
  have hs : SqT K H1 a vs := (s.trans (sub_le gh)).sqT h
  have l := dpAll_length q
  refine ⟨fun d hd => ?_, fun hl => ⟨vs, hs, by omega⟩⟩
  obtain ⟨v, hv, qv⟩ := dpAll_get q hd
  refine ⟨⟨vs, v, hs, hv⟩, fun x H2 ⟨e1, e2⟩ => .inl ⟨e1, ?_⟩⟩
  have := e2 vs hs
  rw [hv] at this
  cases this
  exact dp_mono s _ _ qv
theorem di_seq (h : PE X e (TE' X.K ix f)) : PI X tg e (TI' X.K ix (iSeq f)) :=
  pi_imp (pi_seqI (de_fr h)) fun σ H R ⟨Fr, FX, G, ρ, ds, ρ', R0, hf, k⟩ => by
    unfold iSeq at hf
    obtain ⟨⟨r0, ρ0⟩, h0, hf⟩ := Option.bind_eq_some_iff.mp hf
    refine ⟨Fr, FX, G, ρ, r0, ρ0, R0, h0, fun v G1 H1 s1 R1 q => ?_⟩
    cases r0 with
    | ow o => cases hf
    | al i => cases hf
    | sh d =>
      simp only at hf
      obtain ⟨es, he, hf⟩ := Option.bind_eq_some_iff.mp hf
      cases hf
      have q' : Dp X.K G1 v d := q
      cases d with
      | list ds =>
        cases he
        cases q' with
        | lst hs ha => exact ⟨_, rfl, .inl ⟨_, R1.sub.sqL hs, k _ G1 H1 s1 R1 (jok_list hs ha)⟩⟩
      | tuple ds =>
        cases he
        cases q' with
        | tup hs ha => exact ⟨_, rfl, .inr ⟨_, R1.sub.sqT hs, k _ G1 H1 s1 R1 (jok_tup hs ha)⟩⟩
      | none => cases he
      | bool b => cases he
      | int b => cases he
      | str b => cases he
      | dict b => cases he
theorem rangeD_get {lo : Int} {n i : Nat} {d : Dv} (h : (rangeD lo n)[i]? = some d) : i < n ∧ d = .int (lo + (i : Nat)) := by
  unfold rangeD at h
  rw [List.getElem?_map] at h
  cases hr : (List.range n)[i]? with
  | none => rw [hr] at h; cases h
  | some j =>
    rw [hr] at h
    obtain ⟨hl, hj⟩ := List.getElem?_eq_some_iff.mp hr
    rw [List.getElem_range] at hj
    subst hj
    cases h
    exact ⟨by simpa using hl, rfl⟩
theorem jok_rng {K : PySem.W.Frag} {G : Hp} {lo : Int} {n : Nat} : Jok K G (Itr lo n) (rangeD lo n) := fun i G1 H1 s gh => by
  refine ⟨fun d hd => ?_, fun hl => (show n ≤ i by simpa [rangeD] using hl)⟩
  obtain ⟨hi, rfl⟩ := rangeD_get hd
  exact ⟨hi, fun x H2 ⟨e1, e2⟩ => .inl ⟨e1, by subst e2; exact .int _⟩⟩
theorem rng_open {r : List Dv → Option (List Dv)} {σ : L2.St} {H : Hp} {R : It → Hp → Prop} {Z : List V → Hp → Prop} (h : TI' X.K ix (iRng r ga) σ H R)
    (k : ∀ G1 H1 (vs : List V) (ds es : List Dv), (∀ a o, G1 a = some o → H1 a = some o) → VDs X.K G1 H1 ds vs → r ds = some es → (∀ J, Jok X.K G1 J es → R J H1) → Z vs H1) : TA' X.K ix ga σ H Z := by
  obtain ⟨Fr, FX, G, ρ, ds, ρ', R0, hf, kk⟩ := h
  unfold iRng at hf
  obtain ⟨⟨rs, ρ0⟩, h0, hf⟩ := Option.bind_eq_some_iff.mp hf
  obtain ⟨es, h1, hf⟩ := Option.bind_eq_some_iff.mp hf
  obtain ⟨fs, h2, hf⟩ := Option.bind_eq_some_iff.mp hf
  cases hf
  exact ⟨Fr, FX, G, ρ, rs, _, R0, h0, fun vs G1 H1 s1 R1 v1 => k G1 H1 vs es _ R1.gh (dats_vd R1 v1 h1) h2 fun J j => kk J G1 H1 s1 R1 j⟩
theorem di_range1 (hg : Gl X "range") (hm : X.mg "range" = none) (ha : PA X [a] (TA' X.K ix ga)) (hs : starEach [a] X.env = [(false, eval a X.env)] := by rfl) : PI X tg (.Call (.Name "range" p) [a] [] pos) (TI' X.K ix (iRng rng1 ga)) :=
  pi_imp (pi_range1 hg hm ha hs) fun σ H R h => rng_open h fun G1 H1 vs ds es gh vd hr k => by
    unfold rng1 at hr
    split at hr
    · split at hr
      · rename_i hb
        cases hr
        obtain ⟨v, rfl, hv⟩ := vds1 vd
        rw [vd_int hv]
        have hb' := of_decide_eq_true hb
        exact ⟨_, rfl, hb'.1, hb'.2, k _ jok_rng⟩
      · cases hr
    · cases hr
theorem di_range2 (hg : Gl X "range") (hm : X.mg "range" = none) (ha : PA X [a, b] (TA' X.K ix ga)) (hs : starEach [a, b] X.env = [(false, eval a X.env), (false, eval b X.env)] := by rfl) (hs2 : starEach [b] X.env = [(false, eval b X.env)] := by rfl) : PI X tg (.Call (.Name "range" p) [a, b] [] pos) (TI' X.K ix (iRng rng2 ga)) :=
  pi_imp (pi_range2 hg hm ha hs hs2) fun σ H R h => rng_open h fun G1 H1 vs ds es gh vd hr k => by
    unfold rng2 at hr
    split at hr
    · split at hr
      · rename_i hb
        cases hr
        obtain ⟨v, v', rfl, hv, hv'⟩ := vds2 vd
        rw [vd_int hv, vd_int hv']
        have h1 := of_decide_eq_true hb.1
        have h2 := of_decide_eq_true hb.2
        exact ⟨_, _, rfl, ⟨h1.1, h1.2, h2.1, h2.2⟩, k _ jok_rng⟩
      · cases hr
    · cases hr
theorem vds3 {K : PySem.W.Frag} {G H : Hp} {d d' d2 : Dv} {xs : List V} (h : VDs K G H [d, d', d2] xs) : ∃ v v' v2, xs = [v, v', v2] ∧ VD K G H d v ∧ VD K G H d' v' ∧ VD K G H d2 v2 := by
  cases h with | cons h1 h2 => cases h2 with | cons h3 h4 => cases h4 with | cons h5 h6 => cases h6; exact ⟨_, _, _, rfl, h1, h3, h5⟩
theorem rangeDC_get {lo c : Int} {n i : Nat} {d : Dv} (h : (rangeDC lo c n)[i]? = some d) : i < n ∧ d = .int (lo + (i : Nat) * c) := by
  unfold rangeDC at h
  rw [List.getElem?_map] at h
  cases hr : (List.range n)[i]? with
  | none => rw [hr] at h; cases h
  | some j =>
    rw [hr] at h
    obtain ⟨hl, hj⟩ := List.getElem?_eq_some_iff.mp hr
    rw [List.getElem_range] at hj
    subst hj
    cases h
    exact ⟨by simpa using hl, rfl⟩
theorem jok_rngC {K : PySem.W.Frag} {G : Hp} {lo c : Int} {n : Nat} : Jok K G (Itc lo c n) (rangeDC lo c n) := fun i G1 H1 s gh => by
  refine ⟨fun d hd => ?_, fun hl => (show n ≤ i by simpa [rangeDC] using hl)⟩
  obtain ⟨hi, rfl⟩ := rangeDC_get hd
  exact ⟨hi, fun x H2 ⟨e1, e2⟩ => .inl ⟨e1, by subst e2; exact .int _⟩⟩
theorem jok_rev {K : PySem.W.Frag} {G : Hp} {a : Addr} {ds : List Dv} {vs : List V} (h : SqL K G a vs) (q : DpAll K G vs ds) : Jok K G (Itv K a vs.length) ds.reverse := fun i G1 H1 s gh => by
  have hs : SqL K H1 a vs := (s.trans (sub_le gh)).sqL h
  have l := dpAll_length q
  refine ⟨fun d hd => ?_, fun hl => ?_⟩
  · have hi : i < ds.length := by have := (List.getElem?_eq_some_iff.mp hd).1; simpa using this
    rw [List.getElem?_reverse hi] at hd
    obtain ⟨v, hv, qv⟩ := dpAll_get q hd
    have hv' : vs[vs.length - 1 - i]? = some v := by rw [l]; exact hv
    refine ⟨?_, fun x H2 y => ?_⟩
    · exact ⟨by omega, vs, v, hs, hv'⟩
    · obtain ⟨e1, e2⟩ := y
      have := e2 vs hs
      rw [hv'] at this
      cases this
      exact .inl ⟨e1, dp_mono s _ _ qv⟩
  · exact (show vs.length ≤ i by simpa [l] using hl)
theorem jok_revT {K : PySem.W.Frag} {G : Hp} {a : Addr} {ds : List Dv} {vs : List V} (h : SqT K G a vs) (q : DpAll K G vs ds) : Jok K G (RT.ItvT K a vs.length) ds.reverse := fun i G1 H1 s gh => by
  have hs : SqT K H1 a vs := (s.trans (sub_le gh)).sqT h
  have l := dpAll_length q
  refine ⟨fun d hd => ?_, fun hl => ?_⟩
  · have hi : i < ds.length := by have := (List.getElem?_eq_some_iff.mp hd).1; simpa using this
    rw [List.getElem?_reverse hi] at hd
    obtain ⟨v, hv, qv⟩ := dpAll_get q hd
    have hv' : vs[vs.length - 1 - i]? = some v := by rw [l]; exact hv
    refine ⟨?_, fun x H2 y => ?_⟩
    · exact ⟨by omega, vs, v, hs, hv'⟩
    · obtain ⟨e1, e2⟩ := y
      have := e2 vs hs
      rw [hv'] at this
      cases this
      exact .inl ⟨e1, dp_mono s _ _ qv⟩
  · exact (show vs.length ≤ i by simpa [l] using hl)
def iRevS (f : M) : ML := fun ρ => (iSeq f ρ).bind fun x => some (x.1.reverse, x.2)
theorem di_rev (hg : Gl X "reversed") (hm : X.mg "reversed" = none) (he : PE X e (TE' X.K ix f)) (hs : starEach [e] X.env = (false, eval e X.env) :: starEach [] X.env := by rfl) : PI X tg (.Call (.Name "reversed" p) [e] [] pos) (TI' X.K ix (iRevS f)) :=
  pi_imp (RT.pi_revA hg hm (de_fr he) hs) fun σ H R ⟨Fr, FX, G, ρ, ds, ρ', R0, hf, k⟩ => by
    unfold iRevS iSeq at hf
    obtain ⟨⟨ds0, ρ1⟩, hq, hf⟩ := Option.bind_eq_some_iff.mp hf
    cases hf
    obtain ⟨⟨r0, ρ0⟩, h0, hq⟩ := Option.bind_eq_some_iff.mp hq
    refine ⟨Fr, FX, G, ρ, r0, ρ0, R0, h0, fun v G1 H1 s1 R1 q => ?_⟩
    cases r0 with
    | ow o => cases hq
    | al i => cases hq
    | sh d =>
      simp only at hq
      obtain ⟨es, he, hq⟩ := Option.bind_eq_some_iff.mp hq
      cases hq
      have q' : Dp X.K G1 v d := q
      cases d with
      | list ds =>
        cases he
        cases q' with
        | lst hs ha => exact ⟨_, _, rfl, .inl ⟨R1.sub.sqL hs, k _ G1 H1 s1 R1 (jok_rev hs ha)⟩⟩
      | tuple ds =>
        cases he
        cases q' with
        | tup hs ha => exact ⟨_, _, rfl, .inr ⟨R1.sub.sqT hs, k _ G1 H1 s1 R1 (jok_revT hs ha)⟩⟩
      | none => cases he
      | bool b => cases he
      | int b => cases he
      | str b => cases he
      | dict b => cases he
theorem di_range3 {c : Expr} (hg : Gl X "range") (hm : X.mg "range" = none) (ha : PA X [a, b, c] (TA' X.K ix ga)) (h1 : starEach [a, b, c] X.env = (false, eval a X.env) :: starEach [b, c] X.env := by rfl) (h2 : (backTo pos (starEach [b, c] X.env)).any (·.1) = false := by rfl) :
    PI X tg (.Call (.Name "range" p) [a, b, c] [] pos) (TI' X.K ix (iRng rng3 ga)) :=
  pi_imp (pi_range3 hg hm ha h1 h2) fun σ H R h => rng_open h fun G1 H1 vs ds es gh vd hr k => by
    unfold rng3 at hr
    split at hr
    · split at hr
      · rename_i hb
        cases hr
        obtain ⟨v, v', v2, rfl, hv, hv', hv2⟩ := vds3 vd
        rw [vd_int hv, vd_int hv', vd_int hv2]
        have h1 := of_decide_eq_true hb.1
        have h2 := of_decide_eq_true hb.2.1
        rw [hb.2.2]
        exact ⟨_, _, _, _, rfl, RgC.neg h1.1 h1.2 h2.1 h2.2, k _ jok_rngC⟩
      · cases hr
    · cases hr

/-! ### wiped slots -/
def wipeR : Rho → List Nat → Rho
  | ρ, [] => ρ
  | ρ, i :: is => (wipeR ρ is).set i .no
theorem wipeR_length (ρ : Rho) : ∀ is : List Nat, (wipeR ρ is).length = ρ.length
  | [] => rfl
  | i :: is => by unfold wipeR; rw [List.length_set, wipeR_length ρ is]
theorem wipeR_out {ρ : Rho} {j : Nat} : ∀ {is : List Nat}, j ∉ is → (wipeR ρ is)[j]? = ρ[j]?
  | [], _ => rfl
  | i :: is, h => by
    unfold wipeR
    rw [List.getElem?_set_ne (fun z => h (by rw [z]; exact List.mem_cons_self)), wipeR_out fun z => h (List.mem_cons_of_mem _ z)]
theorem wipeR_in {ρ : Rho} {j : Nat} {s : Sl} : ∀ {is : List Nat}, j ∈ is → (wipeR ρ is)[j]? = some s → s = .no
  | i :: is, h, e => by
    unfold wipeR at e
    by_cases hj : i = j
    · subst hj
      have hl : i < (wipeR ρ is).length := by
        have := (List.getElem?_eq_some_iff.mp e).1
        simpa using this
      rw [List.getElem?_set_self hl] at e
      exact (Option.some.inj e).symm
    · rw [List.getElem?_set_ne hj] at e
      exact wipeR_in (List.mem_of_ne_of_mem (fun z => hj z.symm) h) e
theorem wipe_in {σ : L2.St} {j : Nat} {s : Option V} : ∀ {is : List Nat}, j ∈ is → (wipe σ is)[j]? = some s → s = none
  | i :: is, h, e => by
    unfold wipe at e
    by_cases hj : i = j
    · subst hj
      have hl : i < (wipe σ is).length := by
        have := (List.getElem?_eq_some_iff.mp e).1
        simpa using this
      rw [List.getElem?_set_self hl] at e
      exact (Option.some.inj e).symm
    · rw [List.getElem?_set_ne hj] at e
      exact wipe_in (List.mem_of_ne_of_mem (fun z => hj z.symm) h) e
theorem wipe_eq {σ τ : L2.St} {is : List Nat} (hl : σ.length = τ.length) (h : ∀ j, j ∉ is → σ[j]? = τ[j]?) : wipe σ is = wipe τ is := by
  refine List.ext_getElem? fun j => ?_
  by_cases hj : j ∈ is
  · by_cases hlt : j < σ.length
    · have h1 : j < (wipe σ is).length := by rw [wipe_length]; exact hlt
      have h2 : j < (wipe τ is).length := by rw [wipe_length]; omega
      have e1 := List.getElem?_eq_getElem h1
      have e2 := List.getElem?_eq_getElem h2
      rw [e1, e2, wipe_in hj e1, wipe_in hj e2]
    · rw [List.getElem?_eq_none (by rw [wipe_length]; omega), List.getElem?_eq_none (by rw [wipe_length]; omega)]
  · rw [wipe_out hj, wipe_out hj]
    exact h j hj
theorem wipe_wipe {σ : L2.St} {is : List Nat} : wipe (wipe σ is) is = wipe σ is := wipe_eq (wipe_length _ _) fun j hj => wipe_out hj
theorem RS.wiped {K : PySem.W.Frag} {Fr G H : Hp} {FX : Nat → Option V} {ρ : Rho} {σ : L2.St} {own : List Nat} (R : RS K ix Fr FX G ρ σ H) (ho : ∀ i ∈ own, i ∉ ix) : RS K ix Fr FX G (wipeR ρ own) (wipe σ own) H := by
  refine ⟨R.gh, R.fh, R.gf, by rw [wipeR_length, wipe_length]; exact R.len, fun i s e => ?_, fun i j a o o' ne e1 e2 e3 e4 => ?_, fun i v e => ?_⟩
  · by_cases hi : i ∈ own
    · rw [wipeR_in hi e]; trivial
    · rw [wipeR_out hi] at e
      rw [wipe_out hi]
      exact R.sl i s e
  · by_cases hi : i ∈ own
    · cases wipeR_in hi e1
    · by_cases hj : j ∈ own
      · cases wipeR_in hj e2
      · rw [wipeR_out hi] at e1
        rw [wipeR_out hj] at e2
        rw [wipe_out hi] at e3
        rw [wipe_out hj] at e4
        exact R.sep i j a o o' ne e1 e2 e3 e4
  · obtain ⟨h1, h2⟩ := R.fx i v e
    have hi : i ∉ own := fun z => ho i z h1
    exact ⟨h1, by rw [wipe_out hi]; exact h2⟩
/-- an object outside changes -/
theorem RS.out {K : PySem.W.Frag} {Fr G H : Hp} {FX : Nat → Option V} {ρ : Rho} {σ : L2.St} {p : Addr} {u : HO} (R : RS K ix Fr FX G ρ σ H) (g : G p = none) (f0 : Fr p = none) (hn : ∀ (i : Nat) (o' : Ob), ρ[i]? = some (.ow o') → σ[i]? ≠ some (some (.ref p))) : RS K ix Fr FX G ρ σ (upd H p u) := by
  refine ⟨fun a o e => ?_, fun a o e => ?_, R.gf, R.len, fun i s e => ?_, R.sep, R.fx⟩
  · have ha : a ≠ p := fun z => by subst z; rw [g] at e; cases e
    rw [upd_ne ha]; exact R.gh a o e
  · have ha : a ≠ p := fun z => by subst z; rw [f0] at e; cases e
    rw [upd_ne ha]; exact R.fh a o e
  · refine (R.sl i s e).mono (Sub.refl _) fun a o' e1 e2 g' f' => ?_
    have ha : a ≠ p := fun z => by subst z; subst e2; exact hn i _ e e1
    rw [upd_ne ha]
    exact ⟨g', rfl⟩

/-! ### comprehensions over one source -/
def cYes : MB := fun ρ => some (true, ρ)
def lcS (own : List Nat) (t : MT) (c : MB) (fe : M) : List Dv → List Dv → Rho → Option (List Dv × Rho)
  | [], acc, ρ => some (acc, ρ)
  | d :: ds, acc, ρ => (t d (wipeR ρ own)).bind fun ρ1 => (c ρ1).bind fun x => if x.1 = true then (frM fe x.2).bind fun y => (match y.1 with
      | .sh e => if acc.length < sizeLine then lcS own t c fe ds (acc ++ [e]) y.2 else none
      | _ => none) else lcS own t c fe ds acc x.2
/-- own slots as they were -/
def putB (ρ ρ0 : Rho) : List Nat → Rho
  | [] => ρ
  | i :: is => match ρ0[i]? with
    | some s => (putB ρ ρ0 is).set i s
    | none => putB ρ ρ0 is
def noOw (ρ : Rho) (own : List Nat) : Bool := own.all fun i => match ρ[i]? with
  | some (.ow _) => false
  | _ => true
def eLc (own : List Nat) (fi : ML) (t : MT) (c : MB) (fe : M) : M := fun ρ => (fi ρ).bind fun x => if noOw x.2 own = true then (lcS own t c fe x.1 [] x.2).bind fun y => some (.ow (.lst y.1), putB y.2 x.2 own) else none
theorem putB_length (ρ ρ0 : Rho) : ∀ is : List Nat, (putB ρ ρ0 is).length = ρ.length
  | [] => rfl
  | i :: is => by
    unfold putB
    split
    · rw [List.length_set, putB_length ρ ρ0 is]
    · exact putB_length ρ ρ0 is
theorem putB_out {ρ ρ0 : Rho} {j : Nat} : ∀ {is : List Nat}, j ∉ is → (putB ρ ρ0 is)[j]? = ρ[j]?
  | [], _ => rfl
  | i :: is, h => by
    unfold putB
    split
    · rw [List.getElem?_set_ne (fun z => h (by rw [z]; exact List.mem_cons_self)), putB_out fun z => h (List.mem_cons_of_mem _ z)]
    · exact putB_out fun z => h (List.mem_cons_of_mem _ z)
theorem putB_in {ρ ρ0 : Rho} {j : Nat} {s : Sl} (hl : ρ0.length = ρ.length) : ∀ {is : List Nat}, j ∈ is → (putB ρ ρ0 is)[j]? = some s → ρ0[j]? = some s
  | i :: is, h, e => by
    unfold putB at e
    by_cases hj : i = j
    · subst hj
      split at e
      · rename_i s' hs'
        have hlt : i < (putB ρ ρ0 is).length := by
          have := (List.getElem?_eq_some_iff.mp e).1
          simpa using this
        rw [List.getElem?_set_self hlt] at e
        rw [hs']; exact e
      · rename_i hs'
        have h1 : i < ρ.length := by
          have := (List.getElem?_eq_some_iff.mp e).1
          rw [putB_length] at this
          exact this
        rw [List.getElem?_eq_getElem (by omega)] at hs'
        cases hs'
    · have h' : j ∈ is := List.mem_of_ne_of_mem (fun z => hj z.symm) h
      split at e
      · rw [List.getElem?_set_ne hj] at e
        exact putB_in hl h' e
      · exact putB_in hl h' e
theorem RS.unwiped {K : PySem.W.Frag} {Fr G0 H0 G H : Hp} {FX : Nat → Option V} {ρ ρ0 : Rho} {σ : L2.St} {own : List Nat} (R0 : RS K ix Fr FX G0 ρ0 σ H0) (R : RS K ix Fr FX G (wipeR ρ own) (wipe σ own) H) (s : Sub G0 G) (hn : noOw ρ0 own = true) :
    RS K ix Fr FX G (putB ρ ρ0 own) σ H := by
  have hlen : ρ.length = σ.length := by have := R.len; rw [wipeR_length, wipe_length] at this; exact this
  have hlen0 : ρ0.length = ρ.length := by rw [R0.len, hlen]
  have nw : ∀ {i : Nat} {o : Ob}, i ∈ own → ρ0[i]? ≠ some (.ow o) := fun {i o} hi e => by
    have := List.all_eq_true.mp hn i hi
    rw [e] at this
    cases this
  refine ⟨R.gh, R.fh, R.gf, by rw [putB_length]; exact hlen, fun i s' e => ?_, fun i j a o o' ne e1 e2 e3 e4 => ?_, R0.fx⟩
  · by_cases hi : i ∈ own
    · have e' := putB_in hlen0 hi e
      refine (R0.sl i s' e').mono s fun a o e1 e2 => ?_
      subst e2
      exact absurd e' (nw hi)
    · rw [putB_out hi] at e
      have := R.sl i s' (by rw [wipeR_out hi]; exact e)
      rw [wipe_out hi] at this
      exact this
  · by_cases hi : i ∈ own
    · exact absurd (putB_in hlen0 hi e1) (nw hi)
    · by_cases hj : j ∈ own
      · exact absurd (putB_in hlen0 hj e2) (nw hj)
      · rw [putB_out hi] at e1
        rw [putB_out hj] at e2
        exact R.sep i j a o o' ne (by rw [wipeR_out hi]; exact e1) (by rw [wipeR_out hj]; exact e2) (by rw [wipe_out hi]; exact e3) (by rw [wipe_out hj]; exact e4)
theorem wipeR_wipeR (ρ : Rho) (is : List Nat) : wipeR (wipeR ρ is) is = wipeR ρ is := by
  refine List.ext_getElem? fun j => ?_
  by_cases hj : j ∈ is
  · by_cases hlt : j < ρ.length
    · have h1 : j < (wipeR (wipeR ρ is) is).length := by rw [wipeR_length, wipeR_length]; exact hlt
      have h2 : j < (wipeR ρ is).length := by rw [wipeR_length]; exact hlt
      have e1 := List.getElem?_eq_getElem h1
      have e2 := List.getElem?_eq_getElem h2
      rw [e1, e2, wipeR_in hj e1, wipeR_in hj e2]
    · rw [List.getElem?_eq_none (by rw [wipeR_length, wipeR_length]; omega), List.getElem?_eq_none (by rw [wipeR_length]; omega)]
  · rw [wipeR_out hj]
variable {own tis : List Nat} {fi : ML} {t : MT} {c : MB} {fe : M}
theorem lc_ok {σ : L2.St} {H : Hp} {Q : VK} (ho : ∀ i ∈ own, i ∉ ix) (ht : ∀ i ∈ tis, i ∈ own) (h : TE' X.K ix (eLc own fi t c fe) σ H Q) :
    tLc (TI' X.K ix fi) (TG' X.K ix tis t) (TT' X.K ix c) (TE' X.K ix (frM fe)) own σ H Q := by
  obtain ⟨Fr, FX, G, ρ, r, ρ', R, hf, k⟩ := h
  unfold eLc at hf
  obtain ⟨⟨ds, ρ0⟩, h0, hf⟩ := Option.bind_eq_some_iff.mp hf
  simp only at hf
  split at hf
  rotate_left
  · cases hf
  rename_i hno
  obtain ⟨⟨accF, ρF⟩, h1, hf⟩ := Option.bind_eq_some_iff.mp hf
  cases hf
  refine ⟨Fr, FX, G, ρ, ds, ρ0, R, h0, fun J G0 H0 s0 R0 jk D hD => ?_⟩
  have gD := (R0.none_of hD).1
  have fD := (R0.none_of hD).2
  refine ⟨fun i m H => m = ds.length - i ∧ i ≤ ds.length ∧ ∃ G1 ρ1 acc accv, Sub G0 G1 ∧ H D = some (.lst accv) ∧ DpAll X.K G1 accv acc ∧ RS X.K ix (upd Fr D (.lst accv)) FX G1 (wipeR ρ1 own) (wipe σ own) H ∧ lcS own t c fe (ds.drop i) acc ρ1 = some (accF, ρF),
    ⟨ds.length, by simp, Nat.zero_le _, G0, ρ0, [], [], Sub.refl _, upd_same, .nil, ?_, h1⟩, ?_⟩
  · exact ((R0.wiped ho).newH hD).frame gD upd_same ((R0.wiped ho).notIn hD)
  rintro i m H1 ⟨rfl, hle, G1, ρ1, acc, accv, s1, hv, qa, R1, e1⟩
  have gD1 : G1 D = none := R1.gf D (by rw [upd_same]; simp)
  obtain ⟨j1, j2⟩ := jk i G1 H1 s1 R1.gh
  by_cases hlt : i < ds.length
  · have hd : ds[i]? = some ds[i] := List.getElem?_eq_getElem hlt
    obtain ⟨j3, j4⟩ := j1 _ hd
    rw [List.drop_eq_getElem_cons hlt] at e1
    unfold lcS at e1
    obtain ⟨ρ2, e2, e1⟩ := Option.bind_eq_some_iff.mp e1
    obtain ⟨⟨kb, ρ3⟩, e3, e1⟩ := Option.bind_eq_some_iff.mp e1
    refine .inr ⟨j3, fun H => ∃ G1 ρ1 acc accv, Sub G0 G1 ∧ H D = some (.lst accv) ∧ DpAll X.K G1 accv acc ∧ RS X.K ix (upd Fr D (.lst accv)) FX G1 (wipeR ρ1 own) (wipe σ own) H ∧ lcS own t c fe (ds.drop (i + 1)) acc ρ1 = some (accF, ρF), fun H' w => ⟨ds.length - (i + 1), by omega, rfl, hlt, w⟩, fun x H2 y => ?_⟩
    have key : ∃ G2, Sub G1 G2 ∧ RS X.K ix (upd Fr D (.lst accv)) FX G2 (wipeR ρ1 own) (wipe σ own) H2 ∧ Dp X.K G2 x ds[i] := by
      rcases j4 x H2 y with ⟨rfl, q⟩ | ⟨p, o, hp, rfl, q⟩
      · exact ⟨G1, Sub.refl _, R1, q⟩
      · exact ⟨_, sub_upd (R1.none_of hp).1, R1.newG hp, q⟩
    obtain ⟨G2, s2, R2, q⟩ := key
    refine ⟨_, FX, G2, _, _, ρ2, R2, q, e2, fun G3 σ3 H3 s3 n3 R3 => ?_⟩
    have hw : wipe σ3 own = wipe σ own := by
      have := wipe_eq (is := own) n3.1 fun j hj => n3.2 j fun z => hj (ht j z)
      rw [this, wipe_wipe]
    refine ⟨hw, _, FX, G3, ρ2, kb, ρ3, R3, e3, fun G4 H4 s4 R4 => ?_⟩
    cases kb with
    | false =>
      rw [if_neg Bool.false_ne_true]
      simp only [Bool.false_eq_true, if_false] at e1
      have W4 := R4.wiped (own := own) ho
      rw [hw] at W4
      exact ⟨G4, ρ3, acc, accv, ((s1.trans s2).trans s3).trans s4, R4.fh D _ upd_same, dpAll_mono ((s2.trans s3).trans s4) _ _ qa, W4, e1⟩
    | true =>
      rw [if_pos rfl]
      simp only [if_true] at e1
      obtain ⟨⟨r5, ρ5⟩, e5, e1⟩ := Option.bind_eq_some_iff.mp e1
      refine ⟨_, FX, G4, ρ3, r5, ρ5, R4, e5, fun z G5 H5 s5 R5 v5 => ?_⟩
      cases r5 with
      | ow o => cases e1
      | al o => cases e1
      | sh d5 =>
        simp only at e1
        split at e1
        · rename_i hz
          have hD5 : H5 D = some (.lst accv) := R5.fh D _ upd_same
          have gD5 : G5 D = none := R5.gf D (by rw [upd_same]; simp)
          refine ⟨accv, hD5, by rw [dpAll_length qa]; exact hz, ?_⟩
          have W5 := R5.wiped (own := own) ho
          rw [hw] at W5
          have nD : ∀ (i : Nat) (o' : Ob), (wipeR ρ5 own)[i]? = some (.ow o') → (wipe σ own)[i]? ≠ some (some (.ref D)) := fun i o' z1 z2 => by
            obtain ⟨a, ea, _, fa, _⟩ := W5.sl i _ z1
            rw [z2] at ea
            cases ea
            rw [upd_same] at fa
            cases fa
          have W6 := (W5.unframe fD).out (u := .lst (accv ++ [z])) gD5 fD nD
          have s6 : Sub G1 G5 := ((s2.trans s3).trans s4).trans s5
          exact ⟨G5, ρ5, acc ++ [d5], accv ++ [z], s1.trans s6, upd_same, dpAll_append (dpAll_mono s6 _ _ qa) (.cons v5 .nil), W6.frame gD5 upd_same nD, e1⟩
        · cases e1
  · have hi : i = ds.length := by omega
    subst hi
    rw [List.drop_length] at e1
    unfold lcS at e1
    cases e1
    refine .inl ⟨j2 (Nat.le_refl _), ?_⟩
    have nD : ∀ (i : Nat) (o' : Ob), (wipeR ρF own)[i]? = some (.ow o') → (wipe σ own)[i]? ≠ some (some (.ref D)) := fun i o' z1 z2 => by
      obtain ⟨a, ea, _, fa, _⟩ := R1.sl i _ z1
      rw [z2] at ea
      cases ea
      rw [upd_same] at fa
      cases fa
    have RZ := RS.unwiped R0 (R1.unframe fD) s1 hno
    refine k _ G1 H1 (s0.trans s1) RZ ⟨D, rfl, gD1, fD, ⟨accv, hv, qa⟩, fun i o' z1 z2 => ?_⟩
    by_cases hi : i ∈ own
    · have hl : ρ0.length = ρF.length := by
        have l1 := R0.len
        have l2 := R1.len
        rw [wipeR_length, wipe_length] at l2
        omega
      have e' := putB_in hl hi z1
      have := List.all_eq_true.mp hno i hi
      rw [e'] at this
      cases this
    · rw [putB_out hi] at z1
      exact nD i o' (by rw [wipeR_out hi]; exact z1) (by rw [wipe_out hi]; exact z2)
theorem dp_nil : PTs X [] (TT' X.K ix cYes) := pts_imp pts_nil fun σ H Q ⟨Fr, FX, G, ρ, b, ρ', R, hf, k⟩ => by
  cases hf
  exact k G H (Sub.refl _) R
theorem dp_one {e : Expr} (h : PT X e (TT' X.K ix c)) : PTs X [e] (TT' X.K ix c) := pts_one h
end
end DL

set_option Elab.async false
set_option linter.all false
set_option autoImplicit false
set_option maxRecDepth 100000
set_option maxHeartbeats 1000000
namespace DL
open PySem PySem.Spec PyProof.Rows L2

section
variable {X : Cx} {ix : List Nat} {e a b : Expr} {es : List Expr} {f fa fb fc : M} {ga : MA} {g : MS} {pos p : Pos}
variable {tis : List Nat} {fi : ML} {t : MT} {c : MB} {fe : M}
theorem de_lc {elt tg iter : Expr} {ifs : List Expr} {scope : Scope} {own : List (Str × Nat)} (hc : X.calm = true) (hN : X.N.Nodup) (hi : PI X tg iter (TI' X.K ix fi)) (ok : BlkOk X.N X.env.scope scope own)
    (hg : ∀ (s : Shared) (H : Hp) (C : Addr) (cl : List (Str × Addr)) (fp : List Addr), PG (X.blk s H scope (compEnvC scope cl C X.env) fp) tg (TG' X.K ix tis t))
    (ht : ∀ (s : Shared) (H : Hp) (C : Addr) (cl : List (Str × Addr)) (fp : List Addr), PTs (X.blk s H scope (compEnvC scope cl C X.env) fp) ifs (TT' X.K ix c))
    (he : ∀ (s : Shared) (H : Hp) (C : Addr) (cl : List (Str × Addr)) (fp : List Addr), PE (X.blk s H scope (compEnvC scope cl C X.env) fp) elt (TE' X.K ix fe))
    (ho : ∀ i ∈ own.map (·.2), i ∉ ix := by decide) (hti : ∀ i ∈ tis, i ∈ own.map (·.2) := by decide) (hs : ∀ x, foldedSetIterable iter X.env x = pure x := by intro _; rfl) :
    PE X (.ListComp elt [⟨tg, iter, ifs, 0⟩] scope pos) (TE' X.K ix (eLc (own.map (·.2)) fi t c fe)) :=
  pe_imp (pe_lc hc hN hi ok hg ht (fun s H C cl fp => de_fr (he s H C cl fp)) hs) fun _ _ _ h => lc_ok ho hti h
theorem ds_setLc {i : Nat} {y : Str} {py spos : Pos} {elt tg iter : Expr} {ifs : List Expr} {scope : Scope} {own : List (Str × Nat)} (hc : X.calm = true) (hN : X.N.Nodup) (hy : X.N[i]? = some y) (hyl : X.env.scope.names.lookup y = some .local) (hix : i ∉ ix)
    (hsw : swapsWith (.ListComp elt [⟨tg, iter, ifs, 0⟩] scope pos) (some (.Name y py)) spos.line X.env = pure true) (hi : PI X tg iter (TI' X.K ix fi)) (ok : BlkOk X.N X.env.scope scope own)
    (hg : ∀ (s : Shared) (H : Hp) (C : Addr) (cl : List (Str × Addr)) (fp : List Addr), PG (X.blk s H scope (compEnvC scope cl C X.env) fp) tg (TG' X.K ix tis t))
    (ht : ∀ (s : Shared) (H : Hp) (C : Addr) (cl : List (Str × Addr)) (fp : List Addr), PTs (X.blk s H scope (compEnvC scope cl C X.env) fp) ifs (TT' X.K ix c))
    (he : ∀ (s : Shared) (H : Hp) (C : Addr) (cl : List (Str × Addr)) (fp : List Addr), PE (X.blk s H scope (compEnvC scope cl C X.env) fp) elt (TE' X.K ix fe))
    (ho : ∀ i ∈ own.map (·.2), i ∉ ix := by decide) (hti : ∀ i ∈ tis, i ∈ own.map (·.2) := by decide) (hs : ∀ x, foldedSetIterable iter X.env x = pure x := by intro _; rfl) :
    PS X (.Assign [.Name y py] (.ListComp elt [⟨tg, iter, ifs, 0⟩] scope pos) spos) (TS' X.K ix (sSet i (eLc (own.map (·.2)) fi t c fe))) :=
  ps_imp (ps_setLc hc hN hy hyl hsw hi ok hg ht (fun s H C cl fp => de_fr (he s H C cl fp)) hs) fun _ _ _ h => lc_ok ho hti (asg_ok hix h)

/-! ### a def -/
def okA : Nat → List Nat → List Sl → Bool
  | _, _, [] => true
  | n, ix, .ow _ :: as => ix.contains n && okA (n + 1) ix as
  | n, ix, _ :: as => okA (n + 1) ix as
def outA : Nat → List Nat → List Sl → Rho → List Sl
  | n, ix, s :: as, r :: ρ => (if ix.contains n = true then r else s) :: outA (n + 1) ix as ρ
  | n, ix, _ :: as, [] => .no :: outA (n + 1) ix as []
  | _, _, [], _ => []
def runF (np N : Nat) (ix : List Nat) (g : MS) : FnS := fun as => if okA 0 ix as = true then (g (as ++ List.replicate (N - np) .no)).bind fun fl => (match fl with
  | .nx ρ => some (.sh .none, outA 0 ix as ρ)
  | .rt (.sh d) ρ => some (.sh d, outA 0 ix as ρ)
  | .rt (.ow o) ρ => some (.ow o, outA 0 ix as ρ)
  | _ => none) else none
theorem okA_get : ∀ {as : List Sl} {n i : Nat} {o : Ob}, okA n ix as = true → as[i]? = some (.ow o) → n + i ∈ ix
  | [], n, i, o, h, e => by simp at e
  | .ow o' :: as, n, 0, o, h, e => by
    unfold okA at h
    rw [Bool.and_eq_true] at h
    simpa using h.1
  | .ow o' :: as, n, i + 1, o, h, e => by
    unfold okA at h
    rw [Bool.and_eq_true] at h
    have := okA_get h.2 (i := i) (by simpa using e)
    rw [show n + (i + 1) = n + 1 + i by omega]
    exact this
  | .no :: as, n, 0, o, h, e => by simp at e
  | .sh d :: as, n, 0, o, h, e => by simp at e
  | .no :: as, n, i + 1, o, h, e => by
    have h' : okA (n + 1) ix as = true := h
    have := okA_get h' (i := i) (by simpa using e)
    rw [show n + (i + 1) = n + 1 + i by omega]
    exact this
  | .sh d :: as, n, i + 1, o, h, e => by
    have h' : okA (n + 1) ix as = true := h
    have := okA_get h' (i := i) (by simpa using e)
    rw [show n + (i + 1) = n + 1 + i by omega]
    exact this
theorem outA_get : ∀ {as : List Sl} {ρ : Rho} {n i : Nat} {s : Sl}, (outA n ix as ρ)[i]? = some s → (n + i ∈ ix ∧ ρ[i]? = some s) ∨ (n + i ∉ ix ∧ as[i]? = some s) ∨ s = .no
  | [], [], n, i, s, e => by unfold outA at e; simp at e
  | [], _ :: _, n, i, s, e => by unfold outA at e; simp at e
  | s0 :: as, [], n, 0, s, e => by
    unfold outA at e
    simp only [List.getElem?_cons_zero, Option.some.injEq] at e
    exact .inr (.inr e.symm)
  | s0 :: as, [], n, i + 1, s, e => by
    unfold outA at e
    simp only [List.getElem?_cons_succ] at e
    rw [show n + (i + 1) = n + 1 + i by omega]
    simp only [List.getElem?_cons_succ]
    rcases outA_get e with ⟨_, h⟩ | h | h
    · simp at h
    · exact .inr (.inl h)
    · exact .inr (.inr h)
  | s0 :: as, r :: ρ, n, 0, s, e => by
    unfold outA at e
    simp only [List.getElem?_cons_zero, Option.some.injEq] at e
    by_cases h : n ∈ ix
    · rw [if_pos (by simpa using h)] at e
      exact .inl ⟨by simpa using h, by simp [e]⟩
    · rw [if_neg (by simpa using h)] at e
      exact .inr (.inl ⟨by simpa using h, by simp [e]⟩)
  | s0 :: as, r :: ρ, n, i + 1, s, e => by
    unfold outA at e
    simp only [List.getElem?_cons_succ] at e
    rw [show n + (i + 1) = n + 1 + i by omega]
    simp only [List.getElem?_cons_succ]
    exact outA_get e
theorem outA_length : ∀ {as : List Sl} {ρ : Rho} {n : Nat}, (outA n ix as ρ).length = as.length
  | [], [], n => by unfold outA; rfl
  | [], _ :: _, n => by unfold outA; rfl
  | s0 :: as, [], n => by
    unfold outA
    simp only [List.length_cons]
    rw [outA_length]
  | s0 :: as, r :: ρ, n => by
    unfold outA
    simp only [List.length_cons]
    rw [outA_length]
theorem fn_d {P : Program} {w : World} {K : PySem.W.Frag} {mg : Str → Option Value} {base : Heap} {x qual : Str} {st : Stmt} {fA : Addr} {fd : FuncData} {N ps : List Str} {k : Nat} (F : Fun K x qual st fA fd) (S : FnScope N ps (defScope st)) (ix : List Nat) (g : MS)
    (hN : ps.length ≤ N.length := by decide)
    (hb : ∀ (cdv : Value) (A : Around) (outer : List Env) (s : Shared) (H : Hp) (E : XK), Room k (A.deeper (envOfC qual (defScope st) s.heap.objs.size fA cdv)) →
      PSs (cxOf CX0 P w K mg base N qual (defScope st) fA cdv A outer s H E).nox (defBody st) (TS' K ix g)) : FnOk P w K mg base CX0 (k + 1) fA fd ps (spD K ps.length (runF ps.length N.length ix g)) := by
  refine F.ok S (fun vs H Q E h => ?_) (fun cdv A outer s H vs Q E hr h => ⟨_, hb cdv A outer s H E hr, ?_⟩)
  · obtain ⟨_, _, _, _, _, h, _⟩ := h
    exact h
  · obtain ⟨Fr, G, as, r, as', hl, R, hF, kk⟩ := h
    unfold runF at hF
    split at hF
    rotate_left
    · cases hF
    rename_i hok
    obtain ⟨fl, hg, hF⟩ := Option.bind_eq_some_iff.mp hF
    have la : as.length = vs.length := by have := R.len; simpa using this
    have sget : ∀ {i : Nat}, i < vs.length → (L2.start N vs)[i]? = (vs.map some)[i]? := fun {i} h => by
      unfold L2.start
      rw [List.getElem?_append_left (by simpa using h)]
    have gget : ∀ {i : Nat} {v : V}, vs[i]? = some v → (L2.start N vs)[i]? = some (some v) := fun {i v} e => by
      rw [sget (List.getElem?_eq_some_iff.mp e).1, List.getElem?_map, e]
      rfl
    have R0 : RS K ix Fr (fun i => if i ∈ ix then vs[i]? else none) G (as ++ List.replicate (N.length - ps.length) .no) (L2.start N vs) H := by
      refine ⟨R.gh, R.fh, R.gf, ?_, fun i s' e => ?_, fun i j a o o' ne e1 e2 e3 e4 => ?_, fun i v e => ?_⟩
      · unfold L2.start
        simp [la, hl]
      · by_cases hi : i < as.length
        · rw [List.getElem?_append_left hi] at e
          rw [sget (by omega)]
          exact R.sl i s' e
        · rw [List.getElem?_append_right (by omega)] at e
          have := List.eq_of_mem_replicate (List.mem_of_getElem? e)
          subst this
          trivial
      · have lt : ∀ {i : Nat} {o : Ob}, (as ++ List.replicate (N.length - ps.length) Sl.no)[i]? = some (.ow o) → i < as.length ∧ as[i]? = some (.ow o) := fun {i o} e => by
          by_cases hi : i < as.length
          · rw [List.getElem?_append_left hi] at e
            exact ⟨hi, e⟩
          · rw [List.getElem?_append_right (by omega)] at e
            have := List.eq_of_mem_replicate (List.mem_of_getElem? e)
            cases this
        obtain ⟨l1, f1⟩ := lt e1
        obtain ⟨l2, f2⟩ := lt e2
        rw [sget (by omega)] at e3 e4
        exact R.sep i j a o o' ne f1 f2 e3 e4
      · by_cases hi : i ∈ ix
        · rw [if_pos hi] at e
          exact ⟨hi, gget e⟩
        · rw [if_neg hi] at e
          cases e
    -- the arguments' slots behind the body
    have fin : ∀ {G' : Hp} {ρ : Rho} {σ' : L2.St} {H' : Hp}, Sub G G' → RS K ix Fr (fun i => if i ∈ ix then vs[i]? else none) G' ρ σ' H' → RS K [] Fr (fun _ => none) G' (outA 0 ix as ρ) (vs.map some) H' := by
      intro G' ρ σ' H' su R'
      have at' : ∀ {i : Nat}, i ∈ ix → i < vs.length → σ'[i]? = (vs.map some)[i]? := fun {i} hi hlt => by
        have e : vs[i]? = some vs[i] := List.getElem?_eq_getElem hlt
        obtain ⟨_, h2⟩ := R'.fx i vs[i] (by rw [if_pos hi]; exact e)
        rw [h2, List.getElem?_map, e]
        rfl
      have lt' : ∀ {i : Nat} {s : Sl}, (outA 0 ix as ρ)[i]? = some s → i < vs.length := fun {i s} e => by
        have := (List.getElem?_eq_some_iff.mp e).1
        rw [outA_length] at this
        omega
      have owix : ∀ {i : Nat} {o : Ob}, (outA 0 ix as ρ)[i]? = some (.ow o) → i ∈ ix ∧ ρ[i]? = some (.ow o) := fun {i o} e => by
        rcases outA_get e with ⟨h1, h2⟩ | ⟨h1, h2⟩ | h
        · exact ⟨by simpa using h1, h2⟩
        · exact absurd (okA_get hok h2) h1
        · cases h
      refine ⟨R'.gh, R'.fh, R'.gf, by rw [outA_length, la, List.length_map], fun i s' e => ?_, fun i j a o o' ne e1 e2 e3 e4 => ?_, fun i v z => nomatch z⟩
      · rcases outA_get e with ⟨h1, h2⟩ | ⟨h1, h2⟩ | h
        · rw [← at' (by simpa using h1) (lt' e)]
          exact R'.sl i s' h2
        · refine (R.sl i s' h2).mono su fun a o e1 e2 => ?_
          subst e2
          exact absurd (okA_get hok h2) h1
        · subst h; trivial
      · obtain ⟨h1, h2⟩ := owix e1
        obtain ⟨h3, h4⟩ := owix e2
        rw [← at' h1 (lt' e1)] at e3
        rw [← at' h3 (lt' e2)] at e4
        exact R'.sep i j a o o' ne h2 h4 e3 e4
    -- what the body gives is what the caller gets
    have out : ∀ {G' : Hp} {ρ : Rho} {σ' : L2.St} {H' : Hp} {o : Ob} {v : V}, RS K ix Fr (fun i => if i ∈ ix then vs[i]? else none) G' ρ σ' H' → VOk K Fr G' H' ρ σ' (.ow o) v → VOk K Fr G' H' (outA 0 ix as ρ) (vs.map some) (.ow o) v := by
      intro G' ρ σ' H' o v R' hv
      obtain ⟨a, rfl, g, f, c, hn⟩ := hv
      refine ⟨a, rfl, g, f, c, fun i o' e1 e2 => ?_⟩
      rcases outA_get e1 with ⟨h1, h2⟩ | ⟨h1, h2⟩ | h
      · have hi : i ∈ ix := by simpa using h1
        rw [List.getElem?_map] at e2
        cases ev : vs[i]? with
        | none => rw [ev] at e2; cases e2
        | some u =>
          rw [ev] at e2
          obtain ⟨_, h3⟩ := R'.fx i u (by rw [if_pos hi]; exact ev)
          exact hn i o' h2 (h3.trans e2)
      · exact absurd (okA_get hok h2) h1
      · cases h
    refine ⟨Fr, _, G, _, fl, R0, hg, ?_⟩
    cases fl with
    | bk ρ => cases hF
    | ct ρ => cases hF
    | nx ρ =>
      cases hF
      exact fun G' σ' H' s R' => kk .non G' H' s (fin s R') .non
    | rt r' ρ =>
      cases r' with
      | al i => cases hF
      | sh d =>
        cases hF
        exact fun G' σ' H' v s R' hv => kk v G' H' s (fin s R') hv
      | ow o =>
        cases hF
        exact fun G' σ' H' v s R' hv => kk v G' H' s (fin s R') (out R' hv)
end
end DL

set_option Elab.async false
set_option linter.all false
set_option autoImplicit false
set_option maxRecDepth 100000
set_option maxHeartbeats 1000000
namespace DL
open PySem PySem.Spec PyProof.Rows L2

section
variable {X : Cx} {ix : List Nat} {e a b o : Expr} {es : List Expr} {f fa fb fc fo : M} {ga : MA} {g : MS} {pos p : Pos}
/-! ### one operand -/
theorem de_un {op : UnaryOp} {r : V → Hp → VK → Prop} {gg : Dv → Option Rz} (ho : UnR X (unaryOp op) r) (hr : ∀ G H d z v Q, (∀ a o, G a = some o → H a = some o) → VD X.K G H d v → gg d = some z → Res X.K G H Q z → r v H Q) (ha : PE X a (TE' X.K ix fa)) : PE X (.UnaryOp op a pos) (TE' X.K ix (unS gg fa)) :=
  pe_imp (pe_un ho ha) fun σ H Q ⟨Fr, FX, G, ρ, r, ρ', R, hf, k⟩ => by
    unfold unS at hf
    obtain ⟨⟨r1, ρ1⟩, h1, hf⟩ := Option.bind_eq_some_iff.mp hf
    obtain ⟨d, h2, hf⟩ := Option.bind_eq_some_iff.mp hf
    obtain ⟨z, h3, hf⟩ := Option.bind_eq_some_iff.mp hf
    cases hf
    exact ⟨Fr, FX, G, ρ, r1, _, R, h1, fun v G1 H1 s1 R1 v1 => hr G1 H1 d z v Q R1.gh (dat_vd R1 v1 h2) h3 (res_ok R1 fun w G2 H2 s2 R2 w2 => k w G2 H2 (s1.trans s2) R2 w2)⟩
def negD : Dv → Option Rz
  | .int i => some (.sh (.int (-i)))
  | _ => none
theorem de_neg (ha : PE X a (TE' X.K ix fa)) : PE X (.UnaryOp .USub a pos) (TE' X.K ix (unS negD fa)) := de_un un_neg (fun G H d z v Q gh hv hz q => by
  unfold negD at hz
  split at hz
  · cases hz
    rw [vd_int hv]
    exact ⟨_, rfl, res_int q⟩
  · cases hz) ha
/-! ### isinstance(x, T), T a built-in class -/
def tyName : Dv → String
  | .none => "NoneType"
  | .bool _ => "bool"
  | .int _ => "int"
  | .str _ => "str"
  | .list _ => "list"
  | .tuple _ => "tuple"
  | .dict _ => "dict"
def isT (T : String) (d : Dv) : Bool := match T with
  | "int" => (match d with | .int _ => true | .bool _ => true | _ => false)
  | "bool" => (match d with | .bool _ => true | _ => false)
  | "tuple" => (match d with | .tuple _ => true | _ => false)
  | "list" => (match d with | .list _ => true | _ => false)
  | "str" => (match d with | .str _ => true | _ => false)
  | "dict" => (match d with | .dict _ => true | _ => false)
  | _ => false
theorem kit_int : ∀ n, n = "NoneType" ∨ n = "bool" ∨ n = "int" ∨ n = "str" ∨ n = "list" ∨ n = "tuple" ∨ n = "dict" → kitB n "int" = some (n == "int" || n == "bool") := by
  rintro n (rfl | rfl | rfl | rfl | rfl | rfl | rfl) <;> decide +kernel
theorem kit_one (T : String) (hT : T = "bool" ∨ T = "tuple" ∨ T = "list" ∨ T = "str" ∨ T = "dict") : ∀ n, n = "NoneType" ∨ n = "bool" ∨ n = "int" ∨ n = "str" ∨ n = "list" ∨ n = "tuple" ∨ n = "dict" → kitB n T = some (n == T) := by
  rcases hT with rfl | rfl | rfl | rfl | rfl <;> (rintro n (rfl | rfl | rfl | rfl | rfl | rfl | rfl) <;> decide +kernel)
theorem tyName_in (d : Dv) : tyName d = "NoneType" ∨ tyName d = "bool" ∨ tyName d = "int" ∨ tyName d = "str" ∨ tyName d = "list" ∨ tyName d = "tuple" ∨ tyName d = "dict" := by
  cases d <;> simp [tyName]
theorem isT_kit {T : String} (hT : T = "int" ∨ T = "bool" ∨ T = "tuple" ∨ T = "list" ∨ T = "str" ∨ T = "dict") (d : Dv) : kitB (tyName d) T = some (isT T d) := by
  rcases hT with rfl | hT
  · rw [kit_int _ (tyName_in d)]; cases d <;> rfl
  · rw [kit_one T hT _ (tyName_in d)]; rcases hT with rfl | rfl | rfl | rfl | rfl <;> cases d <;> rfl
theorem ty_sqL {K : PySem.W.Frag} {H : Hp} {a : Addr} {xs : List V} (h : SqL K H a xs) : TyX K H (.ref a) (.type "list") := by
  rcases h with (h | ⟨o, h⟩) | ⟨o, its, n, h, hc, _⟩
  · exact .base (.lst h)
  · exact .base (.frz h)
  · exact .kList h hc
theorem ty_sqT {K : PySem.W.Frag} {H : Hp} {a : Addr} {xs : List V} (h : SqT K H a xs) : TyX K H (.ref a) (.type "tuple") := by
  rcases h with (h | ⟨o, h⟩) | ⟨o, its, n, h, hc, _⟩
  · exact .base (.tup h)
  · exact .fTuple h
  · exact .kTuple h hc
theorem ty_vd {K : PySem.W.Frag} {G H : Hp} {d : Dv} {v : V} (gh : ∀ a o, G a = some o → H a = some o) (h : VD K G H d v) : TyX K H v (.type (tyName d)) := by
  cases d with
  | none => rw [vd_none h]; exact .base .non
  | bool b => rw [vd_bool h]; exact .base (.bl b)
  | int b => rw [vd_int h]; exact .base (.int b)
  | str b => rw [vd_str h]; exact .base (.str b)
  | list b => obtain ⟨a, vs, rfl, h1, _⟩ := vd_list h; exact ty_sqL h1
  | tuple b => obtain ⟨a, vs, rfl, _, h1, _⟩ := vd_tup gh h; exact ty_sqT h1
  | dict b => obtain ⟨a, vs, rfl, h1, _⟩ := (show ∃ a ks, v = .ref a ∧ H a = some (.dK ks) ∧ DKV K G ks b from h); exact .base (.dK h1)
def isiD (T : String) (d : Dv) : Option Rz := some (.sh (.bool (isT T d)))
theorem de_isi {T : String} {x : Str} {pT : Pos} (hT : T = "int" ∨ T = "bool" ∨ T = "tuple" ∨ T = "list" ∨ T = "str" ∨ T = "dict") (hg : Gl X "isinstance") (hm : X.mg "isinstance" = none) (hgT : Gl X x) (hmT : X.mg x = none) (hbT : bootBuiltins x = some (.type T)) (ha : PE X a (TE' X.K ix fa))
    (hn : x ≠ "__name__" := by decide) (hd : (x == ("__debug__" : Str)) = false := by decide) (he : starEach [a, .Name x pT] X.env = (false, eval a X.env) :: starEach [.Name x pT] X.env := by rfl) (he2 : starEach [Expr.Name x pT] X.env = (false, eval (.Name x pT) X.env) :: starEach [] X.env := by rfl)
    (hpl : (backTo pos (starEach [Expr.Name x pT] X.env)).any (·.1) = false := by rfl) : PE X (.Call (.Name "isinstance" p) [a, .Name x pT] [] pos) (TE' X.K ix (unS (isiD T) fa)) :=
  pe_imp (pe_callB call_isi hg hm PyProof.Rows.boot_isinstance (pa_cons ha (pa_cons (pe_bltn (v := .ty T) hgT hmT hbT rfl hn hd) pa_nil he2) he) (by decide) (by decide) he hpl) fun σ H Q ⟨Fr, FX, G, ρ, r, ρ', R, hf, k⟩ => by
    unfold unS at hf
    obtain ⟨⟨r1, ρ1⟩, h1, hf⟩ := Option.bind_eq_some_iff.mp hf
    obtain ⟨d, h2, hf⟩ := Option.bind_eq_some_iff.mp hf
    cases hf
    refine ⟨Fr, FX, G, ρ, r1, _, R, h1, fun v G1 H1 s1 R1 v1 => ?_⟩
    exact ⟨v, _, _, _, _, rfl, .ty T, ty_vd R1.gh (dat_vd R1 v1 h2), kit_ty (isT_kit hT d), k _ G1 H1 s1 R1 (.bl _)⟩

/-! ### methods that change an owned object -/
def obT : Ob → String
  | .lst _ => "list"
  | .dct _ => "dict"
def isOb (T : String) : Option Sl → Bool
  | some (.ow ob) => obT ob == T
  | _ => false
def mutM (T : String) (gg : Ob → List Dv → Option (Ob × Dv)) (fo : M) (ga : MA) : M := fun ρ => (fo ρ).bind fun x => match x.1 with
  | .al i => if isOb T x.2[i]? = true then (ga x.2).bind fun y => (shs y.1).bind fun ds => (match y.2[i]? with
    | some (.ow ob) => (gg ob ds).bind fun z => some (.sh z.2, y.2.set i (.ow z.1))
    | _ => none) else none
  | _ => none
def RMd (K : PySem.W.Frag) (gg : Ob → List Dv → Option (Ob × Dv)) : V → List V → Hp → VK → Prop := fun x vs H Q => ∃ G a ob ds ob' d, x = .ref a ∧ (∀ a o, G a = some o → H a = some o) ∧ G a = none ∧ Ct K G H a ob ∧ DpAll K G vs ds ∧ gg ob ds = some (ob', d) ∧
  ∀ v u', Ct K G (upd H a u') a ob' → Dp K G v d → Q v (upd H a u')
def MutD (X : Cx) (id : String) (gg : Ob → List Dv → Option (Ob × Dv)) : Prop := MtR X id (RMd X.K gg)
def appG : Ob → List Dv → Option (Ob × Dv)
  | .lst xs, [d] => if xs.length < sizeLine then some (.lst (xs ++ [d]), .none) else none
  | _, _ => none
def popG : Ob → List Dv → Option (Ob × Dv)
  | .lst xs, [] => (xs[xs.length - 1]?).map fun d => (.lst xs.dropLast, d)
  | _, _ => none
def popAtG : Ob → List Dv → Option (Ob × Dv)
  | .lst xs, [.int i] => if 0 ≤ i ∧ i < 2 ^ 62 then (xs[i.toNat]?).map fun d => (.lst (xs.eraseIdx i.toNat), d) else none
  | _, _ => none
theorem dpAll_dropLast {K : PySem.W.Frag} {G : Hp} {ds : List Dv} {vs : List V} (h : DpAll K G vs ds) : DpAll K G vs.dropLast ds.dropLast := by
  rw [List.dropLast_eq_take, List.dropLast_eq_take, dpAll_length h]
  exact dpAll_take _ h
theorem dpAll_erase {K : PySem.W.Frag} {G : Hp} : ∀ {ds : List Dv} {vs : List V} (n : Nat), DpAll K G vs ds → DpAll K G (vs.eraseIdx n) (ds.eraseIdx n)
  | [], _, n, h => by cases h; simp; exact .nil
  | d :: ds, _, 0, h => by cases h with | cons h1 h2 => exact h2
  | d :: ds, _, n + 1, h => by cases h with | cons h1 h2 => exact .cons h1 (dpAll_erase n h2)
theorem app_m : MutD X "list.append" appG := by
  intro pins s σ H x xs v us Q I rx rv h
  obtain ⟨G, a, ob, ds, ob', d, rfl, gh, g0, c, qa, hg, k⟩ := h
  unfold appG at hg
  split at hg
  · split at hg
    · rename_i hz
      cases hg
      obtain ⟨vs, hv, qv⟩ := c
      cases qa with
      | cons q1 q2 =>
        cases q2
        exact mt_append pins s σ H _ _ v us Q I rx rv ⟨a, vs, _, rfl, rfl, hv, by rw [dpAll_length qv]; exact hz, k .non _ ⟨_, upd_same, dpAll_append qv (.cons q1 .nil)⟩ .non⟩
    · cases hg
  · cases hg
theorem pop_m : MutD X "list.pop" popG := by
  intro pins s σ H x xs v us Q I rx rv h
  obtain ⟨G, a, ob, ds, ob', d, rfl, gh, g0, c, qa, hg, k⟩ := h
  unfold popG at hg
  split at hg
  · obtain ⟨d', hd, hg⟩ := Option.map_eq_some_iff.mp hg
    cases hg
    obtain ⟨vs, hv, qv⟩ := c
    cases qa
    obtain ⟨w, hw, qw⟩ := dpAll_get qv hd
    exact mt_pop pins s σ H _ _ v us Q I rx rv ⟨a, vs, w, rfl, rfl, hv, by rw [dpAll_length qv]; exact hw, k w _ ⟨_, upd_same, dpAll_dropLast qv⟩ qw⟩
  · cases hg
theorem popAt_m : MutD X "list.pop" popAtG := by
  intro pins s σ H x xs v us Q I rx rv h
  obtain ⟨G, a, ob, ds, ob', d, rfl, gh, g0, c, qa, hg, k⟩ := h
  unfold popAtG at hg
  split at hg
  · rename_i ys i
    split at hg
    · rename_i hc
      obtain ⟨d', hd, hg⟩ := Option.map_eq_some_iff.mp hg
      cases hg
      obtain ⟨vs, hv, qv⟩ := c
      cases qa with
      | cons q1 q2 =>
        cases q2
        cases q1
        obtain ⟨w, hw, qw⟩ := dpAll_get qv hd
        have hl : i.toNat < vs.length := (List.getElem?_eq_some_iff.mp hw).1
        exact mt_popAt pins s σ H _ _ v us Q I rx rv ⟨a, vs, i, i.toNat, w, rfl, rfl, hv, by omega, by omega, seqIndex_of hc.1 (by omega), hw, k w _ ⟨_, upd_same, dpAll_erase _ qv⟩ qw⟩
    · cases hg
  · cases hg
theorem tyV_ct {K : PySem.W.Frag} {G H : Hp} {a : Addr} {ob : Ob} (c : Ct K G H a ob) : tyV K (obT ob) (.ref a) H := by
  cases ob with
  | lst ds => obtain ⟨vs, hv, _⟩ := c; exact .inl ⟨rfl, _, .inl (.inl hv)⟩
  | dct ds => obtain ⟨vs, hv, _⟩ := c; exact .inr (.inr (.inl ⟨rfl, .inl ⟨_, hv⟩⟩))
theorem mt_ok {T : String} {gg : Ob → List Dv → Option (Ob × Dv)} {σ : L2.St} {H : Hp} {Q : VK} (h : TE' X.K ix (mutM T gg fo ga) σ H Q) : tBM X.K T (RMd X.K gg) (TE' X.K ix fo) (TA' X.K ix ga) σ H Q := by
  obtain ⟨Fr, FX, G, ρ, r, ρ', R, hf, k⟩ := h
  unfold mutM at hf
  obtain ⟨⟨r0, ρ0⟩, h0, hf⟩ := Option.bind_eq_some_iff.mp hf
  cases r0 with
  | sh d => cases hf
  | ow d => cases hf
  | al i =>
    simp only at hf
    split at hf
    rotate_left
    · cases hf
    rename_i hT
    obtain ⟨⟨rs, ρ1⟩, h1, hf⟩ := Option.bind_eq_some_iff.mp hf
    obtain ⟨ds, h2, hf⟩ := Option.bind_eq_some_iff.mp hf
    split at hf
    · rename_i ob hob
      obtain ⟨⟨ob', d⟩, h3, hf⟩ := Option.bind_eq_some_iff.mp hf
      cases hf
      refine ⟨Fr, FX, G, ρ, _, ρ0, R, h0, fun v G1 H1 s1 R1 v1 => ?_⟩
      have ev : σ[i]? = some (some v) := v1
      unfold isOb at hT
      split at hT
      · rename_i ob0 hob0
        have eT : obT ob0 = T := eq_of_beq hT
        obtain ⟨a, ea, g, f, c⟩ := R1.sl i _ hob0
        rw [ev] at ea
        cases ea
        refine ⟨eT ▸ tyV_ct c, Fr, FX, G1, ρ0, rs, _, R1, h1, fun vs G2 H2 s2 R2 v2 => ?_⟩
        obtain ⟨b, eb, g2, f2, c2⟩ := R2.sl i _ hob
        rw [ev] at eb
        cases eb
        refine ⟨G2, a, ob, ds, ob', d, rfl, R2.gh, g2, c2, shs_dp v2 h2, h3, fun v' u' c' q' => ?_⟩
        exact k v' G2 _ (s1.trans s2) (R2.mut hob ev c') q'
      · cases hT
    · cases hf
theorem de_mt {T id : String} {name : Str} {gg : Ob → List Dv → Option (Ob × Dv)} {apos cpos : Pos} (pa : PlainAttrs T) (slot : Slot T name id) (hty : typeOf (.builtin id) = pure (.type "method_descriptor")) (hm : MutD X id gg) (ho : PE X o (TE' X.K ix fo)) (ha : PA X (e :: es) (TA' X.K ix ga))
    (hbase : attributeBase o name X.env (eval o X.env) = eval o X.env := by rfl)
    (hfew : ((backTo cpos (starEach (e :: es) X.env)).all (fun x => !x.1) && (backToKw cpos (keywordEach [] X.env)).all (fun x => x.1.isSome) && decide ((e :: es).length + ([] : List Keyword).length + (if ([] : List Keyword).isEmpty then 0 else 1) < 30)) = true := by rfl)
    (hline : (apos.endLine == cpos.line) = true := by rfl) (hs : starEach (e :: es) X.env = (false, eval e X.env) :: starEach es X.env := by rfl) (hplain : (backTo cpos (starEach es X.env)).any (·.1) = false := by rfl) :
    PE X (.Call (.Attribute o name apos) (e :: es) [] cpos) (TE' X.K ix (mutM T gg fo ga)) :=
  pe_imp (pe_bm pa slot hty hm ho ha hbase hfew hline hs hplain) fun _ _ _ h => mt_ok h
theorem de_mt0 {T id : String} {name : Str} {gg : Ob → List Dv → Option (Ob × Dv)} {apos cpos : Pos} (pa : PlainAttrs T) (slot : Slot T name id) (hty : typeOf (.builtin id) = pure (.type "method_descriptor")) (hm : MutD X id gg) (ho : PE X o (TE' X.K ix fo))
    (hbase : attributeBase o name X.env (eval o X.env) = eval o X.env := by rfl) (hline : (apos.endLine == cpos.line) = true := by rfl) : PE X (.Call (.Attribute o name apos) [] [] cpos) (TE' X.K ix (mutM T gg fo aNil)) :=
  pe_imp (pe_bm0 pa slot hty hm ho hbase hline) fun σ H Q h => by
    obtain ⟨Fr, FX, G, ρ, r, ρ', R, hf, k⟩ := mt_ok h
    refine ⟨Fr, FX, G, ρ, r, ρ', R, hf, fun v G1 H1 s1 R1 v1 => ?_⟩
    obtain ⟨hT, Fr2, FX2, G2, ρ2, rs, ρ3, R2, hf2, k2⟩ := k v G1 H1 s1 R1 v1
    cases hf2
    exact ⟨hT, k2 [] G2 H1 (Sub.refl _) R2 trivial⟩
theorem de_app {apos cpos : Pos} (ho : PE X o (TE' X.K ix fo)) (ha : PA X [e] (TA' X.K ix ga)) (hbase : attributeBase o "append" X.env (eval o X.env) = eval o X.env := by rfl)
    (hfew : ((backTo cpos (starEach [e] X.env)).all (fun x => !x.1) && (backToKw cpos (keywordEach [] X.env)).all (fun x => x.1.isSome) && decide ([e].length + ([] : List Keyword).length + (if ([] : List Keyword).isEmpty then 0 else 1) < 30)) = true := by rfl)
    (hline : (apos.endLine == cpos.line) = true := by rfl) (hs : starEach [e] X.env = (false, eval e X.env) :: starEach [] X.env := by rfl) (hplain : (backTo cpos (starEach [] X.env)).any (·.1) = false := by rfl) :
    PE X (.Call (.Attribute o "append" apos) [e] [] cpos) (TE' X.K ix (mutM "list" appG fo ga)) :=
  de_mt PySem.F.plainAttrs_list PySem.F.slot_list_append PySem.F.type_list_append app_m ho ha hbase hfew hline hs hplain
/-! ### o[i] = v -/
def eqKey : Dv → Dv → Bool
  | .int i, .int j => decide (i = j)
  | .str x, .str y => decide (x = y)
  | _, _ => false
def isKey : Dv → Bool
  | .int _ => true
  | .str _ => true
  | _ => false
def putD (kvs : List (Dv × Dv)) (k d : Dv) : List (Dv × Dv) := if kvs.any (fun p => eqKey p.1 k) = true then kvs.map (fun p => if eqKey p.1 k = true then (p.1, d) else p) else kvs ++ [(k, d)]
def getD : List (Dv × Dv) → Dv → Option Dv
  | [], _ => none
  | p :: r, k => if eqKey p.1 k = true then some p.2 else getD r k
def setOb : Ob → Dv → Dv → Option Ob
  | .lst xs, .int k, d => (ixN xs.length k).map fun j => .lst (xs.set j d)
  | .dct kvs, k, d => if isKey k = true ∧ kvs.length < sizeLine then some (.dct (putD kvs k d)) else none
  | _, _, _ => none
theorem eqKey_keyD (k k' : Key) : eqKey (keyD k) (keyD k') = decide (k = k') := by
  cases k <;> cases k' <;> simp [keyD, eqKey]
theorem isKey_of {d : Dv} (h : isKey d = true) : ∃ k, d = keyD k := by
  cases d <;> first | exact ⟨.inl _, rfl⟩ | exact ⟨.inr _, rfl⟩ | cases h
theorem vd_key {K : PySem.W.Frag} {G H : Hp} {k : Key} {v : V} (h : VD K G H (keyD k) v) : v = kV k := by
  cases k with
  | inl i => exact vd_int h
  | inr x => exact vd_str h
theorem dkv_get {K : PySem.W.Frag} {G : Hp} {k : Key} : ∀ {ks : List (Key × V)} {kvs : List (Dv × Dv)}, DKV K G ks kvs → (∃ d v, getD kvs (keyD k) = some d ∧ valV ks k = some v ∧ Dp K G v d) ∨ (getD kvs (keyD k) = none ∧ valV ks k = none)
  | _, _, .nil => .inr ⟨rfl, rfl⟩
  | _, _, .cons (k := k0) (v := v) (d := d) h t => by
    by_cases e : k0 = k
    · subst e
      refine .inl ⟨d, v, ?_, valV_pos rfl, h⟩
      unfold getD
      rw [eqKey_keyD, if_pos (by simp)]
    · rcases dkv_get (k := k) t with ⟨d', v', h1, h2, h3⟩ | ⟨h1, h2⟩
      · refine .inl ⟨d', v', ?_, by rw [valV_neg e]; exact h2, h3⟩
        unfold getD
        rw [eqKey_keyD, if_neg (by simp [e])]
        exact h1
      · refine .inr ⟨?_, by rw [valV_neg e]; exact h2⟩
        unfold getD
        rw [eqKey_keyD, if_neg (by simp [e])]
        exact h1
theorem dkv_any {K : PySem.W.Frag} {G : Hp} {k : Key} : ∀ {ks : List (Key × V)} {kvs : List (Dv × Dv)}, DKV K G ks kvs → (kvs.any fun p => eqKey p.1 (keyD k)) = ks.any fun p => decide (p.1 = k)
  | _, _, .nil => rfl
  | _, _, .cons h t => by
    simp only [List.any_cons]
    rw [eqKey_keyD, dkv_any t]
theorem dkv_map {K : PySem.W.Frag} {G : Hp} {k : Key} {v : V} {d : Dv} (q : Dp K G v d) : ∀ {ks : List (Key × V)} {kvs : List (Dv × Dv)}, DKV K G ks kvs → DKV K G (ks.map fun p => if p.1 = k then (p.1, v) else p) (kvs.map fun p => if eqKey p.1 (keyD k) = true then (p.1, d) else p)
  | _, _, .nil => .nil
  | _, _, .cons (k := k0) h t => by
    simp only [List.map_cons]
    rw [eqKey_keyD]
    by_cases e : k0 = k
    · rw [if_pos e, if_pos (by simp [e])]
      exact .cons q (dkv_map q t)
    · rw [if_neg e, if_neg (by simp [e])]
      exact .cons h (dkv_map q t)
theorem dkv_append {K : PySem.W.Frag} {G : Hp} {k : Key} {v : V} {d : Dv} (q : Dp K G v d) : ∀ {ks : List (Key × V)} {kvs : List (Dv × Dv)}, DKV K G ks kvs → DKV K G (ks ++ [(k, v)]) (kvs ++ [(keyD k, d)])
  | _, _, .nil => .cons q .nil
  | _, _, .cons h t => .cons h (dkv_append q t)
theorem dkv_put {K : PySem.W.Frag} {G : Hp} {k : Key} {v : V} {d : Dv} {ks : List (Key × V)} {kvs : List (Dv × Dv)} (q : Dp K G v d) (h : DKV K G ks kvs) : DKV K G (putK ks k v) (putD kvs (keyD k) d) := by
  unfold putK putD
  rw [dkv_any h]
  by_cases e : (ks.any fun p => decide (p.1 = k)) = true
  · rw [if_pos e, if_pos e]
    exact dkv_map q h
  · rw [if_neg e, if_neg e]
    exact dkv_append q h
def RSet (K : PySem.W.Frag) : TSet := fun ov i v H Q => ∃ G a ob ob' k d, ov = .ref a ∧ (∀ a o, G a = some o → H a = some o) ∧ G a = none ∧ Ct K G H a ob ∧ VD K G H k i ∧ Dp K G v d ∧ setOb ob k d = some ob' ∧ ∀ u', Ct K G (upd H a u') a ob' → Q (upd H a u')
theorem set_d (hu : X.A.units + 1 < cLine) : PSet X (RSet X.K) := by
  intro pins s σ H ov i v ovv iv u Q I ro ri rv h
  obtain ⟨G, a, ob, ob', k, d, rfl, gh, g0, c, vk, qv, hs, kk⟩ := h
  unfold setOb at hs
  split at hs
  · obtain ⟨j, hj, hs⟩ := Option.map_eq_some_iff.mp hs
    cases hs
    obtain ⟨vs, hv, qs⟩ := c
    rw [vd_int vk] at ri
    exact set_list pins s σ H _ _ v ovv iv u Q I ro ri rv ⟨a, vs, _, j, rfl, rfl, hv, by rw [dpAll_length qs]; exact hj, kk _ ⟨_, upd_same, dpAll_set qv j qs⟩⟩
  · split at hs
    · rename_i hc
      cases hs
      obtain ⟨ks, hv, qs⟩ := c
      obtain ⟨k', rfl⟩ := isKey_of hc.1
      rw [vd_key vk] at ri
      cases (show ovv = Value.ref a from ro)
      exact d_setItem hu I (DPut.k (k := k') hv (by rw [dkv_length qs]; exact hc.2)) ri rv fun s' I' => ⟨_, I', kk _ ⟨_, upd_same, dkv_put qv qs⟩⟩
    · cases hs
  · cases hs
def tSub (fo fi : M) : MT := fun d ρ => (fo ρ).bind fun x => match x.1 with
  | .al i => (pkM fi x.2).bind fun y => (dat y.2 y.1).bind fun k => (match y.2[i]? with
    | some (.ow ob) => (setOb ob k d).bind fun ob' => some (y.2.set i (.ow ob'))
    | _ => none)
  | _ => none
theorem dg_sub {i : Expr} {fi : M} (hu : X.A.units + 1 < cLine) (ho : PE X o (TE' X.K ix fo)) (hi : PE X i (TE' X.K ix fi)) (hg : ∀ (to ti : TE) (t : TSet), PE X o to → PE X i ti → PSet X t → PG X (.Subscript o i pos) (gSub to ti t) := by exact fun _ _ _ h1 h2 h3 => pg_sub h1 h2 h3) : PG X (.Subscript o i pos) (TG' X.K ix [] (tSub fo fi)) :=
  pg_imp (hg _ _ _ ho (de_pk hi) (set_d hu)) fun v σ H Q ⟨Fr, FX, G, ρ, d, ρ', R, q, hf, k⟩ => by
    unfold tSub at hf
    obtain ⟨⟨r0, ρ0⟩, h0, hf⟩ := Option.bind_eq_some_iff.mp hf
    refine ⟨Fr, FX, G, ρ, r0, ρ0, R, h0, fun x G1 H1 s1 R1 v1 => ?_⟩
    cases r0 with
    | sh d => cases hf
    | ow d => cases hf
    | al j =>
      simp only at hf
      obtain ⟨⟨r1, ρ1⟩, h1, hf⟩ := Option.bind_eq_some_iff.mp hf
      obtain ⟨kd, h2, hf⟩ := Option.bind_eq_some_iff.mp hf
      split at hf
      · rename_i ob hob
        obtain ⟨ob', h3, hf⟩ := Option.bind_eq_some_iff.mp hf
        cases hf
        have ev : σ[j]? = some (some x) := v1
        refine ⟨Fr, FX, G1, ρ0, r1, ρ1, R1, h1, fun y G2 H2 s2 R2 v2 => ?_⟩
        obtain ⟨a, ea, g2, f2, c2⟩ := R2.sl j _ hob
        rw [ev] at ea
        cases ea
        refine ⟨G2, a, ob, ob', kd, d, rfl, R2.gh, g2, c2, dat_vd R2 v2 h2, dp_mono (s1.trans s2) _ _ q, h3, fun u' c' => ?_⟩
        exact k G2 σ _ (s1.trans s2) ⟨rfl, fun _ _ => rfl⟩ (R2.mut hob ev c')
      · cases hf
end
end DL

set_option Elab.async false
set_option linter.all false
set_option autoImplicit false
set_option maxRecDepth 100000
set_option maxHeartbeats 1000000
namespace DL
open PySem PySem.Spec PyProof.Rows L2

section
variable {X : Cx} {ix : List Nat} {e a b o : Expr} {es : List Expr} {f fa fb fc fo : M} {ga : MA} {g : MS} {pos p : Pos}
/-! ### items of dicts -/
def getOb : Ob → Dv → Option Dv
  | .lst xs, .int k => atI xs k
  | .dct kvs, k => if isKey k = true then getD kvs k else none
  | _, _ => none
theorem getItem_ok {pins : List (Addr × Obj)} {s : Shared} {σ : L2.St} {H G : Hp} {ad : Addr} {ob : Ob} {k d : Dv} {iv : Value} {i : V} {Q : VK} (hu : X.A.units + 1 < cLine) (I : Inv X pins σ H s) (c : Ct X.K G H ad ob) (vk : VD X.K G H k i) (ri : RelV i iv) (hg : getOb ob k = some d)
    (q : ∀ v, Dp X.K G v d → Q v H) : wpAny (model X.prog X.w) X.A (getItem (.ref ad) iv) (EP X pins σ Q) X.xe s := by
  unfold getOb at hg
  split at hg
  · rename_i xs kk
    obtain ⟨vs, hv, qs⟩ := c
    rw [vd_int vk] at ri
    obtain ⟨t, rfl⟩ := ri
    obtain ⟨w, hw, qw⟩ := atI_dp qs hg
    obtain ⟨its, r, pl, hz⟩ := I.list (SqL.of hv)
    obtain ⟨j, h1, h2, h3, h4, h5⟩ := atI_get hw
    obtain ⟨u, eu, ru⟩ := r.get h2
    have hl := r.length
    have hn := line63
    have fin : EP X pins σ Q u s := ⟨w, H, I, ru, q w qw⟩
    by_cases h0 : 0 ≤ kk
    · have hj : kk.toNat = j := by
        rw [seqIndex_of h0 h5] at h1
        exact Option.some.inj h1
      exact wpAny_getItem_list pl.isList h0 (by omega) (by rw [hj]; simpa using eu) fin
    · have hj : (kk + (its.toArray.size : Int)).toNat = j := by
        rw [seqIndex_neg (by omega) h4] at h1
        rw [List.size_toArray, ← hl]
        exact Option.some.inj h1
      exact wpAny_getItem_list_neg pl.isList (by omega) (by rw [List.size_toArray] <;> omega) (by omega) (by rw [hj]; simpa using eu) fin
  · split at hg
    · rename_i hk
      obtain ⟨ks, hv, qs⟩ := c
      obtain ⟨k', rfl⟩ := isKey_of hk
      rw [vd_key vk] at ri
      rcases dkv_get (k := k') qs with ⟨d', v', h1, h2, h3⟩ | ⟨h1, _⟩
      · rw [hg] at h1
        cases h1
        exact d_getItem hu I (y := kV k') (v := v') (.inl ⟨ks, k', .inl hv, rfl, h2.symm⟩) ri fun w' s' I' rw' => ⟨v', H, I', rw', q v' h3⟩
      · rw [hg] at h1
        cases h1
    · cases hg
  · cases hg
def ixA (d k : Dv) : Option Rz := match d with
  | .dict kvs => if isKey k = true then (getD kvs k).map .sh else none
  | _ => ixD d k
theorem ixA_d (hu : X.A.units + 1 < cLine) : IxD X ixA := by
  intro value slice pins s σ H x y v u Q I rx ry h hs
  obtain ⟨G, d, e, z, gh, vx, vy, hz, q⟩ := h
  unfold ixA at hz
  split at hz
  · rename_i kvs
    split at hz
    · rename_i hk
      obtain ⟨d', hd', rfl⟩ := Option.map_eq_some_iff.mp hz
      obtain ⟨ad, ks, rfl, h1, h2⟩ := (show ∃ a ks, x = .ref a ∧ H a = some (.dK ks) ∧ DKV X.K G ks kvs from vx)
      cases rx
      refine tail_any (T := "dict") ?_ PySem.F.slot_dict_getitem.lookup (getItem_ok hu I (G := G) (ob := .dct kvs) (k := e) ⟨ks, h1, h2⟩ vy ry (by unfold getOb; simp only; rw [if_pos hk]; exact hd') fun w qw => res_val q qw) hs
      exact dict_typeIs I (y := kV (.inl 0)) (o := valV ks (.inl 0)) (.inl ⟨ks, _, .inl h1, rfl, rfl⟩)
    · cases hz
  · exact ix_d value slice pins s σ H x y v u Q I rx ry ⟨G, d, e, z, gh, vx, vy, hz, q⟩ hs
def inA (d c : Dv) : Option Bool := match c with
  | .dict kvs => if isKey d = true then some (getD kvs d).isSome else none
  | _ => inSeq d c
def inAD (d c : Dv) : Option Rz := (inA d c).map fun b => .sh (.bool b)
def ninAD (d c : Dv) : Option Rz := (inA d c).map fun b => .sh (.bool (!b))
theorem dk_get {K : PySem.W.Frag} {G H : Hp} {ad : Addr} {ks : List (Key × V)} {kvs : List (Dv × Dv)} {k : Key} (h1 : H ad = some (.dK ks)) (h2 : DKV K G ks kvs) : ∃ ov, DGet H ad (kV k) ov ∧ ov.isSome = (getD kvs (keyD k)).isSome := by
  refine ⟨valV ks k, .inl ⟨ks, k, .inl h1, rfl, rfl⟩, ?_⟩
  rcases dkv_get (k := k) h2 with ⟨d, v, e1, e2, _⟩ | ⟨e1, e2⟩ <;> rw [e1, e2] <;> rfl
theorem inA_d (hu : X.A.units + 65 < cLine) : OpD X (compareOp .In) inAD := by
  intro pins s σ H x y v u Q I rx ry h
  obtain ⟨G, d, c, z, gh, vx, vy, hz, q⟩ := h
  obtain ⟨b, hb, rfl⟩ := Option.map_eq_some_iff.mp hz
  unfold inA at hb
  split at hb
  · rename_i kvs
    split at hb
    · rename_i hk
      cases hb
      obtain ⟨ad, ks, rfl, h1, h2⟩ := (show ∃ a ks, y = .ref a ∧ H a = some (.dK ks) ∧ DKV X.K G ks kvs from vy)
      cases ry
      obtain ⟨k', rfl⟩ := isKey_of hk
      rw [vd_key vx] at rx
      obtain ⟨ov, g1, g2⟩ := dk_get (k := k') h1 h2
      rw [← g2] at q
      exact d_in (by omega) I g1 rx fun s' I' => ⟨.bl ov.isSome, H, I', rfl, res_bl q⟩
    · cases hb
  · exact in_d hu pins s σ H x y v u Q I rx ry ⟨G, d, c, _, gh, vx, vy, by unfold inSD; rw [hb]; rfl, q⟩
theorem ninA_d (hu : X.A.units + 65 < cLine) : OpD X (compareOp .NotIn) ninAD := by
  intro pins s σ H x y v u Q I rx ry h
  obtain ⟨G, d, c, z, gh, vx, vy, hz, q⟩ := h
  obtain ⟨b, hb, rfl⟩ := Option.map_eq_some_iff.mp hz
  unfold inA at hb
  split at hb
  · rename_i kvs
    split at hb
    · rename_i hk
      cases hb
      obtain ⟨ad, ks, rfl, h1, h2⟩ := (show ∃ a ks, y = .ref a ∧ H a = some (.dK ks) ∧ DKV X.K G ks kvs from vy)
      cases ry
      obtain ⟨k', rfl⟩ := isKey_of hk
      rw [vd_key vx] at rx
      obtain ⟨ov, g1, g2⟩ := dk_get (k := k') h1 h2
      rw [← g2] at q
      exact d_notIn (by omega) I g1 rx fun s' I' => ⟨.bl (!ov.isSome), H, I', rfl, res_bl q⟩
    · cases hb
  · exact nin_d hu pins s σ H x y v u Q I rx ry ⟨G, d, c, _, gh, vx, vy, by unfold ninSD; rw [hb]; rfl, q⟩
/-! ### o[i] op= v -/
def sAugS (gg : Dv → Dv → Option Rz) (fo fi fe : M) : MS := fun ρ => (fo ρ).bind fun x => match x.1 with
  | .al j => (pkM fi x.2).bind fun y => (dat y.2 y.1).bind fun k => if isKey k = true then (match y.2[j]? with
    | some (.ow ob) => (getOb ob k).bind fun d0 => (pkM fe y.2).bind fun z => (dat z.2 z.1).bind fun d1 => (gg d0 d1).bind fun r => (match r with
      | .sh d => (match z.2[j]? with
        | some (.ow ob2) => (setOb ob2 k d).bind fun ob' => some (.nx (z.2.set j (.ow ob')))
        | _ => none)
      | .ow _ => none)
    | _ => none) else none
  | _ => none
def RGet (K : PySem.W.Frag) : V → V → Hp → VK → Prop := fun ov i H Q => ∃ G a ob k d, ov = .ref a ∧ (∀ a o, G a = some o → H a = some o) ∧ Ct K G H a ob ∧ VD K G H k i ∧ getOb ob k = some d ∧ ∀ v, Dp K G v d → Q v H
theorem get_d (hu : X.A.units + 1 < cLine) : PGet X (RGet X.K) := by
  intro pins s σ H ov i ovv iv Q I ro ri h
  obtain ⟨G, a, ob, k, d, rfl, gh, c, vk, hg, q⟩ := h
  cases (show ovv = Value.ref a from ro)
  exact getItem_ok hu I c vk ri hg q
theorem key_stay {K : PySem.W.Frag} {G H G' H' : Hp} {k : Dv} {v : V} (hk : isKey k = true) (h : VD K G H k v) : VD K G' H' k v := by
  obtain ⟨k', rfl⟩ := isKey_of hk
  rw [vd_key h]
  cases k' with
  | inl i => exact (Dp.int i : Dp K G' _ _)
  | inr x => exact (Dp.str x : Dp K G' _ _)
theorem ds_augS {i : Expr} {fi fe : M} {op : Operator} {gg : Dv → Dv → Option Rz} {tpos : Pos} (hu : X.A.units + 1 < cLine) (ho : PE X o (TE' X.K ix fo)) (hi : PE X i (TE' X.K ix fi)) (he : PE X e (TE' X.K ix fe)) (hp : OpD X (inplaceOp op) gg)
    (hq : ∀ (to ti te : TE) (tget : V → V → Hp → VK → Prop) (tip : TIp) (tset : TSet), PE X o to → PE X i ti → PGet X tget → PE X e te → PIp X op tip → PSet X tset → PS X (.AugAssign (.Subscript o i tpos) op e pos) (tAugS to ti te tget tip tset) := by exact fun _ _ _ _ _ _ h1 h2 h3 h4 h5 h6 => ps_augS h1 h2 h3 h4 h5 h6) :
    PS X (.AugAssign (.Subscript o i tpos) op e pos) (TS' X.K ix (sAugS gg fo fi fe)) :=
  ps_imp (hq _ _ _ _ (R2d X.K gg) _ ho (de_pk hi) (get_d hu) (de_pk he) (fun pins s σ H x y v u Q I r1 r2 h => hp pins s σ H x y v u Q I r1 r2 h) (set_d hu)) fun D σ H ⟨Fr, FX, G, ρ, fl, R, hf, k⟩ => by
    unfold sAugS at hf
    obtain ⟨⟨r0, ρ0⟩, h0, hf⟩ := Option.bind_eq_some_iff.mp hf
    refine ⟨Fr, FX, G, ρ, r0, ρ0, R, h0, fun x G1 H1 s1 R1 v1 => ?_⟩
    cases r0 with
    | sh d => cases hf
    | ow d => cases hf
    | al j =>
      simp only at hf
      obtain ⟨⟨r1, ρ1⟩, h1, hf⟩ := Option.bind_eq_some_iff.mp hf
      obtain ⟨kd, h2, hf⟩ := Option.bind_eq_some_iff.mp hf
      split at hf
      rotate_left
      · cases hf
      rename_i hk
      split at hf
      · rename_i ob hob
        obtain ⟨d0, h3, hf⟩ := Option.bind_eq_some_iff.mp hf
        obtain ⟨⟨r2, ρ2⟩, h4, hf⟩ := Option.bind_eq_some_iff.mp hf
        obtain ⟨d1, h5, hf⟩ := Option.bind_eq_some_iff.mp hf
        obtain ⟨z, h6, hf⟩ := Option.bind_eq_some_iff.mp hf
        cases z with
        | ow o => cases hf
        | sh d =>
          simp only at hf
          split at hf
          · rename_i ob2 hob2
            obtain ⟨ob', h7, hf⟩ := Option.bind_eq_some_iff.mp hf
            cases hf
            have ev : σ[j]? = some (some x) := v1
            refine ⟨Fr, FX, G1, ρ0, r1, ρ1, R1, h1, fun y G2 H2 s2 R2 v2 => ?_⟩
            obtain ⟨ad, ea, g2, f2, c2⟩ := R2.sl j _ hob
            rw [ev] at ea
            cases ea
            refine ⟨G2, ad, ob, kd, d0, rfl, R2.gh, c2, dat_vd R2 v2 h2, h3, fun w qw => ?_⟩
            refine ⟨Fr, FX, G2, ρ1, r2, ρ2, R2, h4, fun w2 G3 H3 s3 R3 v3 => ?_⟩
            refine ⟨G3, d0, d1, .sh d, R3.gh, dp_vd R3.gh (dp_mono s3 _ _ qw), dat_vd R3 v3 h5, h6, res_ok R3 fun w3 G4 H4 s4 R4 v4 => ?_⟩
            obtain ⟨ad', ea', g4, f4, c4⟩ := R4.sl j _ hob2
            rw [ev] at ea'
            cases ea'
            refine ⟨G4, ad, ob2, ob', kd, d, rfl, R4.gh, g4, c4, key_stay hk (dat_vd R2 v2 h2), v4, h7, fun u' c' => ?_⟩
            exact k G4 σ _ (((s1.trans s2).trans s3).trans s4) (R4.mut hob2 ev c')
          · cases hf
      · cases hf
/-! ### a, b = x, y -/
def setR (ρ : Rho) (i : Nat) : Rv → Option Rho
  | .sh d => some (ρ.set i (.sh d))
  | .ow o => some (ρ.set i (.ow o))
  | .al _ => none
def sPar (i j : Nat) (ga : MA) : MS := fun ρ => (ga ρ).bind fun x => match x.1 with
  | [r, s] => (setR x.2 i r).bind fun ρ1 => (setR ρ1 j s).bind fun ρ2 => some (.nx ρ2)
  | _ => none
theorem setR_ok {K : PySem.W.Frag} {Fr G H : Hp} {FX : Nat → Option V} {ρ ρ' : Rho} {σ : L2.St} {i : Nat} {r : Rv} {v : V} (R : RS K ix Fr FX G ρ σ H) (hi : i ∉ ix) (q : VOk K Fr G H ρ σ r v) (h : setR ρ i r = some ρ') : RS K ix Fr FX G ρ' (σ.set i (some v)) H := by
  cases r with
  | sh d => cases h; exact R.set hi ⟨v, rfl, q⟩ fun o a z => nomatch z
  | al j => cases h
  | ow o =>
    cases h
    obtain ⟨a, rfl, g, fr, c, hn⟩ := q
    exact R.set hi ⟨a, rfl, g, fr, c⟩ fun o' a' z1 z2 j o2 e1 => by cases z2; exact hn j o2 e1
theorem setR_keep {K : PySem.W.Frag} {Fr G H : Hp} {ρ ρ' : Rho} {σ : L2.St} {i : Nat} {r r' : Rv} {v v' : V} (q : VOk K Fr G H ρ σ r' v') (nal : ∀ k, r' ≠ .al k) (h : setR ρ i r = some ρ') (hl : ρ.length = σ.length) (ap : ∀ (o o' : Ob) (a : Addr), r = .ow o → v = .ref a → r' = .ow o' → v' ≠ .ref a) : VOk K Fr G H ρ' (σ.set i (some v)) r' v' := by
  cases r' with
  | sh d => exact q
  | al k => exact absurd rfl (nal k)
  | ow o' =>
    obtain ⟨a, rfl, g, fr, c, hn⟩ := q
    refine ⟨a, rfl, g, fr, c, fun k o2 e1 e2 => ?_⟩
    by_cases hk : i = k
    · subst hk
      cases r with
      | al j => cases h
      | sh d =>
        cases h
        have hlt : i < ρ.length := by have := (List.getElem?_eq_some_iff.mp e1).1; simpa using this
        rw [List.getElem?_set_self hlt] at e1
        cases e1
      | ow o =>
        cases h
        have hlt : i < ρ.length := by have := (List.getElem?_eq_some_iff.mp e1).1; simpa using this
        rw [List.getElem?_set_self (by omega)] at e2
        cases e2
        exact ap _ _ a rfl rfl rfl rfl
    · rw [List.getElem?_set_ne hk] at e2
      have e1' : ρ[k]? = some (.ow o2) := by
        cases r with
        | al j => cases h
        | sh d => cases h; rw [List.getElem?_set_ne hk] at e1; exact e1
        | ow o => cases h; rw [List.getElem?_set_ne hk] at e1; exact e1
      exact hn k o2 e1' e2
theorem ds_par {i j : Nat} {x y : Str} {px py pt : Pos} {kt k2 pt2} (hc : X.calm = true) (hN : X.N.Nodup) (hi : X.N[i]? = some x) (hj : X.N[j]? = some y) (hij : i ≠ j) (hii : i ∉ ix) (hjj : j ∉ ix)
    (hx : X.env.scope.names.lookup x = some .local) (hy : X.env.scope.names.lookup y = some .local) (ha : PA X [a, b] (TA' X.K ix ga))
    (hw : swappedStores [.Tuple [.Name x px, .Name y py] kt pt] (.Tuple [a, b] k2 pt2) X.env = pure (some [x, y]) := by rfl)
    (hs : swapsWithSole [.Tuple [.Name x px, .Name y py] kt pt] (.Tuple [a, b] k2 pt2) pos.line X.env = pure false := by rfl) :
    PS X (.Assign [.Tuple [.Name x px, .Name y py] kt pt] (.Tuple [a, b] k2 pt2) pos) (TS' X.K ix (sPar i j ga)) :=
  ps_imp (ps_par hc hN hi hj hij hx hy ha hw hs) fun D σ H ⟨Fr, FX, G, ρ, fl, R, hf, k⟩ => by
    unfold sPar at hf
    obtain ⟨⟨rs, ρ0⟩, h0, hf⟩ := Option.bind_eq_some_iff.mp hf
    refine ⟨Fr, FX, G, ρ, rs, ρ0, R, h0, fun vs G1 H1 s1 R1 v1 => ?_⟩
    simp only at hf
    split at hf
    · rename_i r s
      obtain ⟨ρ1, h1, hf⟩ := Option.bind_eq_some_iff.mp hf
      obtain ⟨ρ2, h2, hf⟩ := Option.bind_eq_some_iff.mp hf
      cases hf
      cases vs with
      | nil => exact False.elim v1
      | cons v vs =>
        cases vs with
        | nil => exact False.elim v1.2.2
        | cons w vs =>
          obtain ⟨q1, ap, q2, _, q3⟩ := v1
          cases vs with
          | cons _ _ => exact False.elim q3
          | nil =>
            have nal : ∀ k, s ≠ .al k := fun k z => by subst z; cases h2
            have K1 := setR_ok R1 hii q1 h1
            have Q2 := setR_keep (v := v) q2 nal h1 R1.len fun o o' a z1 z2 z3 z4 => ap o a z1 z2 0 o' (by rw [z3]; rfl) (by rw [z4]; rfl)
            have K2 := setR_ok K1 hjj Q2 h2
            exact ⟨v, w, rfl, k G1 _ H1 s1 K2⟩
    · cases hf
end
end DL

set_option Elab.async false
set_option linter.all false
set_option autoImplicit false
set_option maxRecDepth 100000
set_option maxHeartbeats 1000000
namespace DL
open PySem PySem.Spec PyProof.Rows L2

/-! ### slices -/
def cutD (xs : List Dv) (lo hi : Option Int) : List Dv := (xs.drop (HT.sIx xs.length 0 lo)).take (HT.sIx xs.length xs.length hi - HT.sIx xs.length 0 lo)
def cutG (d : Dv) (lo hi : Option Int) : Option Rz := match d with
  | .list xs => some (.ow (.lst (cutD xs lo hi)))
  | .tuple xs => some (.sh (.tuple (cutD xs lo hi)))
  | .str z => if z.length ≤ sizeLine then some (.sh (.str (cutS z lo hi))) else none
  | _ => none
abbrev MO := Rho → Option (Option Int × Rho)
def oNo : MO := fun ρ => some (none, ρ)
def oInt (f : M) : MO := fun ρ => (f ρ).bind fun x => match x.1 with
  | .sh (.int i) => some (some i, x.2)
  | _ => none
def eCut (f : M) (lo hi : MO) : M := fun ρ => (pkM f ρ).bind fun x => (lo x.2).bind fun y => (hi y.2).bind fun z => (dat z.2 x.1).bind fun d => (cutG d y.1 z.1).bind fun r => some (r.rv, z.2)
def TO' (K : PySem.W.Frag) (ix : List Nat) (f : MO) : TO := fun σ H Q => ∃ Fr FX G ρ i ρ', RS K ix Fr FX G ρ σ H ∧ f ρ = some (i, ρ') ∧ ∀ G' H', Sub G G' → RS K ix Fr FX G' ρ' σ H' → Q i H'
section
variable {X : Cx} {ix : List Nat} {e a b o : Expr} {es : List Expr} {f fa fb fc fo : M} {ga : MA} {g : MS} {pos p p2 : Pos}
theorem po_imp {e : Option Expr} {t t' : TO} (h : PO X e t) (k : ∀ σ H Q, t' σ H Q → t σ H Q) : PO X e t' := ⟨fun pins s σ H Q I q => h.run pins s σ H Q I (k _ _ _ q)⟩
theorem do_no : PO X none (TO' X.K ix oNo) := po_imp po_none fun σ H Q ⟨Fr, FX, G, ρ, i, ρ', R, hf, k⟩ => by
  cases hf
  exact k G H (Sub.refl _) R
theorem do_int (h : PE X e (TE' X.K ix f)) : PO X (some e) (TO' X.K ix (oInt f)) := po_imp (po_some h) fun σ H Q ⟨Fr, FX, G, ρ, i, ρ', R, hf, k⟩ => by
  unfold oInt at hf
  obtain ⟨⟨r0, ρ0⟩, h0, hf⟩ := Option.bind_eq_some_iff.mp hf
  refine ⟨Fr, FX, G, ρ, r0, ρ0, R, h0, fun v G1 H1 s1 R1 v1 => ?_⟩
  simp only at hf
  split at hf
  · cases hf
    have v1' : Dp X.K G1 v (.int _) := v1
    cases v1'
    exact ⟨_, rfl, k G1 H1 s1 R1⟩
  · cases hf
theorem cut_dp {K : PySem.W.Frag} {G : Hp} {ds : List Dv} {vs : List V} {lo hi : Option Int} (h : DpAll K G vs ds) : DpAll K G (cutV vs lo hi) (cutD ds lo hi) := by
  unfold cutV cutD
  rw [dpAll_length h]
  exact dpAll_take _ (dpAll_drop _ h)
theorem cutD_whole {ds : List Dv} {lo hi : Option Int} (h : HT.sIx ds.length 0 lo = 0 ∧ HT.sIx ds.length ds.length hi = ds.length) : cutD ds lo hi = ds := by
  unfold cutD
  rw [h.1, h.2]
  simp
def RCut (K : PySem.W.Frag) : V → Option Int → Option Int → Hp → VK → Prop := fun x lo hi H Q => ∃ G d z, (∀ a o, G a = some o → H a = some o) ∧ VD K G H d x ∧ cutG d lo hi = some z ∧ Res K G H Q z
theorem cut_d : SlR X (RCut X.K) := by
  intro pins s σ H x v vl vu lo hi sl Q I rx hs pl pu h
  obtain ⟨G, d, z, gh, vd, hz, q⟩ := h
  unfold cutG at hz
  split at hz
  · cases hz
    obtain ⟨ad, vs, rfl, h1, h2⟩ := vd_list vd
    exact sl_list pins s σ H _ v vl vu lo hi sl Q I rx hs pl pu ⟨ad, vs, rfl, h1, fun p hp => res_lst q hp (cut_dp h2)⟩
  · rename_i ds
    cases hz
    obtain ⟨ad, vs, rfl, g1, h1, h2⟩ := vd_tup gh vd
    have l := dpAll_length h2
    refine sl_tupA pins s σ H _ v vl vu lo hi sl Q I rx hs pl pu ⟨ad, vs, rfl, h1, fun hw => ?_, fun _ p hp => res_tup q (g_none gh hp) hp (cut_dp h2)⟩
    rw [l] at hw
    rw [cutD_whole hw] at q
    exact res_val q (.tup g1 h2)
  · split at hz
    · rename_i hc
      cases hz
      rw [vd_str vd] at rx
      exact sl_str pins s σ H _ v vl vu lo hi sl Q I rx hs pl pu ⟨_, rfl, hc, res_str q⟩
    · cases hz
  · cases hz
theorem de_cut {lo hi : Option Expr} {ml mh : MO} (he : PE X e (TE' X.K ix f)) (hl : PO X lo (TO' X.K ix ml)) (hu : PO X hi (TO' X.K ix mh)) : PE X (.Subscript e (.Slice lo hi none p2) pos) (TE' X.K ix (eCut f ml mh)) :=
  pe_imp (pe_slice cut_d (de_pk he) hl hu) fun σ H Q ⟨Fr, FX, G, ρ, r, ρ', R, hf, k⟩ => by
    unfold eCut at hf
    obtain ⟨⟨r0, ρ0⟩, h0, hf⟩ := Option.bind_eq_some_iff.mp hf
    obtain ⟨⟨i, ρ1⟩, h1, hf⟩ := Option.bind_eq_some_iff.mp hf
    obtain ⟨⟨j, ρ2⟩, h2, hf⟩ := Option.bind_eq_some_iff.mp hf
    obtain ⟨d, h3, hf⟩ := Option.bind_eq_some_iff.mp hf
    obtain ⟨z, h4, hf⟩ := Option.bind_eq_some_iff.mp hf
    cases hf
    refine ⟨Fr, FX, G, ρ, r0, ρ0, R, h0, fun v G1 H1 s1 R1 v1 => ?_⟩
    cases r0 with
    | ow ob =>
      cases ob with
      | lst ds => exact absurd rfl (pk_noow h0 ds)
      | dct kvs =>
        cases h3
        cases h4
    | sh d0 =>
      cases h3
      refine ⟨Fr, FX, G1, ρ0, i, ρ1, R1, h1, fun G2 H2 s2 R2 => ⟨Fr, FX, G2, ρ1, j, _, R2, h2, fun G3 H3 s3 R3 => ?_⟩⟩
      exact ⟨G3, d, z, R3.gh, dp_vd R3.gh (dp_mono (s2.trans s3) _ _ v1), h4, res_ok R3 fun w G4 H4 s4 R4 v4 => k w G4 H4 (((s1.trans s2).trans s3).trans s4) R4 v4⟩
    | al n =>
      refine ⟨Fr, FX, G1, ρ0, i, ρ1, R1, h1, fun G2 H2 s2 R2 => ⟨Fr, FX, G2, ρ1, j, _, R2, h2, fun G3 H3 s3 R3 => ?_⟩⟩
      exact ⟨G3, d, z, R3.gh, dat_vd (r := .al n) R3 v1 h3, h4, res_ok R3 fun w G4 H4 s4 R4 v4 => k w G4 H4 (((s1.trans s2).trans s3).trans s4) R4 v4⟩

/-! ### x[::-1] -/
def revD : Dv → Option Rz
  | .list xs => some (.ow (.lst xs.reverse))
  | .tuple xs => some (.sh (.tuple xs.reverse))
  | _ => none
theorem slice_back {prog : Program} {w : World} {A : Around} {E : Value → Shared → Prop} {s : Shared} {sl : Addr} {vl vu vs : Value} {n : Nat} {Q : Int × Int × Nat → Shared → Prop} (hs : s.heap.IsSliceOf sl vl vu vs) (pl : IsPart vl none) (pu : IsPart vu none) (ps : IsPart vs (some (-1)))
    (h : Q ((n : Int) - 1, -1, n) s) : wpAny (model prog w) A (Builtin.Slice.sliceApplied (.ref sl) (pure (n : Int))) Q E s := by
  obtain ⟨os, ho, hc, hd⟩ := id hs
  unfold Builtin.Slice.sliceApplied Builtin.Slice.sliceFields
  refine wpAny_bind (wpAny_bind (wpAny_field ho hd (x := vl) rfl (wpAny_bind (wpAny_field ho hd (x := vu) rfl (wpAny_bind (wpAny_field ho hd (x := vs) rfl (wpAny_pure ?_)))))))
  refine wpAny_bind (HT.slicePart_ ps ?_)
  show wpAny _ _ (if ((-1 : Int) == 0) = true then _ else _) _ _ s
  rw [if_neg (by decide)]
  refine wpAny_bind (HT.slicePart_ pl (wpAny_bind (HT.slicePart_ pu (wpAny_bind (wpAny_pure ?_)))))
  show wpAny _ _ (match Builtin.Slice.sliceAdjust none none (-1) (n : Int) with | (lo, hi) => pure (lo, (-1 : Int), Builtin.Slice.slicePlaces lo hi (-1))) _ _ s
  have e1 : Builtin.Slice.sliceAdjust none none (-1) (n : Int) = ((n : Int) - 1, -1) := by
    unfold Builtin.Slice.sliceAdjust
    simp
  rw [e1]
  show wpAny _ _ (pure ((n : Int) - 1, (-1 : Int), Builtin.Slice.slicePlaces ((n : Int) - 1) (-1) (-1))) _ _ s
  have e2 : Builtin.Slice.slicePlaces ((n : Int) - 1) (-1) (-1) = n := by
    unfold Builtin.Slice.slicePlaces
    simp
    try omega
  rw [e2]
  exact wpAny_pure h
theorem pick_back (xs : Array Value) : ((List.range xs.size).filterMap fun (m : Nat) => xs[(((xs.size : Int) - 1) + (m : Int) * (-1)).toNat]?) = xs.toList.reverse := by
  have e : ((List.range xs.size).filterMap fun (m : Nat) => xs[(((xs.size : Int) - 1) + (m : Int) * (-1)).toNat]?) = (((List.range xs.size).map fun k => xs.size - 1 - k).filterMap fun k => xs[k]?) := by
    rw [List.filterMap_map]
    congr 1
    funext m
    have : (((xs.size : Int) - 1) + (m : Int) * (-1)).toNat = xs.size - 1 - m := by omega
    rw [this]
    rfl
  rw [e, PySem.W.krv_range, List.filterMap_reverse, PySem.W.krv_all]
theorem tuple_back {prog : Program} {w : World} {A : Around} {E : Value → Shared → Prop} {s : Shared} {t sl : Addr} {items : Array Value} {vl vu vs : Value} {Q : Value → Shared → Prop} (ht : IsTup s.heap t items) (hs : s.heap.IsSliceOf sl vl vu vs) (pl : IsPart vl none) (pu : IsPart vu none) (ps : IsPart vs (some (-1)))
    (hsz : items.size ≤ sizeLine) (h : Q (.ref s.heap.objs.size) { s with heap := s.heap.push { cls := .type "tuple", data := .seq items.toList.reverse.toArray } }) : wpAny (model prog w) A (getItem (.ref t) (.ref sl)) Q E s := by
  have hz : sizeOk (.seq items.toList.reverse.toArray) := by
    show items.toList.reverse.toArray.size ≤ sizeLine
    simpa using hsz
  obtain ⟨os, ho, hc, hd⟩ := id hs
  have hT : s.TypeIs (.ref sl) "slice" := ⟨os, ho, hc⟩
  unfold getItem
  try with_reducible refine wpAny_holding ?_
  first | refine wpAny_bind (wpAny_pure ?_) | skip
  refine wpAny_bind (wpAny_sequenceKey ht.typeIs (by decide) (wpAny_bind (wpAny_callSpecial?_slot (name := Str.ofString "__getitem__") ht.typeIs PyProof.Rows.slot_tuple_getitem (wpAny_call_entry PyProof.Rows.slot_tuple_getitem ht.typeIs entry_tuple_getitem ?_ (args_tuple_getitem _ _)))))
  show wpAny _ _ (Builtin.Tuple.tupleItemsOf (.ref t) >>= _) _ _ s
  refine wpAny_bind (tupleItemsOf_ ht (wpAny_bind (wpAny_typeOf hT ?_)))
  rw [if_pos (by decide)]
  refine wpAny_bind (slice_back hs pl pu ps ?_)
  have no : ¬ ((((items.size : Int) - 1) == 0 && (-1 : Int) == 1 && items.size == items.size) = true) := by simp
  show wpAny _ _ (if (((items.size : Int) - 1) == 0 && (-1 : Int) == 1 && items.size == items.size) = true then _ else _) _ _ s
  rw [if_neg no, pick_back]
  first
    | exact wpAny_bind (m := Builtin.Tuple.tupleExact _) (wpAny_newObj_type (wpAny_pure ⟨_, rfl, wpAny_pure h⟩) hz)
    | exact wpAny_bind (m := Builtin.Tuple.tupleExact _) (wpAny_newObj_type (wpAny_bind (wpAny_pure (wpAny_pure ⟨_, rfl, wpAny_pure h⟩))) hz)
    | exact wpAny_bind (wpAny_bind (m := Builtin.Tuple.tupleExact _) (wpAny_newObj_type (wpAny_pure (wpAny_pure ⟨_, rfl, wpAny_pure h⟩)) hz))
    | exact wpAny_bind (wpAny_bind (m := Builtin.Tuple.tupleExact _) (wpAny_newObj_type (wpAny_pure ⟨_, rfl, wpAny_pure h⟩) hz))
def tBack (K : PySem.W.Frag) (te : TE) : TE := fun σ H Q => te σ H fun x H1 => ∃ a xs, x = .ref a ∧ ((SqL K H1 a xs ∧ ∀ p, H1 p = none → Q (.ref p) (upd H1 p (.lst xs.reverse))) ∨ (SqT K H1 a xs ∧ ∀ p, H1 p = none → Q (.ref p) (upd H1 p (.tup xs.reverse))))
theorem pe_back {te : TE} {k : Nat} {p1 p2 p3 : Pos} (he : PE X e te) : PE X (.Subscript e (.Slice none none (some (.UnaryOp .USub (.Constant (.int 1) k p1) p2)) p3) pos) (tBack X.K te) := ⟨fun pins s σ H Q I h => Subscript_ (thn (he.run pins s σ H _ I h) fun v s1 ⟨x, H1, I1, r1, ad, xs, ex, q⟩ => by
  subst ex
  cases r1
  have st : PO X (some (.UnaryOp .USub (.Constant (.int 1) k p1) p2)) (tPart (tUn (rU fun i => .int (-i)) (tC (.int 1)))) := po_some (pe_un un_neg pe_int)
  refine wpAny_Slice (thn (po_none.run pins s1 σ H1 (fun o H2 => o = none ∧ H2 = H1) I1 ⟨rfl, rfl⟩) fun vl s2 ⟨l, H2, I2, pl, el, e2⟩ => ?_)
  subst el e2
  refine thn (po_none.run pins s2 σ H2 (fun o H3 => o = none ∧ H3 = H2) I2 ⟨rfl, rfl⟩) fun vu s3 ⟨u, H3, I3, pu, eu, e3⟩ => ?_
  subst eu e3
  refine thn (st.run pins s3 σ H3 (fun o H4 => o = some (-1) ∧ H4 = H3) I3 ⟨1, rfl, -1, rfl, rfl, rfl⟩) fun vt s4 ⟨o, H4, I4, pt, eo, e4⟩ => ?_
  subst eo e4
  have I5 : Inv X pins σ H4 { s4 with heap := s4.heap.push { cls := .type "slice", data := .fields #[vl, vu, vt] } } := I4.kept (t' := s4.toks) fun b ob q => Heap.get?_push_of_some _ q
  show wpAny (model X.prog X.w) X.A (subscriptTail e (.Slice none none (some (.UnaryOp .USub (.Constant (.int 1) k p1) p2)) p3) (.ref ad) (.ref s4.heap.objs.size)) (EP X pins σ Q) X.xe { s4 with heap := s4.heap.push { cls := .type "slice", data := .fields #[vl, vu, vt] } }
  rcases q with ⟨hx, q⟩ | ⟨hx, q⟩
  · obtain ⟨its, r, ht, hz⟩ := I5.list hx
    have hl := r.length
    refine tail_any (ops := [.ref ad, .ref s4.heap.objs.size]) ht.isList.typeIs (PySem.slot_list_getitem.lookup) ?_ (by with_unfolding_all rfl)
    refine wpAny_getItem_list_slice ht.isList (Heap.IsSliceOf.new _ vl vu vt) pl pu pt (by decide) ?_ (by rw [List.size_toArray]; omega)
    rw [PySem.W.krv_pick]
    exact ⟨.ref _, _, I5.lnew (t' := s4.toks) (ys := xs.reverse) r.reverse (by rw [List.length_reverse]; exact hz), rfl, q _ I5.fresh⟩
  · obtain ⟨its, r, ht, hz⟩ := I5.tuple hx
    have hl := r.length
    refine tail_any (ops := [.ref ad, .ref s4.heap.objs.size]) ht.typeIs PyProof.Rows.slot_tuple_getitem.lookup ?_ (by with_unfolding_all rfl)
    refine tuple_back ht (Heap.IsSliceOf.new _ vl vu vt) pl pu pt (by rw [List.size_toArray]; omega) ?_
    exact ⟨.ref _, _, I5.laid (t' := s4.toks) (o := .tup xs.reverse) (fun b ob z => Heap.get?_push_of_some _ z) (Nat.le_refl _) (show ObjOk X.prog X.w _ _ _ (.tup xs.reverse) from ⟨by rw [List.length_reverse]; exact hz, _, r.reverse, IsTup.new _ _⟩), rfl, q _ I5.fresh⟩)⟩
theorem de_back {k : Nat} {p1 p2 p3 : Pos} (he : PE X e (TE' X.K ix f)) : PE X (.Subscript e (.Slice none none (some (.UnaryOp .USub (.Constant (.int 1) k p1) p2)) p3) pos) (TE' X.K ix (unS revD f)) :=
  pe_imp (pe_back he) fun σ H Q ⟨Fr, FX, G, ρ, r, ρ', R, hf, k⟩ => by
    unfold unS at hf
    obtain ⟨⟨r1, ρ1⟩, h1, hf⟩ := Option.bind_eq_some_iff.mp hf
    obtain ⟨d, h2, hf⟩ := Option.bind_eq_some_iff.mp hf
    obtain ⟨z, h3, hf⟩ := Option.bind_eq_some_iff.mp hf
    cases hf
    refine ⟨Fr, FX, G, ρ, r1, _, R, h1, fun v G1 H1 s1 R1 v1 => ?_⟩
    have vd := dat_vd R1 v1 h2
    have q : Res X.K G1 H1 Q z := res_ok R1 fun w G2 H2 s2 R2 w2 => k w G2 H2 (s1.trans s2) R2 w2
    unfold revD at h3
    split at h3
    · cases h3
      obtain ⟨ad, vs, rfl, h4, h5⟩ := vd_list vd
      exact ⟨ad, vs, rfl, .inl ⟨h4, fun p hp => res_lst q hp (dpAll_reverse h5)⟩⟩
    · cases h3
      obtain ⟨ad, vs, rfl, g4, h4, h5⟩ := vd_tup R1.gh vd
      exact ⟨ad, vs, rfl, .inr ⟨h4, fun p hp => res_tup q (g_none R1.gh hp) hp (dpAll_reverse h5)⟩⟩
    · cases h3
end
end DL

set_option Elab.async false
set_option linter.all false
set_option autoImplicit false
set_option maxRecDepth 100000
namespace DL
open PySem PySem.Spec PyProof.Rows L2

/-! ### dict displays -/
def prS : List (Key × M) → Rho → Option (List (Key × Dv) × Rho)
  | [], ρ => some ([], ρ)
  | (k, f) :: r, ρ => (frM f ρ).bind fun x => match x.1 with
    | .sh d => (prS r x.2).bind fun y => some ((k, d) :: y.1, y.2)
    | _ => none
def mergeD (kvs : List (Dv × Dv)) (more : List (Key × Dv)) : List (Dv × Dv) := more.foldl (fun acc p => putD acc (keyD p.1) p.2) kvs
def eDisp (r : List (Key × M)) : M := fun ρ => (prS r ρ).bind fun y => some (.ow (.dct (mergeD [] y.1)), y.2)
inductive DPs (X : Cx) (ix : List Nat) : List (Option Expr) → List Expr → List (Key × M) → Prop
  | nil : DPs X ix [] [] []
  | cons {e v : Expr} {ks : List (Option Expr)} {vs : List Expr} {k : Key} {f : M} {r : List (Key × M)} (hk : PE X e (tC (kV k))) (hv : PE X v (TE' X.K ix f)) (hr : DPs X ix ks vs r) : DPs X ix (some e :: ks) (v :: vs) ((k, f) :: r)
def trsOf (K : PySem.W.Frag) (ix : List Nat) : List (Key × M) → List (TE × TE)
  | [] => []
  | (k, f) :: r => (tC (kV k), TE' K ix (frM f)) :: trsOf K ix r
theorem DPs.pps {X : Cx} {ix : List Nat} {pos : Pos} : ∀ {ks : List (Option Expr)} {vs : List Expr} {r : List (Key × M)}, DPs X ix ks vs r → PPs X pos ks vs (trsOf X.K ix r)
  | _, _, _, .nil => pps_nil
  | _, _, _, .cons hk hv hr => pps_cons hk (de_fr hv) hr.pps
/-- the pairs that were made -/
inductive KVr (K : PySem.W.Frag) (G : Hp) : List (Key × V) → List (Key × Dv) → Prop
  | nil : KVr K G [] []
  | cons {k : Key} {v : V} {d : Dv} {r : List (Key × V)} {s : List (Key × Dv)} : Dp K G v d → KVr K G r s → KVr K G ((k, v) :: r) ((k, d) :: s)
theorem kvr_merge {K : PySem.W.Frag} {G : Hp} : ∀ {r : List (Key × V)} {s : List (Key × Dv)} {ks : List (Key × V)} {kvs : List (Dv × Dv)}, KVr K G r s → DKV K G ks kvs → DKV K G (mergeK ks r) (mergeD kvs s)
  | _, _, _, _, .nil, h => h
  | _, _, _, _, .cons q t, h => kvr_merge (ks := putK _ _ _) (kvs := putD _ _ _) t (dkv_put q h)
theorem kvr_len {K : PySem.W.Frag} {G : Hp} : ∀ {r : List (Key × V)} {s : List (Key × Dv)}, KVr K G r s → r.length = s.length
  | _, _, .nil => rfl
  | _, _, .cons _ t => by simp [kvr_len t]
theorem prS_len : ∀ {r : List (Key × M)} {ρ ρ' : Rho} {kds : List (Key × Dv)}, prS r ρ = some (kds, ρ') → kds.length = r.length
  | [], _, _, _, h => by cases h; rfl
  | (k, f) :: r, ρ, ρ', kds, h => by
    unfold prS at h
    obtain ⟨⟨r0, ρ0⟩, h0, h⟩ := Option.bind_eq_some_iff.mp h
    simp only at h
    split at h
    · obtain ⟨⟨y, ρ1⟩, h1, h⟩ := Option.bind_eq_some_iff.mp h
      cases h
      simp [prS_len h1]
    · cases h
theorem prS_ok {K : PySem.W.Frag} {ix : List Nat} {FX : Nat → Option V} {Fr : Hp} {σ : L2.St} : ∀ (r : List (Key × M)) {G H : Hp} {ρ ρ' : Rho} {kds : List (Key × Dv)} {Q : List (V × V) → Hp → Prop}, RS K ix Fr FX G ρ σ H → prS r ρ = some (kds, ρ') →
    (∀ kvs G' H', Sub G G' → RS K ix Fr FX G' ρ' σ H' → KVr K G' kvs kds → Q (kvs.map fun kv => (kV kv.1, kv.2)) H') → tPairs (trsOf K ix r) σ H Q
  | [], G, H, ρ, ρ', kds, Q, R, h, k => by
    cases h
    exact k [] G H (Sub.refl _) R .nil
  | (key, f) :: r, G, H, ρ, ρ', kds, Q, R, h, k => by
    unfold prS at h
    obtain ⟨⟨r0, ρ0⟩, h0, h⟩ := Option.bind_eq_some_iff.mp h
    simp only at h
    split at h
    · rename_i d
      obtain ⟨⟨y, ρ1⟩, h1, h⟩ := Option.bind_eq_some_iff.mp h
      cases h
      show TE' K ix (frM f) σ H _
      refine ⟨Fr, FX, G, ρ, _, ρ0, R, h0, fun v G1 H1 s1 R1 v1 => prS_ok r R1 h1 fun kvs G2 H2 s2 R2 q2 => ?_⟩
      exact k ((key, v) :: kvs) G2 H2 (s1.trans s2) R2 (.cons (dp_mono s2 _ _ v1) q2)
    · cases h
theorem RS.updF {K : PySem.W.Frag} {ix : List Nat} {Fr G H : Hp} {FX : Nat → Option V} {ρ : Rho} {σ : L2.St} {p : Addr} {u : HO} (R : RS K ix Fr FX G ρ σ H) (g : G p = none) (f : Fr p = none) (hn : ∀ (i : Nat) (o' : Ob), ρ[i]? = some (.ow o') → σ[i]? ≠ some (some (.ref p))) :
    RS K ix Fr FX G ρ σ (upd H p u) := by
  refine ⟨fun a o e => ?_, fun a o e => ?_, R.gf, R.len, fun i s e => ?_, R.sep, R.fx⟩
  · have ha : a ≠ p := fun z => by subst z; rw [g] at e; cases e
    rw [upd_ne ha]; exact R.gh a o e
  · have ha : a ≠ p := fun z => by subst z; rw [f] at e; cases e
    rw [upd_ne ha]; exact R.fh a o e
  · refine (R.sl i s e).mono (Sub.refl _) fun a o' e1 e2 g1 f1 => ?_
    have ha : a ≠ p := fun z => by
      subst z; subst e2
      exact hn i _ e e1
    rw [upd_ne ha]
    exact ⟨g1, rfl⟩
theorem de_disp {X : Cx} {ix : List Nat} {pos : Pos} {keys : List (Option Expr)} {values : List Expr} {r : List (Key × M)} (h : DPs X ix keys values r) (hall : keys.all (·.isSome) = true := by rfl) (hl : keys.length = values.length := by rfl) (h0 : keys ≠ [] := by decide)
    (h15 : r.length ≤ 15 := by decide) (h15' : keys.length ≤ 15 := by decide) : PE X (.Dict keys values pos) (TE' X.K ix (eDisp r)) := by
  refine pe_imp (pe_disp h.pps hall hl h0 h15') fun σ H Q ⟨Fr, FX, G, ρ, r0, ρ', R, hf, k⟩ => ?_
  unfold eDisp at hf
  obtain ⟨⟨kds, ρ1⟩, h1, hf⟩ := Option.bind_eq_some_iff.mp hf
  cases hf
  intro p hp
  obtain ⟨g, f0⟩ := R.none_of hp
  have R1 := (R.newH (o := .dK []) hp).frame g upd_same (R.notIn hp)
  refine prS_ok r R1 h1 fun kvs G2 H2 s2 R2 q2 => ?_
  have g2 : G2 p = none := R2.gf p (by rw [upd_same]; simp)
  have h2 : H2 p = some (.dK []) := R2.fh p _ upd_same
  have hn : ∀ (i : Nat) (o' : Ob), ρ1[i]? = some (.ow o') → σ[i]? ≠ some (some (.ref p)) := fun i o' e e1 => by
    obtain ⟨a, e2, _, f2, _⟩ := R2.sl i _ e
    rw [e1] at e2
    cases e2
    rw [upd_same] at f2
    cases f2
  refine ⟨h2, kvs, rfl, ?_, ?_⟩
  · rw [kvr_len q2, prS_len h1]; exact h15
  · exact k _ G2 _ s2 ((R2.unframe f0).updF g2 f0 hn) ⟨p, rfl, g2, f0, ⟨_, upd_same, kvr_merge q2 .nil⟩, hn⟩

/-! ### whiles by enough rounds -/
theorem whileS_succ {c : MB} {b : MS} : ∀ (n : Nat) {ρ : Rho} {fl : Fl}, whileS c b n ρ = some fl → whileS c b (n + 1) ρ = some fl
  | 0, ρ, fl, h => by cases h
  | n + 1, ρ, fl, h => by
    unfold whileS at h ⊢
    obtain ⟨⟨k, ρ1⟩, h1, h⟩ := Option.bind_eq_some_iff.mp h
    rw [h1]
    simp only [Option.bind_some] at h ⊢
    split at h
    · rename_i hk
      rw [if_pos hk]
      obtain ⟨f2, h2, h⟩ := Option.bind_eq_some_iff.mp h
      rw [h2]
      simp only [Option.bind_some]
      cases f2 with
      | nx ρ2 => exact whileS_succ n h
      | ct ρ2 => exact whileS_succ n h
      | bk ρ2 => exact h
      | rt r ρ2 => exact h
    · rename_i hk
      rw [if_neg hk]
      exact h
theorem whileS_le {c : MB} {b : MS} {n m : Nat} (h : n ≤ m) {ρ : Rho} {fl : Fl} (e : whileS c b n ρ = some fl) : whileS c b m ρ = some fl := by
  induction h with
  | refl => exact e
  | step _ ih => exact whileS_succ _ ih

/-! ### defs by name -/
structure Dn (K : PySem.W.Frag) (mg : Str → Option Value) (x : Str) (st : Stmt) (ps : List Str) : Prop where
  ex : ∃ f fd, FunD K x x (defArgs st) (defBody st) (defScope st) [] [] f fd ∧ mg x = some (.ref f) ∧ Binds K fd ps []
structure Has (P : Program) (w : World) (K : PySem.W.Frag) (mg : Str → Option Value) (base : Heap) (k : Nat) (x : Str) (ps : List Str) (F : FnS) : Prop where
  ex : ∃ f fd, FnOk P w K mg base CX0 k f fd ps (spD K ps.length F) ∧ mg x = some (.ref f) ∧ PySem.W.keepIn K (.ref f) = true ∧ Binds K fd ps []
section
variable {P : Program} {w : World} {K : PySem.W.Frag} {mg : Str → Option Value} {base : Heap}
theorem fun_ofD {x : Str} {st : Stmt} {f : Addr} {fd : FuncData} (F : FunD K x x (defArgs st) (defBody st) (defScope st) [] [] f fd) : Fun K x x st f fd := by
  obtain ⟨oc, od, dV, kV, doc, pm, an, cdv, ct, osl, e, l, c, hd, _⟩ := F.ex
  rcases hd with ⟨_, e2⟩ | ⟨e2, _⟩
  · subst e2
    exact ⟨⟨oc, od, kV, doc, pm, an, cdv, ct, osl, e, l, c⟩, F.kp⟩
  · exact absurd rfl e2
theorem fn_has {x : Str} {st : Stmt} {N ps : List Str} {k : Nat} (D : Dn K mg x st ps) (S : FnScope N ps (defScope st)) (ix : List Nat) (g : MS)
    (hb : ∀ (cdv : Value) (A : Around) (outer : List Env) (s : Shared) (H : Hp) (E : XK) (fA : Addr), Room k (A.deeper (envOfC x (defScope st) s.heap.objs.size fA cdv)) →
      PSs (cxOf CX0 P w K mg base N x (defScope st) fA cdv A outer s H E).nox (defBody st) (TS' K ix g)) (hN : ps.length ≤ N.length := by decide) : Has P w K mg base (k + 1) x ps (runF ps.length N.length ix g) := by
  obtain ⟨f, fd, F, hm, hB⟩ := D.ex
  exact ⟨f, fd, fn_d (fun_ofD F) S ix g hN fun cdv A outer s H E hr => hb cdv A outer s H E f hr, hm, F.kp, hB⟩
theorem dn_mk {x : Str} {st : Stmt} {ps : List Str} {f : Addr} {fd : FuncData} (F : FunD K x x (defArgs st) (defBody st) (defScope st) [] [] f fd) (hm : mg x = some (.ref f))
    (hb : ∀ (kV doc pm : Value) (an : Option Addr) (cdv ct : Value) (us : List Value), us.length = ps.length → bindArgs (PySem.W.fnOf x x (defArgs st) (defBody st) (defScope st) Value.none kV doc pm an cdv ct) { pos := us } = pure (ps.zip us)) : Dn K mg x st ps :=
  ⟨⟨f, fd, F, hm, F.bindsN hb⟩⟩
end
section
variable {X : Cx} {ix : List Nat} {e : Expr} {es : List Expr} {ga : MA} {pos p : Pos}
theorem de_call {k k' : Nat} {ps : List Str} {x : Str} {F : FnS} (G : Has X.prog X.w X.K X.mg X.base k x ps F) (hr : Room k' X.A) (hk : k ≤ k') (hg : Gl X x)
    (ha : PA X (e :: es) (TA' X.K ix ga)) (hnp : ∀ ρ rs ρ', ga ρ = some (rs, ρ') → rs.length = ps.length) (hdb : (x == ("__debug__" : Str)) = false := by decide)
    (hs : starEach (e :: es) X.env = (false, eval e X.env) :: starEach es X.env := by rfl) (hs2 : ((backTo pos (starEach es X.env)).any fun x => x.fst) = false := by rfl) : PE X (.Call (.Name x p) (e :: es) [] pos) (TE' X.K ix (eFn F ga)) := by
  obtain ⟨f, fd, G, hm, hk2, hb⟩ := G.ex
  exact de_fn G (hr.mono hk) hg hm hk2 hb ha hnp hdb hs hs2
theorem de_call0 {k k' : Nat} {x : Str} {F : FnS} (G : Has X.prog X.w X.K X.mg X.base k x [] F) (hr : Room k' X.A) (hk : k ≤ k') (hg : Gl X x) (hdb : (x == ("__debug__" : Str)) = false := by decide) : PE X (.Call (.Name x p) [] [] pos) (TE' X.K ix (eFn F aNil)) := by
  obtain ⟨f, fd, G, hm, hk2, hb⟩ := G.ex
  exact de_fn0 G (hr.mono hk) hg hm hk2 hb hdb
end
end DL

set_option Elab.async false
set_option linter.all false
set_option autoImplicit false
set_option maxRecDepth 100000
namespace DL
open PySem PySem.Spec PyProof.Rows L2
theorem u2 {k : Nat} {A : Around} (h : Room k A) : A.units + 1 < cLine := by have := h.un; omega
theorem u65 {k : Nat} {A : Around} (h : Room k A) : A.units + 64 < cLine := by have := h.un; omega
theorem u66 {k : Nat} {A : Around} (h : Room k A) : A.units + 65 < cLine := by have := h.un; omega
theorem u201 {k : Nat} {A : Around} (h : Room k A) : A.units + 200 < cLine := by have := h.un; omega
theorem ds_void {X : Cx} {ix : List Nat} {b : List Stmt} : PSs X b (TS' X.K ix fun _ => none) := ⟨fun pins s σ H D I q => by
  obtain ⟨Fr, FX, G, ρ, fl, R, h, _⟩ := q
  cases h⟩
theorem law_end {K : PySem.W.Frag} {H : Hp} {a : Addr} {ns : List Int} {F : FnS} {E : XK} (hS : SqL K H a (ns.map V.int)) (W : ∃ as', F [.sh (.list (ns.map PyData.int))] = some (.sh (.bool true), as')) :
    spD K 1 F [.ref a] H (fun v x => v = .bl true) E := by
  obtain ⟨as', e⟩ := W
  refine ⟨fun _ => none, H, _, _, as', rfl, ⟨fun _ _ h => h, fun _ _ h => (nomatch h), fun _ n => absurd rfl n, rfl, fun i s h => ?_, fun i j b o o' ne e1 e2 => ?_, fun _ _ h => (nomatch h)⟩, e, fun v G' H' _ _ h => ?_⟩
  · cases i with
    | zero =>
      cases h
      exact ⟨_, rfl, .lst hS (dpAll_ints ns)⟩
    | succ i => simp at h
  · cases i with
    | zero => cases e1
    | succ i => simp at e1
  · have h' : Dp K G' v (.bool true) := h
    cases h'
    rfl
end DL

set_option Elab.async false
set_option linter.all false
set_option autoImplicit false
set_option maxRecDepth 100000
namespace DL
open PySem PySem.Spec PyProof.Rows L2
/-! ### the law's own words: draws, the next, one picked -/
def drawsG : MS :=
    (sSeq (sSet 2 (eLst aNil))
    (sSeq (sSet 3 (eC (.int 7)))
    (sSeq (sFor (iRng rng1 (aCons (eCall lenG (aCons (eVar 0) aNil)) aNil)) (tName 4) (sSeq (sSet 5 (eCall absG (aCons (eCall intG (aCons (binS ixA (eVar 0) (eVar 4)) aNil)) aNil)))
    (sSeq (sSet 3 (binS modD (eCall intG (aCons (binS addD (binS addD (binS mulD (eVar 3) (eC (.int 48271))) (binS modD (eVar 5) (eC (.int 1000003)))) (eVar 4)) aNil)) (eC (.int 65537))))
    (sSeq (sSet 6 (eC (.int 0)))
    (sSeq (sIf (tB (binS (cmpD fun i j => decide (j ≤ i)) (eVar 5) (binS powD (eC (.int 10)) (eC (.int 18))))) (sSet 6 (cpM (eVar 5))) (sSeq (sExpr (mutM "list" appG (eVar 2) (aCons (frM (binS modD (eCall intG (aCons (eVar 5) aNil)) (eC (.int 997)))) aNil)))
    (sExpr (mutM "list" appG (eVar 2) (aCons (frM (binS modD (binS modD (eCall intG (aCons (binS addD (binS mulD (eVar 3) (eC (.int 69621))) (eC (.int 5))) aNil)) (eC (.int 65521))) (eC (.int 997)))) aNil)))))
    (sFor (iRng rng1 (aCons (eC (.int 60)) aNil)) (tName 7) (sIf (tB (binS (cmpD fun i j => decide (j < i)) (eVar 6) (eC (.int 0)))) (sSeq (sExpr (mutM "list" appG (eVar 2) (aCons (frM (binS modD (eCall intG (aCons (eVar 6) aNil)) (eC (.int 997)))) aNil)))
    (sSet 6 (binS divD (eVar 6) (eC (.int 997))))) sNil)))))))
    (sSeq (sFor (iRng rng1 (aCons (eVar 1) aNil)) (tName 4) (sSeq (sSet 3 (binS modD (eCall intG (aCons (binS addD (binS addD (binS mulD (eVar 3) (eC (.int 16807))) (eVar 4)) (eC (.int 1))) aNil)) (eC (.int 65537))))
    (sExpr (mutM "list" appG (eVar 2) (aCons (frM (binS modD (eCall intG (aCons (eVar 3) aNil)) (eC (.int 997)))) aNil)))))
    (sRet [] (eCut (eVar 2) oNo (oInt (eVar 1))))))))
def nextG : MS :=
    (sSeq (sAugS iaddD (eVar 0) (eC (.str ("at" : Str))) (eC (.int 1)))
    (sSeq (sIf (tB (binS (cmpD fun i j => decide (j < i)) (binS ixA (eVar 0) (eC (.str ("at" : Str)))) (eCall lenG (aCons (binS ixA (eVar 0) (eC (.str ("draws" : Str)))) aNil)))) (sRet [0] (eC (.int 0))) sNil)
    (sRet [0] (binS modD (eCall intG (aCons (binS ixA (binS ixA (eVar 0) (eC (.str ("draws" : Str)))) (binS subD (binS ixA (eVar 0) (eC (.str ("at" : Str)))) (eC (.int 1)))) aNil)) (eVar 1)))))
def drawsF : FnS := runF 2 8 [] drawsG
def nextF : FnS := runF 2 2 [0] nextG
def pickG : MS :=
    (sRet [0] (binS ixA (eVar 1) (eFn nextF (aCons (eVar 0) (aCons (frM (eCall lenG (aCons (eVar 1) aNil))) aNil)))))
def pickF : FnS := runF 2 2 [0] pickG
theorem sSeq_nx {g h : MS} {ρ ρ1 : Rho} (e : g ρ = some (.nx ρ1)) : sSeq g h ρ = h ρ1 := by
  unfold sSeq
  rw [e]
  rfl
theorem sSeq_rt {g h : MS} {ρ ρ1 : Rho} {r : Rv} (e : g ρ = some (.rt r ρ1)) : sSeq g h ρ = some (.rt r ρ1) := by
  unfold sSeq
  rw [e]
  rfl
theorem sFor_eq {f : ML} {t : MT} {b : MS} {ρ ρ1 : Rho} {ds : List Dv} (h : f ρ = some (ds, ρ1)) : sFor f t b ρ = forS t b ds ρ1 := by
  unfold sFor
  rw [h]
  rfl
theorem iRng_eq {r : List Dv → Option (List Dv)} {ga : MA} {ρ ρ1 : Rho} {rs : List Rv} {ds es : List Dv} (h : ga ρ = some (rs, ρ1)) (h1 : dats ρ1 rs = some ds) (h2 : r ds = some es) : iRng r ga ρ = some (es, ρ1) := by
  unfold iRng
  rw [h]
  simp only [Option.bind_some]
  rw [h1]
  simp only [Option.bind_some]
  rw [h2]
  rfl
theorem runF_eq {np N : Nat} {ix : List Nat} {g : MS} {as : List Sl} {fl : Fl} {z : Rv × List Sl} (h0 : okA 0 ix as = true) (h : g (as ++ List.replicate (N - np) .no) = some fl) (hz : (match fl with
  | .nx ρ => some (Rv.sh .none, outA 0 ix as ρ)
  | .rt (.sh d) ρ => some (Rv.sh d, outA 0 ix as ρ)
  | .rt (.ow o) ρ => some (Rv.ow o, outA 0 ix as ρ)
  | _ => none) = some z) : runF np N ix g as = some z := by
  unfold runF
  rw [if_pos h0, h]
  cases fl with
  | rt r ρ => cases r <;> exact hz
  | _ => exact hz
theorem forS_inv {t : MT} {b : MS} (I : Nat → Rho → Prop) : ∀ (ds : List Dv) (k : Nat) (ρ : Rho), I k ρ →
    (∀ (j : Nat) (d : Dv) (ρ : Rho), ds[j]? = some d → I (k + j) ρ → ∃ ρ1 ρ2, t d ρ = some ρ1 ∧ (b ρ1 = some (.nx ρ2) ∨ b ρ1 = some (.ct ρ2)) ∧ I (k + j + 1) ρ2) → ∃ ρ', forS t b ds ρ = some (.nx ρ') ∧ I (k + ds.length) ρ'
  | [], k, ρ, h, _ => ⟨ρ, rfl, h⟩
  | d :: ds, k, ρ, h, s => by
    obtain ⟨ρ1, ρ2, e1, e2, h2⟩ := s 0 d ρ rfl h
    obtain ⟨ρ', e3, h3⟩ := forS_inv I ds (k + 1) ρ2 h2 fun j d' ρ0 e i => by
      have := s (j + 1) d' ρ0 e (by rw [show k + (j + 1) = k + 1 + j by omega]; exact i)
      rw [show k + (j + 1) = k + 1 + j by omega] at this
      exact this
    refine ⟨ρ', ?_, ?_⟩
    · unfold forS
      rw [e1]
      simp only [Option.bind_some]
      rcases e2 with e2 | e2 <;> (rw [e2]; exact e3)
    · rw [List.length_cons, show k + (ds.length + 1) = k + 1 + ds.length by omega]
      exact h3
/-- the draws and the place -/
def W1 (ds : List Int) (n : Nat) : Ob := .dct [(.str ("draws" : Str), .list (ds.map .int)), (.str ("at" : Str), .int n)]
theorem key1 : eqKey (.str ("draws" : Str)) (.str ("at" : Str)) = false := by decide +kernel
theorem key2 : eqKey (.str ("at" : Str)) (.str ("at" : Str)) = true := by decide +kernel
theorem key3 : eqKey (.str ("draws" : Str)) (.str ("draws" : Str)) = true := by decide +kernel
theorem key4 : eqKey (.str ("at" : Str)) (.str ("draws" : Str)) = false := by decide +kernel
theorem szl : (2 : Nat) < sizeLine := by decide +kernel
theorem next_s0 (ds : List Int) (n : Nat) (s : Sl) : sAugS iaddD (eVar 0) (eC (.str ("at" : Str))) (eC (.int 1)) [.ow (W1 ds n), s] = some (.nx [.ow (W1 ds (n + 1)), s]) := by
  simp [sAugS, eVar, eC, pkM, dat, isKey, getOb, W1, getD, key1, key2, iaddD, setOb, szl, putD]
theorem atI_map (ds : List Int) (n : Nat) (h : n < ds.length) : atI (ds.map PyData.int) (n : Int) = some (.int ds[n]) := by
  unfold atI
  simp [ixN, h]

theorem szl_big : 100000 ≤ sizeLine := by decide +kernel
theorem next_ok {ds : List Int} {n : Nat} {m : Int} (hm : 0 < m) : ∃ v : Int, 0 ≤ v ∧ v < m ∧ nextF [.ow (W1 ds n), .sh (.int m)] = some (.sh (.int v), [.ow (W1 ds (n + 1)), .sh (.int m)]) := by
  by_cases h : n < ds.length
  · refine ⟨ds[n] % m, Int.emod_nonneg _ (by omega), Int.emod_lt_of_pos _ hm, ?_⟩
    have e0 := next_s0 ds n (.sh (.int m))
    have e1 : ¬ (ds.length : Int) < (n : Int) + 1 := by omega
    have e2 := atI_map ds n h
    unfold nextF runF
    simp only [okA, List.contains, List.elem, nextG, sSeq, List.cons_append, List.nil_append, List.length_nil, List.replicate, Nat.sub_self, e0, Option.bind_some, ite_true, beq_self_eq_true, Bool.true_and, Bool.and_true]
    simp [sIf, tB, binS, pkM, eVar, eC, dat, eCall, aCons, aNil, dats, lenG, ixA, isKey, W1, obD, getD, key1, key2, key3, cmpD, Rz.rv, e1, sNil, sRet, subD, intG, ixD, e2, modD, hm, outA]
  · refine ⟨0, by omega, by omega, ?_⟩
    have e0 := next_s0 ds n (.sh (.int m))
    have e1 : (ds.length : Int) < (n : Int) + 1 := by omega
    unfold nextF runF
    simp only [okA, List.contains, List.elem, nextG, sSeq, List.cons_append, List.nil_append, List.length_nil, List.replicate, Nat.sub_self, e0, Option.bind_some, ite_true, beq_self_eq_true, Bool.true_and, Bool.and_true]
    simp [sIf, tB, binS, pkM, eVar, eC, dat, eCall, aCons, aNil, dats, lenG, ixA, isKey, W1, obD, getD, key1, key2, key3, cmpD, Rz.rv, e1, sNil, sRet, outA]
theorem pick_ok {ds : List Int} {n : Nat} {xs : List Dv} (hx : xs ≠ []) : ∃ v, v ∈ xs ∧ pickF [.ow (W1 ds n), .sh (.list xs)] = some (.sh v, [.ow (W1 ds (n + 1)), .sh (.list xs)]) := by
  have hl : 0 < xs.length := List.length_pos_iff.mpr hx
  obtain ⟨v, h0, h1, e⟩ := next_ok (ds := ds) (n := n) (m := xs.length) (by omega)
  obtain ⟨j, rfl⟩ := Int.eq_ofNat_of_zero_le h0
  have hj : j < xs.length := by omega
  refine ⟨xs[j], List.getElem_mem _, ?_⟩
  have e2 : atI xs (j : Int) = some xs[j] := atI_nat (List.getElem?_eq_getElem hj)
  unfold pickF runF
  simp [okA, pickG, sRet, binS, pkM, eVar, eFn, aCons, aNil, frM, eCall, dats, dat, lenG, Rz.rv, toSls, toSl, alsOk, als, e, wback, ixA, ixD, e2, outA]
theorem mul_big {i : Int} {j : Int} (h : -(2 ^ 64) < j ∧ j < 2 ^ 64) : mulD (.int i) (.int j) = some (.sh (.int (i * j))) := by
  unfold mulD
  simp only
  rw [if_pos (.inr h)]
theorem range1_eval {n : Nat} (h : n < 2 ^ 62) : rng1 [.int (n : Int)] = some (rangeD 0 n) := by
  unfold rng1
  have : bnd62 (n : Int) = true := by unfold bnd62; exact decide_eq_true ⟨by omega, by omega⟩
  simp [this]
theorem rangeD_len (lo : Int) (n : Nat) : (rangeD lo n).length = n := by simp [rangeD]
def inG : MS := sIf (tB (binS (cmpD fun i j => decide (j < i)) (eVar 6) (eC (.int 0)))) (sSeq (sExpr (mutM "list" appG (eVar 2) (aCons (frM (binS modD (eCall intG (aCons (eVar 6) aNil)) (eC (.int 997)))) aNil)))
    (sSet 6 (binS divD (eVar 6) (eC (.int 997))))) sNil
theorem inG_ok (S s1 s3 s4 s5 : Sl) (L : Nat) (hL : L + 60 ≤ 10000) (xs : List Int) (hx : xs.length ≤ L) (r : Int) (s7 : Sl) :
    ∃ ρ', sFor (iRng rng1 (aCons (eC (.int 60)) aNil)) (tName 7) inG [S, s1, .ow (.lst (xs.map .int)), s3, s4, s5, .sh (.int r), s7] = some (.nx ρ') ∧
      ∃ (ys : List Int) (r' : Int) (s7' : Sl), ρ' = [S, s1, .ow (.lst (ys.map .int)), s3, s4, s5, .sh (.int r'), s7'] ∧ ys.length ≤ L + 60 := by
  have e : rng1 [.int 60] = some (rangeD 0 60) := range1_eval (n := 60) (by decide)
  have := forS_inv (t := tName 7) (b := inG) (fun k ρ => ∃ (ys : List Int) (r' : Int) (s7' : Sl), ρ = [S, s1, .ow (.lst (ys.map .int)), s3, s4, s5, .sh (.int r'), s7'] ∧ ys.length ≤ L + k) (rangeD 0 60) 0 _ ⟨xs, r, s7, rfl, hx⟩ fun j d ρ hd hI => by
    obtain ⟨hj, rfl⟩ := rangeD_get hd
    obtain ⟨ys, r', s7', rfl, hl⟩ := hI
    have hz : ys.length < sizeLine := by have := szl_big; omega
    by_cases hr : 0 < r'
    · refine ⟨_, _, rfl, .inl ?_, ys ++ [r' % 997], r' / 997, .sh (.int (0 + j)), rfl, by simp; omega⟩
      simp [inG, sIf, tB, binS, pkM, eVar, eC, dat, cmpD, Rz.rv, hr, sSeq, sExpr, mutM, isOb, obT, aCons, aNil, frM, eCall, dats, intG, modD, shs, appG, hz, sSet, divD]
    · refine ⟨_, _, rfl, .inl ?_, ys, r', .sh (.int (0 + j)), rfl, by omega⟩
      simp [inG, sIf, tB, binS, pkM, eVar, eC, dat, cmpD, Rz.rv, hr, sNil]
  obtain ⟨ρ', e1, h1⟩ := this
  refine ⟨ρ', ?_, ?_⟩
  · unfold sFor iRng
    simp [aCons, aNil, eC, dats, dat, e, e1]
  · rw [rangeD_len] at h1
    simpa using h1
theorem pow18 : powD (.int 10) (.int 18) = some (.sh (.int 1000000000000000000)) := rfl
def outG : MS := (sSeq (sSet 5 (eCall absG (aCons (eCall intG (aCons (binS ixA (eVar 0) (eVar 4)) aNil)) aNil)))
    (sSeq (sSet 3 (binS modD (eCall intG (aCons (binS addD (binS addD (binS mulD (eVar 3) (eC (.int 48271))) (binS modD (eVar 5) (eC (.int 1000003)))) (eVar 4)) aNil)) (eC (.int 65537))))
    (sSeq (sSet 6 (eC (.int 0)))
    (sSeq (sIf (tB (binS (cmpD fun i j => decide (j ≤ i)) (eVar 5) (binS powD (eC (.int 10)) (eC (.int 18))))) (sSet 6 (cpM (eVar 5))) (sSeq (sExpr (mutM "list" appG (eVar 2) (aCons (frM (binS modD (eCall intG (aCons (eVar 5) aNil)) (eC (.int 997)))) aNil)))
    (sExpr (mutM "list" appG (eVar 2) (aCons (frM (binS modD (binS modD (eCall intG (aCons (binS addD (binS mulD (eVar 3) (eC (.int 69621))) (eC (.int 5))) aNil)) (eC (.int 65521))) (eC (.int 997)))) aNil)))))
    (sFor (iRng rng1 (aCons (eC (.int 60)) aNil)) (tName 7) inG)))))
def lastG : MS := (sSeq (sSet 3 (binS modD (eCall intG (aCons (binS addD (binS addD (binS mulD (eVar 3) (eC (.int 16807))) (eVar 4)) (eC (.int 1))) aNil)) (eC (.int 65537))))
    (sExpr (mutM "list" appG (eVar 2) (aCons (frM (binS modD (eCall intG (aCons (eVar 3) aNil)) (eC (.int 997)))) aNil))))
theorem drawsG_eq : drawsG = (sSeq (sSet 2 (eLst aNil)) (sSeq (sSet 3 (eC (.int 7))) (sSeq (sFor (iRng rng1 (aCons (eCall lenG (aCons (eVar 0) aNil)) aNil)) (tName 4) outG)
    (sSeq (sFor (iRng rng1 (aCons (eVar 1) aNil)) (tName 4) lastG) (sRet [] (eCut (eVar 2) oNo (oInt (eVar 1)))))))) := rfl
theorem mulA (i : Int) : mulD (.int i) (.int 48271) = some (.sh (.int (i * 48271))) := mul_big (by decide)
theorem mulB (i : Int) : mulD (.int i) (.int 69621) = some (.sh (.int (i * 69621))) := mul_big (by decide)
theorem mulC (i : Int) : mulD (.int i) (.int 16807) = some (.sh (.int (i * 16807))) := mul_big (by decide)
theorem outG_ok (ns : List Int) (j : Nat) (hj : j < ns.length) (ys : List Int) (hy : ys.length ≤ 64 * j) (hn : ns.length ≤ 63) (mx : Int) (s1 s5 s6 s7 : Sl) :
    ∃ (zs : List Int) (mx' : Int) (t5 t6 t7 : Sl), outG [.sh (.list (ns.map .int)), s1, .ow (.lst (ys.map .int)), .sh (.int mx), .sh (.int (0 + (j : Int))), s5, s6, s7] =
      some (.nx [.sh (.list (ns.map .int)), s1, .ow (.lst (zs.map .int)), .sh (.int mx'), .sh (.int (0 + (j : Int))), t5, t6, t7]) ∧ zs.length ≤ 64 * (j + 1) := by
  have e2 := atI_map ns j hj
  have hz : ys.length < sizeLine := by have := szl_big; omega
  have hz2 : ys.length + 1 < sizeLine := by have := szl_big; omega
  generalize hc : (if ns[j] < 0 then -ns[j] else ns[j]) = c
  by_cases hr : (1000000000000000000 : Int) ≤ c
  · obtain ⟨ρ', e, zs, r', s7', rfl, hl⟩ := inG_ok (.sh (.list (ns.map .int))) (s1) (.sh (.int ((mx * 48271 + c % 1000003 + (0 + (j : Int))) % 65537))) (.sh (.int (0 + (j : Int)))) (.sh (.int c)) (64 * j) (by omega) ys hy c s7
    refine ⟨zs, (mx * 48271 + c % 1000003 + (0 + (j : Int))) % 65537, .sh (.int c), .sh (.int r'), s7', ?_, by omega⟩
    unfold outG
    simp [sSeq, sSet, eCall, aCons, aNil, binS, pkM, eVar, dats, dat, ixA, ixD, e2, intG, absG, hc, Rz.rv, eC, mulA, modD, addD, sIf, tB, cmpD, pow18, hr, cpM]
    simpa using e
  · obtain ⟨ρ', e, zs, r', s7', rfl, hl⟩ := inG_ok (.sh (.list (ns.map .int))) (s1) (.sh (.int ((mx * 48271 + c % 1000003 + (0 + (j : Int))) % 65537))) (.sh (.int (0 + (j : Int)))) (.sh (.int c)) (64 * j + 2) (by omega) (ys ++ [c % 997, ((mx * 48271 + c % 1000003 + (0 + (j : Int))) % 65537 * 69621 + 5) % 65521 % 997]) (by simp; omega) 0 s7
    refine ⟨zs, (mx * 48271 + c % 1000003 + (0 + (j : Int))) % 65537, .sh (.int c), .sh (.int r'), s7', ?_, by omega⟩
    unfold outG
    simp [sSeq, sSet, eCall, aCons, aNil, binS, pkM, eVar, dats, dat, ixA, ixD, e2, intG, absG, hc, Rz.rv, eC, mulA, mulB, modD, addD, sIf, tB, cmpD, pow18, hr, cpM, sExpr, mutM, isOb, obT, frM, shs, appG, hz, hz2]
    simpa using e
theorem draws_ok (ns : List Int) (hn : ns.length ≤ 63) (m : Nat) (hm : m ≤ 1000) : ∃ ds : List Int, ds.length = m ∧ drawsF [.sh (.list (ns.map .int)), .sh (.int (m : Int))] = some (.ow (.lst (ds.map .int)), [.sh (.list (ns.map .int)), .sh (.int (m : Int))]) := by
  obtain ⟨ρ1, e1, ys, mx, s4, s5, s6, s7, rfl, hy⟩ := forS_inv (t := tName 4) (b := outG) (fun k ρ => ∃ (ys : List Int) (mx : Int) (s4 s5 s6 s7 : Sl), ρ = [.sh (.list (ns.map .int)), .sh (.int (m : Int)), .ow (.lst (ys.map .int)), .sh (.int mx), s4, s5, s6, s7] ∧ ys.length ≤ 64 * k)
    (rangeD 0 ns.length) 0 [.sh (.list (ns.map .int)), .sh (.int (m : Int)), .ow (.lst []), .sh (.int 7), .no, .no, .no, .no] ⟨[], 7, .no, .no, .no, .no, rfl, by simp⟩ fun j d ρ hd hI => by
      obtain ⟨hj, rfl⟩ := rangeD_get hd
      obtain ⟨ys, mx, s4, s5, s6, s7, rfl, hy⟩ := hI
      obtain ⟨zs, mx', t5, t6, t7, e, hz⟩ := outG_ok ns j hj ys (by simpa using hy) hn mx (.sh (.int (m : Int))) s5 s6 s7
      exact ⟨_, _, rfl, .inl e, zs, mx', _, t5, t6, t7, rfl, by simpa using hz⟩
  rw [rangeD_len] at hy
  obtain ⟨ρ2, e2, zs, mx2, t4, t5, t6, t7, rfl, hz⟩ := forS_inv (t := tName 4) (b := lastG) (fun k ρ => ∃ (zs : List Int) (mx : Int) (s4 s5 s6 s7 : Sl), ρ = [.sh (.list (ns.map .int)), .sh (.int (m : Int)), .ow (.lst (zs.map .int)), .sh (.int mx), s4, s5, s6, s7] ∧ zs.length = ys.length + k)
    (rangeD 0 m) 0 _ ⟨ys, mx, s4, s5, s6, s7, rfl, rfl⟩ fun j d ρ hd hI => by
      obtain ⟨hj, rfl⟩ := rangeD_get hd
      obtain ⟨zs, mx, s4, s5, s6, s7, rfl, hz⟩ := hI
      have hz2 : zs.length < sizeLine := by have := szl_big; omega
      refine ⟨_, _, rfl, .inl ?_, zs ++ [(mx * 16807 + (0 + (j : Int)) + 1) % 65537 % 997], (mx * 16807 + (0 + (j : Int)) + 1) % 65537, .sh (.int (0 + (j : Int))), s5, s6, s7, rfl, by simp; omega⟩
      simp [lastG, sSeq, sSet, eCall, aCons, aNil, binS, pkM, eVar, dats, dat, intG, Rz.rv, eC, mulC, modD, addD, sExpr, mutM, isOb, obT, frM, shs, appG, hz2]
  rw [rangeD_len] at hz
  have r1 : rng1 [.int (ns.length : Int)] = some (rangeD 0 ns.length) := range1_eval (by omega)
  have r2 : rng1 [.int (m : Int)] = some (rangeD 0 m) := range1_eval (by omega)
  have c1 : cutD (zs.map PyData.int) none (some (m : Int)) = (zs.take m).map .int := by
    unfold cutD
    rw [show HT.sIx (zs.map PyData.int).length (zs.map PyData.int).length (some (m : Int)) = min m (zs.map PyData.int).length from HT.sIx_nat _ _ m]
    rw [show HT.sIx (zs.map PyData.int).length 0 none = 0 from rfl, List.drop_zero, Nat.sub_zero, List.length_map, Nat.min_eq_left (by omega), List.map_take]
  have hl : (zs.take m).length = m := by rw [List.length_take]; omega
  generalize zs.take m = us at c1 hl
  have a1 : sSet 2 (eLst aNil) [.sh (.list (ns.map .int)), .sh (.int (m : Int)), .no, .no, .no, .no, .no, .no] = some (.nx [.sh (.list (ns.map .int)), .sh (.int (m : Int)), .ow (.lst []), .no, .no, .no, .no, .no]) := by simp [sSet, eLst, aNil, shs]
  have a2 : sSet 3 (eC (.int 7)) [.sh (.list (ns.map .int)), .sh (.int (m : Int)), .ow (.lst []), .no, .no, .no, .no, .no] = some (.nx [.sh (.list (ns.map .int)), .sh (.int (m : Int)), .ow (.lst []), .sh (.int 7), .no, .no, .no, .no]) := by simp [sSet, eC]
  have a3 : sFor (iRng rng1 (aCons (eCall lenG (aCons (eVar 0) aNil)) aNil)) (tName 4) outG [.sh (.list (ns.map .int)), .sh (.int (m : Int)), .ow (.lst []), .sh (.int 7), .no, .no, .no, .no] = _ := (sFor_eq (ds := rangeD 0 ns.length) (ρ1 := [.sh (.list (ns.map .int)), .sh (.int (m : Int)), .ow (.lst []), .sh (.int 7), .no, .no, .no, .no]) (iRng_eq (rs := [.sh (.int (ns.length : Int))]) (by simp [aCons, aNil, eCall, eVar, dats, dat, lenG, Rz.rv]) rfl r1)).trans e1
  have a4 : sFor (iRng rng1 (aCons (eVar 1) aNil)) (tName 4) lastG [.sh (.list (ns.map .int)), .sh (.int (m : Int)), .ow (.lst (ys.map .int)), .sh (.int mx), s4, s5, s6, s7] = _ := (sFor_eq (ds := rangeD 0 m) (ρ1 := [.sh (.list (ns.map .int)), .sh (.int (m : Int)), .ow (.lst (ys.map .int)), .sh (.int mx), s4, s5, s6, s7]) (iRng_eq (rs := [.sh (.int (m : Int))]) (by simp [aCons, aNil, eVar]) rfl r2)).trans e2
  have a5 : sRet [] (eCut (eVar 2) oNo (oInt (eVar 1))) [.sh (.list (ns.map .int)), .sh (.int (m : Int)), .ow (.lst (zs.map .int)), .sh (.int mx2), t4, t5, t6, t7] = some (.rt (.ow (.lst (us.map .int))) [.sh (.list (ns.map .int)), .sh (.int (m : Int)), .ow (.lst (zs.map .int)), .sh (.int mx2), t4, t5, t6, t7]) := by
    simp [sRet, eCut, pkM, eVar, oNo, oInt, dat, obD, cutG, c1, Rz.rv]
  refine ⟨us, hl, ?_⟩
  have a6 : drawsG [.sh (.list (ns.map .int)), .sh (.int (m : Int)), .no, .no, .no, .no, .no, .no] = some (.rt (.ow (.lst (us.map .int))) [.sh (.list (ns.map .int)), .sh (.int (m : Int)), .ow (.lst (zs.map .int)), .sh (.int mx2), t4, t5, t6, t7]) := by
    rw [drawsG_eq, sSeq_nx a1, sSeq_nx a2, sSeq_nx a3, sSeq_nx a4, a5]
  exact runF_eq rfl a6 rfl
end DL

set_option Elab.async false
set_option linter.all false
set_option autoImplicit false
set_option maxRecDepth 100000
namespace DL
open PySem PySem.Spec PyProof.Rows L2
/-! ### one step each -/
theorem sIf_t {t : MB} {g h : MS} {ρ ρ1 : Rho} (e : t ρ = some (true, ρ1)) : sIf t g h ρ = g ρ1 := by
  unfold sIf
  rw [e]
  rfl
theorem sIf_f {t : MB} {g h : MS} {ρ ρ1 : Rho} (e : t ρ = some (false, ρ1)) : sIf t g h ρ = h ρ1 := by
  unfold sIf
  rw [e]
  rfl
theorem pk_sh {f : M} {ρ ρ1 : Rho} {d : Dv} (e : f ρ = some (.sh d, ρ1)) : pkM f ρ = some (.sh d, ρ1) := by
  unfold pkM
  rw [e]
  rfl
theorem pk_ow {f : M} {ρ ρ1 : Rho} {ds : List Dv} (e : f ρ = some (.ow (.lst ds), ρ1)) : pkM f ρ = some (.sh (.list ds), ρ1) := by
  unfold pkM
  rw [e]
  rfl
theorem fr_sh {f : M} {ρ ρ1 : Rho} {d : Dv} (e : f ρ = some (.sh d, ρ1)) : frM f ρ = some (.sh d, ρ1) := by
  unfold frM
  rw [e]
  rfl
theorem fr_ow {f : M} {ρ ρ1 : Rho} {ds : List Dv} (e : f ρ = some (.ow (.lst ds), ρ1)) : frM f ρ = some (.sh (.list ds), ρ1) := by
  unfold frM
  rw [e]
  rfl
theorem bin_sh {g : Dv → Dv → Option Rz} {fa fb : M} {ρ ρ1 ρ2 : Rho} {d e : Dv} {z : Rz} (h1 : pkM fa ρ = some (.sh d, ρ1)) (h2 : pkM fb ρ1 = some (.sh e, ρ2)) (h3 : g d e = some z) : binS g fa fb ρ = some (z.rv, ρ2) := by
  unfold binS
  rw [h1]
  simp only [Option.bind_some]
  rw [h2]
  simp only [Option.bind_some, dat]
  rw [h3]
  rfl
theorem sSet_sh {i : Nat} {f : M} {ρ ρ1 : Rho} {d : Dv} (e : f ρ = some (.sh d, ρ1)) : sSet i f ρ = some (.nx (ρ1.set i (.sh d))) := by
  unfold sSet
  rw [e]
  rfl
theorem sSet_ow {i : Nat} {f : M} {ρ ρ1 : Rho} {o : Ob} (e : f ρ = some (.ow o, ρ1)) : sSet i f ρ = some (.nx (ρ1.set i (.ow o))) := by
  unfold sSet
  rw [e]
  rfl
theorem sRet_sh {ix : List Nat} {f : M} {ρ ρ1 : Rho} {d : Dv} (e : f ρ = some (.sh d, ρ1)) : sRet ix f ρ = some (.rt (.sh d) ρ1) := by
  unfold sRet
  rw [e]
  rfl
theorem sRet_ow {ix : List Nat} {f : M} {ρ ρ1 : Rho} {o : Ob} (e : f ρ = some (.ow o, ρ1)) : sRet ix f ρ = some (.rt (.ow o) ρ1) := by
  unfold sRet
  rw [e]
  rfl
theorem aCons_eq {f : M} {g : MA} {ρ ρ1 ρ2 : Rho} {r : Rv} {rs : List Rv} (e : f ρ = some (r, ρ1)) (h : g ρ1 = some (rs, ρ2)) : aCons f g ρ = some (r :: rs, ρ2) := by
  unfold aCons
  rw [e]
  simp only [Option.bind_some]
  rw [h]
  rfl
theorem eCall_sh {g : List Dv → Option Rz} {fa : MA} {ρ ρ1 : Rho} {rs : List Rv} {ds : List Dv} {z : Rz} (h1 : fa ρ = some (rs, ρ1)) (h2 : dats ρ1 rs = some ds) (h3 : g ds = some z) : eCall g fa ρ = some (z.rv, ρ1) := by
  unfold eCall
  rw [h1]
  simp only [Option.bind_some]
  rw [h2]
  simp only [Option.bind_some]
  rw [h3]
  rfl
theorem toSls_sh (ρ : Rho) : ∀ ds : List Dv, toSls ρ (ds.map .sh) = some (ds.map .sh)
  | [] => rfl
  | d :: ds => by
    show (toSl ρ (.sh d)).bind _ = _
    simp only [toSl, Option.bind_some, toSls_sh ρ ds]
    rfl
theorem als_sh : ∀ ds : List Dv, als (ds.map .sh) = []
  | [] => rfl
  | d :: ds => by simpa [als] using als_sh ds
theorem wback_sh (ρ : Rho) : ∀ (ds : List Dv) (ss : List Sl), wback ρ (ds.map .sh) ss = ρ
  | [], _ => by simp [wback]
  | d :: ds, [] => by simp [wback]
  | d :: ds, s :: ss => by simpa [wback] using wback_sh ρ ds ss
theorem eFn_sh {F : FnS} {ga : MA} {ρ ρ1 : Rho} {as : List Dv} {d : Dv} {bs : List Sl} (h1 : ga ρ = some (as.map .sh, ρ1)) (h2 : F (as.map .sh) = some (.sh d, bs)) : eFn F ga ρ = some (.sh d, ρ1) := by
  unfold eFn
  rw [h1]
  simp only [Option.bind_some, toSls_sh]
  rw [if_pos (by unfold alsOk; rw [als_sh]; rfl), h2]
  simp only [Option.bind_some, wback_sh]
theorem eFn_ow {F : FnS} {ga : MA} {ρ ρ1 : Rho} {as : List Dv} {o : Ob} {bs : List Sl} (h1 : ga ρ = some (as.map .sh, ρ1)) (h2 : F (as.map .sh) = some (.ow o, bs)) : eFn F ga ρ = some (.ow o, ρ1) := by
  unfold eFn
  rw [h1]
  simp only [Option.bind_some, toSls_sh]
  rw [if_pos (by unfold alsOk; rw [als_sh]; rfl), h2]
  simp only [Option.bind_some, wback_sh]
/-! ### list comprehensions with one name -/
theorem lcS1 {i : Nat} {c : MB} {fe : M} {ρ0 : Rho} (b : Dv → Bool) (e : Dv → Dv) : ∀ (ds acc : List Dv) (s : Sl), (∀ d ∈ ds, c (ρ0.set i (.sh d)) = some (b d, ρ0.set i (.sh d))) → (∀ d ∈ ds, b d = true → frM fe (ρ0.set i (.sh d)) = some (.sh (e d), ρ0.set i (.sh d))) →
    acc.length + ds.length ≤ sizeLine → ∃ s', lcS [i] (tName i) c fe ds acc (ρ0.set i s) = some (acc ++ (ds.filter b).map e, ρ0.set i s')
  | [], acc, s, _, _, _ => ⟨s, by simp [lcS]⟩
  | d :: ds, acc, s, hc, he, hl => by
    have h1 := hc d (List.mem_cons_self ..)
    have h2 := he d (List.mem_cons_self ..)
    rw [List.length_cons] at hl
    unfold lcS
    simp only [tName, wipeR, List.set_set, Option.bind_some, h1]
    cases hb : b d with
    | true =>
      rw [if_pos rfl, h2 hb]
      simp only [Option.bind_some]
      rw [if_pos (by omega)]
      obtain ⟨s', e'⟩ := lcS1 b e ds (acc ++ [e d]) (.sh d) (fun x hx => hc x (List.mem_cons_of_mem _ hx)) (fun x hx => he x (List.mem_cons_of_mem _ hx)) (by simp; omega)
      exact ⟨s', by rw [e', List.filter_cons_of_pos hb]; simp⟩
    | false =>
      rw [if_neg (by decide)]
      obtain ⟨s', e'⟩ := lcS1 b e ds acc (.sh d) (fun x hx => hc x (List.mem_cons_of_mem _ hx)) (fun x hx => he x (List.mem_cons_of_mem _ hx)) (by omega)
      exact ⟨s', by rw [e', List.filter_cons_of_neg (by simp [hb])]⟩
theorem set_back {α : Type} (l : List α) (i : Nat) (s s0 : α) (h : l[i]? = some s0) : (l.set i s).set i s0 = l := by
  rw [List.set_set]
  apply List.ext_getElem?
  intro j
  by_cases hj : i = j
  · subst hj
    rw [List.getElem?_set_self (List.getElem?_eq_some_iff.mp h).1, h]
  · rw [List.getElem?_set_ne hj]
theorem eLc1 {i : Nat} {fi : ML} {c : MB} {fe : M} {ρ : Rho} {s0 : Sl} {ds : List Dv} (b : Dv → Bool) (e : Dv → Dv) (hfi : fi ρ = some (ds, ρ)) (h0 : ρ[i]? = some s0) (hs : ∀ o, s0 ≠ .ow o) (hl : ds.length ≤ sizeLine)
    (hc : ∀ d ∈ ds, c (ρ.set i (.sh d)) = some (b d, ρ.set i (.sh d))) (he : ∀ d ∈ ds, b d = true → frM fe (ρ.set i (.sh d)) = some (.sh (e d), ρ.set i (.sh d))) :
    eLc [i] fi (tName i) c fe ρ = some (.ow (.lst ((ds.filter b).map e)), ρ) := by
  obtain ⟨s', h1⟩ := lcS1 b e ds [] s0 hc he (by simpa using hl)
  rw [show ρ.set i s0 = ρ from by
    have := set_back ρ i s0 s0 h0
    rwa [List.set_set] at this] at h1
  have hn : noOw ρ [i] = true := by
    unfold noOw
    cases s0 with
    | no => simp [h0]
    | sh d => simp [h0]
    | ow o => exact absurd rfl (hs o)
  unfold eLc
  rw [hfi]
  simp only [Option.bind_some]
  rw [if_pos hn, h1]
  simp only [Option.bind_some, putB, h0, List.nil_append]
  rw [set_back ρ i s' s0 h0]
/-! ### closed answers -/
mutual
def eqDv : Dv → Dv → Bool
  | .none, .none => true
  | .bool a, .bool b => a == b
  | .int a, .int b => decide (a = b)
  | .tuple xs, .tuple ys => eqDvs xs ys
  | .list xs, .list ys => eqDvs xs ys
  | _, _ => false
def eqDvs : List Dv → List Dv → Bool
  | [], [] => true
  | x :: xs, y :: ys => eqDv x y && eqDvs xs ys
  | _, _ => false
end
mutual
theorem eqDv_ok : ∀ (d e : Dv), eqDv d e = true → d = e
  | .none, e, h => by cases e <;> simp_all [eqDv]
  | .bool a, e, h => by cases e <;> simp_all [eqDv]
  | .int a, e, h => by cases e <;> simp_all [eqDv]
  | .str a, e, h => by cases e <;> simp_all [eqDv]
  | .dict a, e, h => by cases e <;> simp_all [eqDv]
  | .tuple xs, e, h => by
    cases e with
    | tuple ys => simp only [eqDv] at h; rw [eqDvs_ok xs ys h]
    | _ => simp [eqDv] at h
  | .list xs, e, h => by
    cases e with
    | list ys => simp only [eqDv] at h; rw [eqDvs_ok xs ys h]
    | _ => simp [eqDv] at h
theorem eqDvs_ok : ∀ (xs ys : List Dv), eqDvs xs ys = true → xs = ys
  | [], [], _ => rfl
  | x :: xs, y :: ys, h => by
    simp only [eqDvs, Bool.and_eq_true] at h
    rw [eqDv_ok x y h.1, eqDvs_ok xs ys h.2]
  | [], y :: ys, h => by simp [eqDvs] at h
  | x :: xs, [], h => by simp [eqDvs] at h
end
def eqSls : List Sl → List Dv → Bool
  | [], [] => true
  | .sh x :: xs, y :: ys => eqDv x y && eqSls xs ys
  | _, _ => false
theorem eqSls_ok : ∀ (xs : List Sl) (ys : List Dv), eqSls xs ys = true → xs = ys.map .sh
  | [], [], _ => rfl
  | .sh x :: xs, y :: ys, h => by
    simp only [eqSls, Bool.and_eq_true] at h
    rw [eqDv_ok x y h.1, eqSls_ok xs ys h.2]
    rfl
  | [], y :: ys, h => by simp [eqSls] at h
  | .sh x :: xs, [], h => by simp [eqSls] at h
  | .no :: xs, _, h => by simp [eqSls] at h
  | .ow _ :: xs, _, h => by simp [eqSls] at h
/-- F at shared data gives the data d -/
def gives (F : FnS) (as : List Dv) (d : Dv) : Bool := match F (as.map .sh) with
  | some (.sh e, bs) => eqDv e d && eqSls bs as
  | _ => false
theorem gives_ok {F : FnS} {as : List Dv} {d : Dv} (h : gives F as d = true) : F (as.map .sh) = some (.sh d, as.map .sh) := by
  unfold gives at h
  split at h
  · rename_i e bs he
    simp only [Bool.and_eq_true] at h
    rw [he, eqDv_ok _ _ h.1, eqSls_ok _ _ h.2]
  · cases h
/-! ### comprehensions that draw -/
theorem lcW {i : Nat} {fe : M} (R : Nat → Sl → Rho) (Pv : Dv → Prop) (hR : ∀ n s s', (R n s).set i s' = R n s') (he : ∀ n d, ∃ v, Pv v ∧ frM fe (R n (.sh d)) = some (.sh v, R (n + 1) (.sh d))) : ∀ (ds acc : List Dv) (n : Nat) (s : Sl), acc.length + ds.length ≤ sizeLine →
    ∃ vs n' s', vs.length = ds.length ∧ (∀ v ∈ vs, Pv v) ∧ lcS [i] (tName i) cYes fe ds acc (R n s) = some (acc ++ vs, R n' s')
  | [], acc, n, s, _ => ⟨[], n, s, rfl, by simp, by simp [lcS]⟩
  | d :: ds, acc, n, s, hl => by
    obtain ⟨v, hv, e1⟩ := he n d
    rw [List.length_cons] at hl
    obtain ⟨vs, n', s', h1, h2, h3⟩ := lcW R Pv hR he ds (acc ++ [v]) (n + 1) (.sh d) (by simp; omega)
    refine ⟨v :: vs, n', s', by simp [h1], fun x hx => ?_, ?_⟩
    · rcases List.mem_cons.mp hx with rfl | hx
      · exact hv
      · exact h2 x hx
    · unfold lcS
      simp only [tName, wipeR, hR, Option.bind_some, cYes, if_true, e1]
      rw [if_pos (by omega), h3]
      simp
theorem eLcW {i : Nat} {fi : ML} {fe : M} (R : Nat → Sl → Rho) (Pv : Dv → Prop) (hR : ∀ n s s', (R n s).set i s' = R n s') (he : ∀ n d, ∃ v, Pv v ∧ frM fe (R n (.sh d)) = some (.sh v, R (n + 1) (.sh d))) {ρ : Rho} {s0 : Sl} {ds : List Dv} (n : Nat) (hfi : fi ρ = some (ds, R n s0)) (h0 : (R n s0)[i]? = some s0) (hs : ∀ o, s0 ≠ .ow o) (hl : ds.length ≤ sizeLine) :
    ∃ vs n', vs.length = ds.length ∧ (∀ v ∈ vs, Pv v) ∧ eLc [i] fi (tName i) cYes fe ρ = some (.ow (.lst vs), R n' s0) := by
  obtain ⟨vs, n', s', h1, h2, h3⟩ := lcW R Pv hR he ds [] n s0 (by simpa using hl)
  refine ⟨vs, n', h1, h2, ?_⟩
  have hn : noOw (R n s0) [i] = true := by
    unfold noOw
    cases s0 with
    | no => simp [h0]
    | sh d => simp [h0]
    | ow o => exact absurd rfl (hs o)
  unfold eLc
  rw [hfi]
  simp only [Option.bind_some]
  rw [if_pos hn, h3]
  simp only [Option.bind_some, putB, h0, List.nil_append, hR]
/-! ### told as due -/
def alikeG (self : FnS) : MS :=
    (sSeq (sIf (tV (unS (isiD "tuple") (eVar 1))) (sSeq (sIf (tOr' (tNo (tV (unS (isiD "tuple") (eVar 0)))) (tB (binS neqD (eCall lenG (aCons (eVar 0) aNil)) (eCall lenG (aCons (eVar 1) aNil))))) (sRet [] (eC (.bool false))) sNil)
    (sRet [] (binS eqqD (eLc [2] (iRng rng1 (aCons (eCall lenG (aCons (eVar 1) aNil)) aNil)) (tName 2) (tNo (tV (eFn self (aCons (frM (binS ixA (eVar 0) (eVar 2))) (aCons (frM (binS ixA (eVar 1) (eVar 2))) aNil))))) (eVar 2)) (eLst aNil)))) sNil)
    (sSeq (sIf (tB (binS isND (eVar 1) (eC .none))) (sRet [] (binS isND (eVar 0) (eC .none))) sNil)
    (sSeq (sIf (tV (unS (isiD "bool") (eVar 1))) (sRet [] (eAnd (unS (isiD "bool") (eVar 0)) (binS eqqD (eVar 0) (eVar 1)))) sNil)
    (sSeq (sIf (tV (unS (isiD "int") (eVar 1))) (sRet [] (eAnd (unS (isiD "int") (eVar 0)) (eAnd (eNot (unS (isiD "bool") (eVar 0))) (binS eqqD (eVar 0) (eVar 1))))) sNil)
    (sRet [] (eAnd (unS (isiD "str") (eVar 0)) (binS eqqD (eVar 0) (eVar 1))))))))
def alikeF : Nat → FnS
  | 0 => runF 2 3 [] (fun _ => none)
  | n + 1 => runF 2 3 [] (alikeG (alikeF n))
mutual
/-- ints, truths, nothing and tuples of these, so deep -/
def plainN : Nat → Dv → Bool
  | _, .none => true
  | _, .bool _ => true
  | _, .int _ => true
  | 0, .tuple _ => false
  | n + 1, .tuple xs => decide (xs.length < 1000000) && plainNs n xs
  | _, _ => false
def plainNs : Nat → List Dv → Bool
  | _, [] => true
  | n, x :: xs => plainN n x && plainNs n xs
end
theorem plainNs_all : ∀ {n : Nat} {xs : List Dv}, plainNs n xs = true → ∀ d ∈ xs, plainN n d = true
  | n, x :: xs, h, d, hd => by
    simp only [plainNs, Bool.and_eq_true] at h
    rcases List.mem_cons.mp hd with rfl | hd
    · exact h.1
    · exact plainNs_all h.2 d hd
theorem nilEq : eqqD (.list []) (.list []) = some (.sh (.bool true)) := rfl
theorem szl_6 : 1000000 ≤ sizeLine := by decide +kernel
theorem alike_ok : ∀ (n : Nat) (d : Dv), plainN n d = true → alikeF (n + 1) [.sh d, .sh d] = some (.sh (.bool true), [.sh d, .sh d]) := by
  intro n
  induction n with
  | zero =>
    intro d h
    cases d with
    | tuple xs => simp [plainN] at h
    | str z => simp [plainN] at h
    | list z => simp [plainN] at h
    | dict z => simp [plainN] at h
    | none => exact runF_eq (fl := .rt (.sh (.bool true)) [.sh .none, .sh .none, .no]) rfl (by simp [alikeG, sSeq, sIf, tV, unS, pkM, eVar, isiD, isT, Rz.rv, dat, truD, sNil, tB, binS, eC, isND, isNone, sRet]) rfl
    | bool b => exact runF_eq (fl := .rt (.sh (.bool true)) [.sh (.bool b), .sh (.bool b), .no]) rfl (by cases b <;> rfl) rfl
    | int b => exact runF_eq (fl := .rt (.sh (.bool true)) [.sh (.int b), .sh (.int b), .no]) rfl (by simp [alikeG, sSeq, sIf, tV, unS, pkM, eVar, isiD, isT, Rz.rv, dat, truD, sNil, tB, binS, eC, isND, isNone, sRet, eAnd, eNot, eqqD, eqD]) rfl
  | succ n ih =>
    intro d h
    cases d with
    | str z => simp [plainN] at h
    | list z => simp [plainN] at h
    | dict z => simp [plainN] at h
    | none => exact runF_eq (fl := .rt (.sh (.bool true)) [.sh .none, .sh .none, .no]) rfl (by simp [alikeG, sSeq, sIf, tV, unS, pkM, eVar, isiD, isT, Rz.rv, dat, truD, sNil, tB, binS, eC, isND, isNone, sRet]) rfl
    | bool b => exact runF_eq (fl := .rt (.sh (.bool true)) [.sh (.bool b), .sh (.bool b), .no]) rfl (by cases b <;> rfl) rfl
    | int b => exact runF_eq (fl := .rt (.sh (.bool true)) [.sh (.int b), .sh (.int b), .no]) rfl (by simp [alikeG, sSeq, sIf, tV, unS, pkM, eVar, isiD, isT, Rz.rv, dat, truD, sNil, tB, binS, eC, isND, isNone, sRet, eAnd, eNot, eqqD, eqD]) rfl
    | tuple xs =>
      simp only [plainN, Bool.and_eq_true, decide_eq_true_eq] at h
      have hz := szl_6
      have r1 : rng1 [.int (xs.length : Int)] = some (rangeD 0 xs.length) := range1_eval (by omega)
      have a1 : eLc [2] (iRng rng1 (aCons (eCall lenG (aCons (eVar 1) aNil)) aNil)) (tName 2) (tNo (tV (eFn (alikeF (n + 1)) (aCons (frM (binS ixA (eVar 0) (eVar 2))) (aCons (frM (binS ixA (eVar 1) (eVar 2))) aNil))))) (eVar 2) [.sh (.tuple xs), .sh (.tuple xs), .no] = some (.ow (.lst []), [.sh (.tuple xs), .sh (.tuple xs), .no]) := by
        have := eLc1 (i := 2) (fi := iRng rng1 (aCons (eCall lenG (aCons (eVar 1) aNil)) aNil)) (c := tNo (tV (eFn (alikeF (n + 1)) (aCons (frM (binS ixA (eVar 0) (eVar 2))) (aCons (frM (binS ixA (eVar 1) (eVar 2))) aNil))))) (fe := eVar 2) (ρ := [.sh (.tuple xs), .sh (.tuple xs), .no]) (s0 := .no) (ds := rangeD 0 xs.length) (fun _ => false) id
          (iRng_eq (rs := [.sh (.int (xs.length : Int))]) (by simp [aCons, aNil, eCall, eVar, dats, dat, lenG, Rz.rv]) rfl r1) rfl (by intro o; simp) (by rw [rangeD_len]; omega) (fun d hd => by
            obtain ⟨j, hj⟩ := List.mem_iff_getElem?.mp hd
            obtain ⟨hj2, rfl⟩ := rangeD_get hj
            have e2 : atI xs (j : Int) = some xs[j] := atI_nat (List.getElem?_eq_getElem hj2)
            have e3 := ih xs[j] (plainNs_all h.2 _ (List.getElem_mem _))
            simp [tNo, tV, eFn, aCons, aNil, frM, binS, pkM, eVar, dat, ixA, ixD, e2, Rz.rv, toSls, toSl, alsOk, als, e3, wback, truD]) (fun d hd hb => nomatch hb)
        rw [show ∀ l : List Dv, l.filter (fun _ => false) = [] from fun l => by simp] at this
        exact this
      have a2 : alikeG (alikeF (n + 1)) [.sh (.tuple xs), .sh (.tuple xs), .no] = some (.rt (.sh (.bool true)) [.sh (.tuple xs), .sh (.tuple xs), .no]) := by
        have b1 : sIf (tOr' (tNo (tV (unS (isiD "tuple") (eVar 0)))) (tB (binS neqD (eCall lenG (aCons (eVar 0) aNil)) (eCall lenG (aCons (eVar 1) aNil))))) (sRet [] (eC (.bool false))) sNil [.sh (.tuple xs), .sh (.tuple xs), .no] = some (.nx [.sh (.tuple xs), .sh (.tuple xs), .no]) := by
          simp [sIf, tOr', tNo, tV, unS, pkM, eVar, isiD, isT, Rz.rv, dat, truD, tB, binS, neqD, eqD, eCall, aCons, aNil, dats, lenG, sNil]
        have b2 : sRet [] (binS eqqD (eLc [2] (iRng rng1 (aCons (eCall lenG (aCons (eVar 1) aNil)) aNil)) (tName 2) (tNo (tV (eFn (alikeF (n + 1)) (aCons (frM (binS ixA (eVar 0) (eVar 2))) (aCons (frM (binS ixA (eVar 1) (eVar 2))) aNil))))) (eVar 2)) (eLst aNil)) [.sh (.tuple xs), .sh (.tuple xs), .no] = some (.rt (.sh (.bool true)) [.sh (.tuple xs), .sh (.tuple xs), .no]) := by
          exact sRet_sh (bin_sh (pk_ow a1) (pk_ow (by simp [eLst, aNil, shs])) nilEq)
        unfold alikeG
        rw [sSeq_rt]
        rw [sIf_t (ρ1 := [.sh (.tuple xs), .sh (.tuple xs), .no]) (by simp [tV, unS, pkM, eVar, isiD, isT, Rz.rv, dat, truD])]
        rw [sSeq_nx b1, b2]
      exact runF_eq rfl a2 rfl
theorem alike_rw (n : Nat) (d : Dv) (h : plainN n d = true) : alikeF (n + 1) [.sh d, .sh d] = some (.sh (.bool true), [.sh d, .sh d]) := alike_ok n d h
end DL

set_option Elab.async false
set_option linter.all false
set_option autoImplicit false
set_option maxRecDepth 100000
set_option maxHeartbeats 4000000
namespace K93
open PySem PySem.Spec PyProof.Rows L2 DL
def topS (i : Nat) : Stmt := PySem.Challenge.pw_turnwarrant_k93_links_of_two_bridges.main.body.getD i (.Pass ⟨0, 0, 0, 0⟩)
structure Zs (mg : Str → Option Value) : Prop where
  abs : mg "abs" = none
  bool : mg "bool" = none
  int : mg "int" = none
  isinstance : mg "isinstance" = none
  len : mg "len" = none
  min : mg "min" = none
  range : mg "range" = none
  reversed : mg "reversed" = none
  str : mg "str" = none
  sum : mg "sum" = none
  tuple : mg "tuple" = none
/-! _law_draws -/
abbrev s__law_draws : Stmt := topS 15
theorem sc__law_draws : FnScope ["script", "many", "draws", "mixed", "k", "cell", "rest", "turn"] ["script", "many"] (defScope s__law_draws) := ⟨rfl, rfl, rfl, by decide +kernel, rfl, by decide +kernel, by decide +kernel⟩
def g__law_draws : MS :=
    (sSeq (sSet 2 (eLst aNil))
    (sSeq (sSet 3 (eC (.int 7)))
    (sSeq (sFor (iRng rng1 (aCons (eCall lenG (aCons (eVar 0) aNil)) aNil)) (tName 4) (sSeq (sSet 5 (eCall absG (aCons (eCall intG (aCons (binS ixA (eVar 0) (eVar 4)) aNil)) aNil)))
    (sSeq (sSet 3 (binS modD (eCall intG (aCons (binS addD (binS addD (binS mulD (eVar 3) (eC (.int 48271))) (binS modD (eVar 5) (eC (.int 1000003)))) (eVar 4)) aNil)) (eC (.int 65537))))
    (sSeq (sSet 6 (eC (.int 0)))
    (sSeq (sIf (tB (binS (cmpD fun i j => decide (j ≤ i)) (eVar 5) (binS powD (eC (.int 10)) (eC (.int 18))))) (sSet 6 (cpM (eVar 5))) (sSeq (sExpr (mutM "list" appG (eVar 2) (aCons (frM (binS modD (eCall intG (aCons (eVar 5) aNil)) (eC (.int 997)))) aNil)))
    (sExpr (mutM "list" appG (eVar 2) (aCons (frM (binS modD (binS modD (eCall intG (aCons (binS addD (binS mulD (eVar 3) (eC (.int 69621))) (eC (.int 5))) aNil)) (eC (.int 65521))) (eC (.int 997)))) aNil)))))
    (sFor (iRng rng1 (aCons (eC (.int 60)) aNil)) (tName 7) (sIf (tB (binS (cmpD fun i j => decide (j < i)) (eVar 6) (eC (.int 0)))) (sSeq (sExpr (mutM "list" appG (eVar 2) (aCons (frM (binS modD (eCall intG (aCons (eVar 6) aNil)) (eC (.int 997)))) aNil)))
    (sSet 6 (binS divD (eVar 6) (eC (.int 997))))) sNil)))))))
    (sSeq (sFor (iRng rng1 (aCons (eVar 1) aNil)) (tName 4) (sSeq (sSet 3 (binS modD (eCall intG (aCons (binS addD (binS addD (binS mulD (eVar 3) (eC (.int 16807))) (eVar 4)) (eC (.int 1))) aNil)) (eC (.int 65537))))
    (sExpr (mutM "list" appG (eVar 2) (aCons (frM (binS modD (eCall intG (aCons (eVar 3) aNil)) (eC (.int 997)))) aNil)))))
    (sRet [] (eCut (eVar 2) oNo (oInt (eVar 1))))))))
def F__law_draws : FnS := runF 2 8 [] g__law_draws
/-! _law_next -/
abbrev s__law_next : Stmt := topS 16
theorem sc__law_next : FnScope ["w", "many"] ["w", "many"] (defScope s__law_next) := ⟨rfl, rfl, rfl, by decide +kernel, rfl, by decide +kernel, by decide +kernel⟩
def g__law_next : MS :=
    (sSeq (sAugS iaddD (eVar 0) (eC (.str ("at" : Str))) (eC (.int 1)))
    (sSeq (sIf (tB (binS (cmpD fun i j => decide (j < i)) (binS ixA (eVar 0) (eC (.str ("at" : Str)))) (eCall lenG (aCons (binS ixA (eVar 0) (eC (.str ("draws" : Str)))) aNil)))) (sRet [0] (eC (.int 0))) sNil)
    (sRet [0] (binS modD (eCall intG (aCons (binS ixA (binS ixA (eVar 0) (eC (.str ("draws" : Str)))) (binS subD (binS ixA (eVar 0) (eC (.str ("at" : Str)))) (eC (.int 1)))) aNil)) (eVar 1)))))
def F__law_next : FnS := runF 2 2 [0] g__law_next
/-! _law_pick -/
abbrev s__law_pick : Stmt := topS 17
theorem sc__law_pick : FnScope ["w", "rows"] ["w", "rows"] (defScope s__law_pick) := ⟨rfl, rfl, rfl, by decide +kernel, rfl, by decide +kernel, by decide +kernel⟩
def g__law_pick : MS :=
    (sRet [0] (binS ixA (eVar 1) (eFn F__law_next (aCons (eVar 0) (aCons (frM (eCall lenG (aCons (eVar 1) aNil))) aNil)))))
def F__law_pick : FnS := runF 2 2 [0] g__law_pick
/-! _law_form -/
abbrev s__law_form : Stmt := topS 20
theorem sc__law_form : FnScope ["p", "q", "r"] ["p", "q"] (defScope s__law_form) := ⟨rfl, rfl, rfl, by decide +kernel, rfl, by decide +kernel, by decide +kernel⟩
def g__law_form : MS :=
    (sSeq (sIf (tB (binS eqqD (eVar 0) (eC (.int 1)))) (sRet [] (eTup (aCons (eC (.int 1)) (aCons (eC (.int 0)) aNil)))) sNil)
    (sRet [] (eTup (aCons (frM (eVar 0)) (aCons (frM (eCall minG (aCons (eLc [2] (iRng rng1 (aCons (eVar 0) aNil)) (tName 2) (tOr' (tB (binS eqqD (eVar 2) (eVar 1))) (tB (binS eqqD (binS modD (eCall intG (aCons (binS mulD (eVar 1) (eVar 2)) aNil)) (eVar 0)) (eC (.int 1))))) (eVar 2)) aNil))) aNil)))))
def F__law_form : FnS := runF 2 3 [] g__law_form
/-! _law_row -/
abbrev s__law_row : Stmt := topS 21
theorem sc__law_row : FnScope ["p", "q", "found"] ["p", "q"] (defScope s__law_row) := ⟨rfl, rfl, rfl, by decide +kernel, rfl, by decide +kernel, by decide +kernel⟩
def g__law_row : MS :=
    (sSeq (sSet 2 (eTup aNil))
    (sSeq (whileS (tB (binS (cmpD fun i j => decide (j < i)) (eVar 1) (eC (.int 0)))) (sSeq (sSet 2 (binS addD (eVar 2) (eTup (aCons (frM (binS divD (eVar 0) (eVar 1))) aNil))))
    (sPar 0 1 (aCons (frM (eVar 1)) (aCons (frM (binS modD (eCall intG (aCons (eVar 0) aNil)) (eVar 1))) aNil)))) 1048576)
    (sRet [] (eVar 2))))
def F__law_row : FnS := runF 2 3 [] g__law_row
/-! _law_alike -/
abbrev s__law_alike : Stmt := topS 18
theorem sc__law_alike : FnScope ["told", "due", "k"] ["told", "due"] (defScope s__law_alike) := ⟨rfl, rfl, rfl, by decide +kernel, rfl, by decide +kernel, by decide +kernel⟩
def g__law_alike (self : FnS) : MS :=
    (sSeq (sIf (tV (unS (isiD "tuple") (eVar 1))) (sSeq (sIf (tOr' (tNo (tV (unS (isiD "tuple") (eVar 0)))) (tB (binS neqD (eCall lenG (aCons (eVar 0) aNil)) (eCall lenG (aCons (eVar 1) aNil))))) (sRet [] (eC (.bool false))) sNil)
    (sRet [] (binS eqqD (eLc [2] (iRng rng1 (aCons (eCall lenG (aCons (eVar 1) aNil)) aNil)) (tName 2) (tNo (tV (eFn self (aCons (frM (binS ixA (eVar 0) (eVar 2))) (aCons (frM (binS ixA (eVar 1) (eVar 2))) aNil))))) (eVar 2)) (eLst aNil)))) sNil)
    (sSeq (sIf (tB (binS isND (eVar 1) (eC .none))) (sRet [] (binS isND (eVar 0) (eC .none))) sNil)
    (sSeq (sIf (tV (unS (isiD "bool") (eVar 1))) (sRet [] (eAnd (unS (isiD "bool") (eVar 0)) (binS eqqD (eVar 0) (eVar 1)))) sNil)
    (sSeq (sIf (tV (unS (isiD "int") (eVar 1))) (sRet [] (eAnd (unS (isiD "int") (eVar 0)) (eAnd (eNot (unS (isiD "bool") (eVar 0))) (binS eqqD (eVar 0) (eVar 1))))) sNil)
    (sRet [] (eAnd (unS (isiD "str") (eVar 0)) (binS eqqD (eVar 0) (eVar 1))))))))
def F__law_alike : Nat → FnS
  | 0 => runF 2 3 [] (fun _ => none)
  | n + 1 => runF 2 3 [] (g__law_alike (F__law_alike n))
/-! bridge_row -/
abbrev s_bridge_row : Stmt := topS 9
theorem sc_bridge_row : FnScope ["pair", "p", "q", "found"] ["pair"] (defScope s_bridge_row) := ⟨rfl, rfl, rfl, by decide +kernel, rfl, by decide +kernel, by decide +kernel⟩
def g_bridge_row : MS :=
    (sSeq (sAsg (eVar 0) (tTupT [(tName 1), (tName 2)]))
    (sSeq (sSet 3 (eLst aNil))
    (sSeq (whileS (tB (binS (cmpD fun i j => decide (j < i)) (eVar 2) (eC (.int 0)))) (sSeq (sExpr (mutM "list" appG (eVar 3) (aCons (frM (binS divD (eVar 1) (eVar 2))) aNil)))
    (sPar 1 2 (aCons (frM (eVar 2)) (aCons (frM (binS modD (eVar 1) (eVar 2))) aNil)))) 1048576)
    (sRet [] (eCall tupleG (aCons (eVar 3) aNil))))))
def F_bridge_row : FnS := runF 1 4 [] g_bridge_row
/-! bridge_of -/
abbrev s_bridge_of : Stmt := topS 10
theorem sc_bridge_of : FnScope ["row", "p", "q", "number"] ["row"] (defScope s_bridge_of) := ⟨rfl, rfl, rfl, by decide +kernel, rfl, by decide +kernel, by decide +kernel⟩
def g_bridge_of : MS :=
    (sSeq (sAsg (eTup (aCons (eC (.int 1)) (aCons (eC (.int 0)) aNil))) (tTupT [(tName 1), (tName 2)]))
    (sSeq (sFor (iRevS (eVar 0)) (tName 3) (sPar 1 2 (aCons (frM (binS addD (binS mulD (eVar 3) (eVar 1)) (eVar 2))) (aCons (frM (eVar 1)) aNil))))
    (sRet [] (eTup (aCons (frM (eVar 1)) (aCons (frM (eVar 2)) aNil))))))
def F_bridge_of : FnS := runF 1 4 [] g_bridge_of
/-! undone_number -/
abbrev s_undone_number : Stmt := topS 3
theorem sc_undone_number : FnScope ["p", "x", "one", "other", "a", "b", "many"] ["p", "x"] (defScope s_undone_number) := ⟨rfl, rfl, rfl, by decide +kernel, rfl, by decide +kernel, by decide +kernel⟩
def g_undone_number : MS :=
    (sSeq (sPar 2 3 (aCons (frM (eVar 0)) (aCons (frM (binS modD (eVar 1) (eVar 0))) aNil)))
    (sSeq (sAsg (eTup (aCons (eC (.int 0)) (aCons (eC (.int 1)) aNil))) (tTupT [(tName 4), (tName 5)]))
    (sSeq (whileS (tV (eVar 3)) (sSeq (sSet 6 (binS divD (eVar 2) (eVar 3)))
    (sSeq (sPar 2 3 (aCons (frM (eVar 3)) (aCons (frM (binS subD (eVar 2) (binS mulD (eVar 6) (eVar 3)))) aNil)))
    (sPar 4 5 (aCons (frM (eVar 5)) (aCons (frM (binS subD (eVar 4) (binS mulD (eVar 6) (eVar 5)))) aNil))))) 1048576)
    (sRet [] (binS modD (eVar 4) (eVar 0))))))
def F_undone_number : FnS := runF 2 7 [] g_undone_number
/-! _undone -/
abbrev s__undone : Stmt := topS 5
theorem sc__undone : FnScope ["p", "q"] ["p", "q"] (defScope s__undone) := ⟨rfl, rfl, rfl, by decide +kernel, rfl, by decide +kernel, by decide +kernel⟩
def g__undone : MS :=
    (sRet [] (eIf (tB (binS (cmpD fun i j => decide (j < i)) (eVar 0) (eC (.int 1)))) (eFn F_undone_number (aCons (frM (eVar 0)) (aCons (frM (eVar 1)) aNil))) (eC (.int 0))))
def F__undone : FnS := runF 2 2 [] g__undone
/-! bridge_form -/
abbrev s_bridge_form : Stmt := topS 6
theorem sc_bridge_form : FnScope ["pair", "p", "q"] ["pair"] (defScope s_bridge_form) := ⟨rfl, rfl, rfl, by decide +kernel, rfl, by decide +kernel, by decide +kernel⟩
def g_bridge_form : MS :=
    (sSeq (sAsg (eVar 0) (tTupT [(tName 1), (tName 2)]))
    (sRet [] (eTup (aCons (frM (eVar 1)) (aCons (frM (eCall min2G (aCons (eVar 2) (aCons (eFn F__undone (aCons (frM (eVar 1)) (aCons (frM (eVar 2)) aNil))) aNil)))) aNil)))))
def F_bridge_form : FnS := runF 1 3 [] g_bridge_form
/-! mirrored_bridge -/
abbrev s_mirrored_bridge : Stmt := topS 7
theorem sc_mirrored_bridge : FnScope ["pair", "p", "q"] ["pair"] (defScope s_mirrored_bridge) := ⟨rfl, rfl, rfl, by decide +kernel, rfl, by decide +kernel, by decide +kernel⟩
def g_mirrored_bridge : MS :=
    (sSeq (sAsg (eVar 0) (tTupT [(tName 1), (tName 2)]))
    (sRet [] (eTup (aCons (frM (eVar 1)) (aCons (frM (binS modD (unS negD (eVar 2)) (eVar 1))) aNil)))))
def F_mirrored_bridge : FnS := runF 1 3 [] g_mirrored_bridge
/-! is_own_mirror -/
abbrev s_is_own_mirror : Stmt := topS 8
theorem sc_is_own_mirror : FnScope ["pair"] ["pair"] (defScope s_is_own_mirror) := ⟨rfl, rfl, rfl, by decide +kernel, rfl, by decide +kernel, by decide +kernel⟩
def g_is_own_mirror : MS :=
    (sRet [] (binS eqqD (eFn F_bridge_form (aCons (frM (eVar 0)) aNil)) (eFn F_bridge_form (aCons (frM (eFn F_mirrored_bridge (aCons (frM (eVar 0)) aNil))) aNil))))
def F_is_own_mirror : FnS := runF 1 1 [] g_is_own_mirror
/-! common_divisor -/
abbrev s_common_divisor : Stmt := topS 1
theorem sc_common_divisor : FnScope ["a", "b"] ["a", "b"] (defScope s_common_divisor) := ⟨rfl, rfl, rfl, by decide +kernel, rfl, by decide +kernel, by decide +kernel⟩
def g_common_divisor : MS :=
    (sSeq (sPar 0 1 (aCons (frM (eCall absG (aCons (eVar 0) aNil))) (aCons (frM (eCall absG (aCons (eVar 1) aNil))) aNil)))
    (sSeq (whileS (tV (eVar 1)) (sPar 0 1 (aCons (frM (eVar 1)) (aCons (frM (binS modD (eVar 0) (eVar 1))) aNil))) 1048576)
    (sRet [] (eVar 0))))
def F_common_divisor : FnS := runF 2 2 [] g_common_divisor
/-! all_bridges -/
abbrev s_all_bridges : Stmt := topS 12
theorem sc_all_bridges : FnScope ["p", "pairs", "q", "pair"] ["p"] (defScope s_all_bridges) := ⟨rfl, rfl, rfl, by decide +kernel, rfl, by decide +kernel, by decide +kernel⟩
def g_all_bridges : MS :=
    (sSeq (sIf (tB (binS eqqD (eVar 0) (eC (.int 1)))) (sRet [] (eTup (aCons (eTup (aCons (eC (.int 1)) (aCons (eC (.int 0)) aNil))) aNil))) sNil)
    (sSeq (sSet 1 (eLc [2] (iRng rng2 (aCons (eC (.int 1)) (aCons (eVar 0) aNil))) (tName 2) (tB (binS eqqD (eFn F_common_divisor (aCons (frM (eVar 0)) (aCons (frM (eVar 2)) aNil))) (eC (.int 1)))) (eTup (aCons (frM (eVar 0)) (aCons (frM (eVar 2)) aNil)))))
    (sRet [] (eCall tupleG (aCons (eLc [3] (iSeq (eVar 1)) (tName 3) (tB (binS eqqD (eFn F_bridge_form (aCons (frM (eVar 3)) aNil)) (eVar 3))) (eVar 3)) aNil)))))
def F_all_bridges : FnS := runF 1 4 [] g_all_bridges
/-! count_components -/
abbrev s_count_components : Stmt := topS 13
theorem sc_count_components : FnScope ["pair"] ["pair"] (defScope s_count_components) := ⟨rfl, rfl, rfl, by decide +kernel, rfl, by decide +kernel, by decide +kernel⟩
def g_count_components : MS :=
    (sRet [] (eIf (tB (binS eqqD (binS modD (binS ixA (eVar 0) (eC (.int 0))) (eC (.int 2))) (eC (.int 1)))) (eC (.int 1)) (eC (.int 2))))
def F_count_components : FnS := runF 1 1 [] g_count_components
/-! crossings_of -/
abbrev s_crossings_of : Stmt := topS 11
theorem sc_crossings_of : FnScope ["pair"] ["pair"] (defScope s_crossings_of) := ⟨rfl, rfl, rfl, by decide +kernel, rfl, by decide +kernel, by decide +kernel⟩
def g_crossings_of : MS :=
    (sRet [] (eCall sumG (aCons (eFn F_bridge_row (aCons (frM (eVar 0)) aNil)) aNil)))
def F_crossings_of : FnS := runF 1 1 [] g_crossings_of
/-! _law_common -/
abbrev s__law_common : Stmt := topS 19
theorem sc__law_common : FnScope ["a", "b"] ["a", "b"] (defScope s__law_common) := ⟨rfl, rfl, rfl, by decide +kernel, rfl, by decide +kernel, by decide +kernel⟩
def g__law_common : MS :=
    (sSeq (whileS (tB (binS neqD (eVar 1) (eC (.int 0)))) (sPar 0 1 (aCons (frM (eVar 1)) (aCons (frM (binS modD (eCall intG (aCons (eVar 0) aNil)) (eVar 1))) aNil))) 1048576)
    (sRet [] (eVar 0)))
def F__law_common : FnS := runF 2 2 [] g__law_common
/-! _law_pair -/
abbrev s__law_pair : Stmt := topS 22
theorem sc__law_pair : FnScope ["row", "p", "q", "number"] ["row"] (defScope s__law_pair) := ⟨rfl, rfl, rfl, by decide +kernel, rfl, by decide +kernel, by decide +kernel⟩
def g__law_pair : MS :=
    (sSeq (sAsg (eTup (aCons (eC (.int 1)) (aCons (eC (.int 0)) aNil))) (tTupT [(tName 1), (tName 2)]))
    (sSeq (sFor (iSeq (unS revD (eVar 0))) (tName 3) (sPar 1 2 (aCons (frM (binS addD (binS mulD (eVar 3) (eVar 1)) (eVar 2))) (aCons (frM (eVar 1)) aNil))))
    (sRet [] (eTup (aCons (frM (eVar 1)) (aCons (frM (eVar 2)) aNil))))))
def F__law_pair : FnS := runF 1 4 [] g__law_pair
/-! law -/
abbrev s_law : Stmt := topS 23
theorem sc_law : FnScope ["script", "w", "turn", "p", "q", "form", "mirror", "row", "every", "some", "r", "k", "one"] ["script"] (defScope s_law) := ⟨rfl, rfl, rfl, by decide +kernel, rfl, by decide +kernel, by decide +kernel⟩
def g_law : MS :=
    (sSeq (sSet 1 (eDisp [((.inr ("draws" : Str) : Key), (eFn F__law_draws (aCons (frM (eVar 0)) (aCons (eC (.int 200)) aNil)))), ((.inr ("at" : Str) : Key), (eC (.int 0)))]))
    (sSeq (sFor (iRng rng1 (aCons (eC (.int 6)) aNil)) (tName 2) (sSeq (sSet 3 (binS addD (eC (.int 1)) (eFn F__law_next (aCons (eVar 1) (aCons (eC (.int 60)) aNil)))))
    (sSeq (sSet 4 (eFn F__law_pick (aCons (eVar 1) (aCons (frM (eLc [10] (iRng rng1 (aCons (eVar 3) aNil)) (tName 10) (tB (binS eqqD (eFn F__law_common (aCons (frM (eVar 3)) (aCons (frM (eVar 10)) aNil))) (eC (.int 1)))) (eVar 10))) aNil))))
    (sSeq (sSet 5 (eFn F__law_form (aCons (frM (eVar 3)) (aCons (frM (eVar 4)) aNil))))
    (sSeq (sSet 6 (eTup (aCons (frM (eVar 3)) (aCons (frM (binS modD (eCall intG (aCons (unS negD (eVar 4)) aNil)) (eVar 3))) aNil))))
    (sSeq (sIf (tOr' (tNo (tV (eFn (F__law_alike 6) (aCons (frM (eFn F_bridge_form (aCons (eTup (aCons (frM (eVar 3)) (aCons (frM (eVar 4)) aNil))) aNil))) (aCons (frM (eVar 5)) aNil))))) (tNo (tV (eFn (F__law_alike 6) (aCons (frM (eFn F_mirrored_bridge (aCons (eTup (aCons (frM (eVar 3)) (aCons (frM (eVar 4)) aNil))) aNil))) (aCons (frM (eVar 6)) aNil)))))) (sRet [] (eC (.bool false))) sNil)
    (sSeq (sIf (tOr' (tNo (tV (eFn (F__law_alike 6) (aCons (frM (eFn F_is_own_mirror (aCons (eTup (aCons (frM (eVar 3)) (aCons (frM (eVar 4)) aNil))) aNil))) (aCons (binS eqqD (eFn F__law_form (aCons (frM (eVar 3)) (aCons (frM (binS ixA (eVar 6) (eC (.int 1)))) aNil))) (eVar 5)) aNil))))) (tNo (tV (eFn (F__law_alike 6) (aCons (frM (eFn F_count_components (aCons (eTup (aCons (frM (eVar 3)) (aCons (frM (eVar 4)) aNil))) aNil))) (aCons (frM (binS subD (eC (.int 2)) (binS (bitD Builtin.bitAnd) (eVar 3) (eC (.int 1))))) aNil)))))) (sRet [] (eC (.bool false))) sNil)
    (sSeq (sSet 7 (eFn F__law_row (aCons (frM (eVar 3)) (aCons (frM (eVar 4)) aNil))))
    (sSeq (sIf (tOr' (tNo (tV (eFn (F__law_alike 6) (aCons (frM (eFn F_bridge_row (aCons (eTup (aCons (frM (eVar 3)) (aCons (frM (eVar 4)) aNil))) aNil))) (aCons (frM (eVar 7)) aNil))))) (tNo (tV (eFn (F__law_alike 6) (aCons (frM (eFn F_bridge_of (aCons (frM (eVar 7)) aNil))) (aCons (eTup (aCons (frM (eVar 3)) (aCons (frM (eVar 4)) aNil))) aNil)))))) (sRet [] (eC (.bool false))) sNil)
    (sSeq (sIf (tOr' (tNo (tV (eFn (F__law_alike 6) (aCons (frM (eFn F_crossings_of (aCons (eTup (aCons (frM (eVar 3)) (aCons (frM (eVar 4)) aNil))) aNil))) (aCons (frM (eCall sumG (aCons (eVar 7) aNil))) aNil))))) (tOr' (tNo (tV (eFn (F__law_alike 6) (aCons (frM (eFn F_crossings_of (aCons (frM (eVar 6)) aNil))) (aCons (frM (eCall sumG (aCons (eVar 7) aNil))) aNil))))) (tNo (tV (eFn (F__law_alike 6) (aCons (frM (eFn F_crossings_of (aCons (frM (eVar 5)) aNil))) (aCons (frM (eCall sumG (aCons (eVar 7) aNil))) aNil))))))) (sRet [] (eC (.bool false))) sNil)
    (sSeq (sSet 8 (eLc [10] (iRng rng1 (aCons (eVar 3) aNil)) (tName 10) (tB (binS eqqD (eFn F__law_common (aCons (frM (eVar 3)) (aCons (frM (eVar 10)) aNil))) (eC (.int 1)))) (eFn F__law_form (aCons (frM (eVar 3)) (aCons (frM (eVar 10)) aNil)))))
    (sSeq (sIf (tNo (tV (eFn (F__law_alike 6) (aCons (frM (eFn F_all_bridges (aCons (frM (eVar 3)) aNil))) (aCons (frM (eCall tupleG (aCons (eLc [12] (iSeq (eLc [10] (iRng rng1 (aCons (eVar 3) aNil)) (tName 10) cYes (eTup (aCons (frM (eVar 3)) (aCons (frM (eVar 10)) aNil))))) (tName 12) (tB (binS inAD (eVar 12) (eVar 8))) (eVar 12)) aNil))) aNil))))) (sRet [] (eC (.bool false))) sNil)
    (sSeq (sSet 9 (binS addD (eCall tupleG (aCons (eLc [11] (iRng rng1 (aCons (eFn F__law_next (aCons (eVar 1) (aCons (eC (.int 5)) aNil))) aNil)) (tName 11) cYes (binS addD (eC (.int 1)) (eFn F__law_next (aCons (eVar 1) (aCons (eC (.int 4)) aNil))))) aNil)) (eTup (aCons (frM (binS addD (eC (.int 2)) (eFn F__law_next (aCons (eVar 1) (aCons (eC (.int 3)) aNil))))) aNil))))
    (sIf (tOr' (tNo (tV (eFn (F__law_alike 6) (aCons (frM (eFn F_bridge_of (aCons (frM (eVar 9)) aNil))) (aCons (frM (eFn F__law_pair (aCons (frM (eVar 9)) aNil))) aNil))))) (tNo (tV (eFn (F__law_alike 6) (aCons (frM (eFn F_bridge_row (aCons (frM (eFn F__law_pair (aCons (frM (eVar 9)) aNil))) aNil))) (aCons (frM (eVar 9)) aNil)))))) (sRet [] (eC (.bool false))) sNil))))))))))))))
    (sRet [] (eAnd (eFn (F__law_alike 6) (aCons (frM (eFn F_bridge_row (aCons (eTup (aCons (eC (.int 1)) (aCons (eC (.int 0)) aNil))) aNil))) (aCons (eTup aNil) aNil))) (eAnd (eFn (F__law_alike 6) (aCons (frM (eFn F_bridge_of (aCons (eTup aNil) aNil))) (aCons (eTup (aCons (eC (.int 1)) (aCons (eC (.int 0)) aNil))) aNil))) (eAnd (eFn (F__law_alike 6) (aCons (frM (eFn F_is_own_mirror (aCons (eTup (aCons (eC (.int 5)) (aCons (eC (.int 2)) aNil))) aNil))) (aCons (eC (.bool true)) aNil))) (eFn (F__law_alike 6) (aCons (frM (eFn F_is_own_mirror (aCons (eTup (aCons (eC (.int 3)) (aCons (eC (.int 1)) aNil))) aNil))) (aCons (eC (.bool false)) aNil)))))))))
def F_law : FnS := runF 1 13 [] g_law
section
variable {P : Program} {w : World} {K : PySem.W.Frag} {mg : Str → Option Value} {base : Heap}
theorem ok__law_draws (Z : Zs mg) (D : Dn K mg "_law_draws" s__law_draws ["script", "many"]) : Has P w K mg base 1 "_law_draws" ["script", "many"] F__law_draws :=
  fn_has D sc__law_draws [] g__law_draws fun cdv A outer s H E fA hr =>
    (ds_cons (ds_set (i := 2) sc__law_draws.nd rfl (by first | exact .inl rfl | exact .inr rfl) (by decide) (de_lst da_nil))
    (ds_cons (ds_set (i := 3) sc__law_draws.nd rfl (by first | exact .inl rfl | exact .inr rfl) (by decide) de_int)
    (ds_cons (ds_for PassesOwn.never rfl (di_range1 (by rfl) Z.range (da_cons (de_callB len_d (by rfl) Z.len (by rfl) (da_cons (de_var 0) da_nil)) da_nil)) (dg_name (i := 4) sc__law_draws.nd rfl (by first | exact .inl rfl | exact .inr rfl) (by decide)) (ds_cons (ds_set (i := 5) sc__law_draws.nd rfl (by first | exact .inl rfl | exact .inr rfl) (by decide) (de_callB abs_d (by rfl) Z.abs (by rfl) (da_cons (de_callTy int_d (by rfl) Z.int (by rfl) (da_cons (de_ix (ixA_d (u2 hr)) (de_var 0) (de_var 4)) da_nil)) da_nil)))
    (ds_cons (ds_set (i := 3) sc__law_draws.nd rfl (by first | exact .inl rfl | exact .inr rfl) (by decide) (de_bin mod_d (de_callTy int_d (by rfl) Z.int (by rfl) (da_cons (de_bin add_d (de_bin add_d (de_bin mul_d (de_var 3) de_int) (de_bin mod_d (de_var 5) de_int)) (de_var 4)) da_nil)) de_int))
    (ds_cons (ds_set (i := 6) sc__law_draws.nd rfl (by first | exact .inl rfl | exact .inr rfl) (by decide) de_int)
    (ds_cons (ds_if (dt_cmp ge_d (de_var 5) (de_bin pow_d de_int de_int)) (ds_one (ds_set (i := 6) sc__law_draws.nd rfl (by first | exact .inl rfl | exact .inr rfl) (by decide) (de_cp (de_var 5)))) (ds_cons (ds_expr (de_app (de_var 2) (da_cons (de_fr (de_bin mod_d (de_callTy int_d (by rfl) Z.int (by rfl) (da_cons (de_var 5) da_nil)) de_int)) da_nil)))
    (ds_one (ds_expr (de_app (de_var 2) (da_cons (de_fr (de_bin mod_d (de_bin mod_d (de_callTy int_d (by rfl) Z.int (by rfl) (da_cons (de_bin add_d (de_bin mul_d (de_var 3) de_int) de_int) da_nil)) de_int) de_int)) da_nil))))))
    (ds_one (ds_for PassesOwn.never rfl (di_range1 (by rfl) Z.range (da_cons de_int da_nil)) (dg_name (i := 7) sc__law_draws.nd rfl (by first | exact .inl rfl | exact .inr rfl) (by decide)) (ds_one (ds_if (dt_cmp gt_d (de_var 6) de_int) (ds_cons (ds_expr (de_app (de_var 2) (da_cons (de_fr (de_bin mod_d (de_callTy int_d (by rfl) Z.int (by rfl) (da_cons (de_var 6) da_nil)) de_int)) da_nil)))
    (ds_one (ds_set (i := 6) sc__law_draws.nd rfl (by first | exact .inl rfl | exact .inr rfl) (by decide) (de_bin div_d (de_var 6) de_int)))) ds_nil)))))))))
    (ds_cons (ds_for PassesOwn.never rfl (di_range1 (by rfl) Z.range (da_cons (de_var 1) da_nil)) (dg_name (i := 4) sc__law_draws.nd rfl (by first | exact .inl rfl | exact .inr rfl) (by decide)) (ds_cons (ds_set (i := 3) sc__law_draws.nd rfl (by first | exact .inl rfl | exact .inr rfl) (by decide) (de_bin mod_d (de_callTy int_d (by rfl) Z.int (by rfl) (da_cons (de_bin add_d (de_bin add_d (de_bin mul_d (de_var 3) de_int) (de_var 4)) de_int) da_nil)) de_int))
    (ds_one (ds_expr (de_app (de_var 2) (da_cons (de_fr (de_bin mod_d (de_callTy int_d (by rfl) Z.int (by rfl) (da_cons (de_var 3) da_nil)) de_int)) da_nil))))))
    (ds_one (ds_ret (de_cut (de_var 2) do_no (do_int (de_var 1)))))))))
theorem ok__law_next (Z : Zs mg) (D : Dn K mg "_law_next" s__law_next ["w", "many"]) : Has P w K mg base 1 "_law_next" ["w", "many"] F__law_next :=
  fn_has D sc__law_next [0] g__law_next fun cdv A outer s H E fA hr =>
    (ds_cons (ds_augS (u2 hr) (de_var 0) de_str de_int iadd_d)
    (ds_cons (ds_if (dt_cmp gt_d (de_ix (ixA_d (u2 hr)) (de_var 0) de_str) (de_callB len_d (by rfl) Z.len (by rfl) (da_cons (de_ix (ixA_d (u2 hr)) (de_var 0) de_str) da_nil))) (ds_one (ds_ret de_int)) ds_nil)
    (ds_one (ds_ret (de_bin mod_d (de_callTy int_d (by rfl) Z.int (by rfl) (da_cons (de_ix (ixA_d (u2 hr)) (de_ix (ixA_d (u2 hr)) (de_var 0) de_str) (de_bin sub_d (de_ix (ixA_d (u2 hr)) (de_var 0) de_str) de_int)) da_nil)) (de_var 1))))))
theorem ok__law_pick (Z : Zs mg) (D : Dn K mg "_law_pick" s__law_pick ["w", "rows"]) (h__law_next : Has P w K mg base 1 "_law_next" ["w", "many"] F__law_next) : Has P w K mg base 2 "_law_pick" ["w", "rows"] F__law_pick :=
  fn_has D sc__law_pick [0] g__law_pick fun cdv A outer s H E fA hr =>
    (ds_one (ds_ret (de_ix (ixA_d (u2 hr)) (de_var 1) (de_call h__law_next hr (by first | omega | decide) (by rfl) (da_cons (de_var 0) (da_cons (de_fr (de_callB len_d (by rfl) Z.len (by rfl) (da_cons (de_var 1) da_nil))) da_nil)) (aLen_cons (aLen_cons aLen_nil))))))
theorem ok__law_form (Z : Zs mg) (D : Dn K mg "_law_form" s__law_form ["p", "q"]) : Has P w K mg base 1 "_law_form" ["p", "q"] F__law_form :=
  fn_has D sc__law_form [] g__law_form fun cdv A outer s H E fA hr =>
    (ds_cons (ds_if (dt_cmp (eq_d (u65 hr)) (de_var 0) de_int) (ds_one (ds_ret (de_tup (da_cons de_int (da_cons de_int da_nil))))) ds_nil)
    (ds_one (ds_ret (de_tup (da_cons (de_fr (de_var 0)) (da_cons (de_fr (de_callB (min_d rfl hr.hd (u201 hr)) (by rfl) Z.min (by rfl) (da_cons (de_lc (own := [(("r" : Str), 2)]) rfl sc__law_form.nd (di_range1 (by rfl) Z.range (da_cons (de_var 0) da_nil)) (blkOk_by (by rfl)) (fun _ _ _ _ _ => (dg_name (i := 2) sc__law_form.nd rfl (by first | exact .inl rfl | exact .inr rfl) (by decide))) (fun _ _ _ _ _ => (dp_one (PW.pt (dw_or (dt_cmp (eq_d (u65 hr)) (de_var 2) (de_var 1)) (dw_or1 (dt_cmp (eq_d (u65 hr)) (de_bin mod_d (de_callTy int_d (by rfl) Z.int (by rfl) (da_cons (de_bin mul_d (de_var 1) (de_var 2)) da_nil)) (de_var 0)) de_int)))))) (fun _ _ _ _ _ => (de_var 2))) da_nil))) da_nil))))))
theorem ok__law_row (Z : Zs mg) (D : Dn K mg "_law_row" s__law_row ["p", "q"]) : Has P w K mg base 1 "_law_row" ["p", "q"] F__law_row :=
  fn_has D sc__law_row [] g__law_row fun cdv A outer s H E fA hr =>
    (ds_cons (ds_set (i := 2) sc__law_row.nd rfl (by first | exact .inl rfl | exact .inr rfl) (by decide) (de_tup da_nil))
    (ds_cons (ds_while 1048576 PassesOwn.never (dt_cmp gt_d (de_var 1) de_int) (ds_cons (ds_set (i := 2) sc__law_row.nd rfl (by first | exact .inl rfl | exact .inr rfl) (by decide) (de_bin add_d (de_var 2) (de_tup (da_cons (de_fr (de_bin div_d (de_var 0) (de_var 1))) da_nil))))
    (ds_one (ds_par (i := 0) (j := 1) rfl sc__law_row.nd rfl rfl (by decide) (by decide) (by decide) rfl rfl (da_cons (de_fr (de_var 1)) (da_cons (de_fr (de_bin mod_d (de_callTy int_d (by rfl) Z.int (by rfl) (da_cons (de_var 0) da_nil)) (de_var 1))) da_nil)) (by rfl)))))
    (ds_one (ds_ret (de_var 2)))))
theorem ok__law_alike (Z : Zs mg) (D : Dn K mg "_law_alike" s__law_alike ["told", "due"]) : ∀ n : Nat, Has P w K mg base (0 + n + 1) "_law_alike" ["told", "due"] (F__law_alike n)
  | 0 => fn_has D sc__law_alike [] _ fun _ _ _ _ _ _ _ _ => ds_void
  | n + 1 => by
    have h__law_alike := ok__law_alike Z D  n
    exact fn_has D sc__law_alike [] (g__law_alike (F__law_alike n)) fun cdv A outer s H E fA hr =>
    (ds_cons (ds_if (dt_truth (de_isi (T := "tuple") (by decide) (by rfl) Z.isinstance (by rfl) Z.tuple (by rfl) (de_var 1))) (ds_cons (ds_if (PW.pt (dw_or (dt_not (dt_truth (de_isi (T := "tuple") (by decide) (by rfl) Z.isinstance (by rfl) Z.tuple (by rfl) (de_var 0)))) (dw_or1 (dt_cmp (ne_d (u65 hr)) (de_callB len_d (by rfl) Z.len (by rfl) (da_cons (de_var 0) da_nil)) (de_callB len_d (by rfl) Z.len (by rfl) (da_cons (de_var 1) da_nil)))))) (ds_one (ds_ret de_bl)) ds_nil)
    (ds_one (ds_ret (de_cmp (eq_d (u65 hr)) (de_lc (own := [(("k" : Str), 2)]) rfl sc__law_alike.nd (di_range1 (by rfl) Z.range (da_cons (de_callB len_d (by rfl) Z.len (by rfl) (da_cons (de_var 1) da_nil)) da_nil)) (blkOk_by (by rfl)) (fun _ _ _ _ _ => (dg_name (i := 2) sc__law_alike.nd rfl (by first | exact .inl rfl | exact .inr rfl) (by decide))) (fun _ _ _ _ _ => (dp_one (dt_not (dt_truth (de_call h__law_alike hr (by first | omega | decide) (by rfl) (da_cons (de_fr (de_ix (ixA_d (u2 hr)) (de_var 0) (de_var 2))) (da_cons (de_fr (de_ix (ixA_d (u2 hr)) (de_var 1) (de_var 2))) da_nil)) (aLen_cons (aLen_cons aLen_nil))))))) (fun _ _ _ _ _ => (de_var 2))) (de_lst da_nil))))) ds_nil)
    (ds_cons (ds_if (dt_cmp is_d (de_var 1) de_non) (ds_one (ds_ret (de_cmp is_d (de_var 0) de_non))) ds_nil)
    (ds_cons (ds_if (dt_truth (de_isi (T := "bool") (by decide) (by rfl) Z.isinstance (by rfl) Z.bool (by rfl) (de_var 1))) (ds_one (ds_ret (de_and (de_isi (T := "bool") (by decide) (by rfl) Z.isinstance (by rfl) Z.bool (by rfl) (de_var 0)) (de_one (de_cmp (eq_d (u65 hr)) (de_var 0) (de_var 1)))))) ds_nil)
    (ds_cons (ds_if (dt_truth (de_isi (T := "int") (by decide) (by rfl) Z.isinstance (by rfl) Z.int (by rfl) (de_var 1))) (ds_one (ds_ret (de_and (de_isi (T := "int") (by decide) (by rfl) Z.isinstance (by rfl) Z.int (by rfl) (de_var 0)) (de_and (de_not (de_isi (T := "bool") (by decide) (by rfl) Z.isinstance (by rfl) Z.bool (by rfl) (de_var 0))) (de_one (de_cmp (eq_d (u65 hr)) (de_var 0) (de_var 1))))))) ds_nil)
    (ds_one (ds_ret (de_and (de_isi (T := "str") (by decide) (by rfl) Z.isinstance (by rfl) Z.str (by rfl) (de_var 0)) (de_one (de_cmp (eq_d (u65 hr)) (de_var 0) (de_var 1))))))))))
theorem ok_bridge_row (Z : Zs mg) (D : Dn K mg "bridge_row" s_bridge_row ["pair"]) : Has P w K mg base 1 "bridge_row" ["pair"] F_bridge_row :=
  fn_has D sc_bridge_row [] g_bridge_row fun cdv A outer s H E fA hr =>
    (ds_cons (ds_asg (de_var 0) (dg_tup rfl (dgs_cons (dg_name (i := 1) sc_bridge_row.nd rfl (by first | exact .inl rfl | exact .inr rfl) (by decide)) (dgs_cons (dg_name (i := 2) sc_bridge_row.nd rfl (by first | exact .inl rfl | exact .inr rfl) (by decide)) dgs_nil))))
    (ds_cons (ds_set (i := 3) sc_bridge_row.nd rfl (by first | exact .inl rfl | exact .inr rfl) (by decide) (de_lst da_nil))
    (ds_cons (ds_while 1048576 PassesOwn.never (dt_cmp gt_d (de_var 2) de_int) (ds_cons (ds_expr (de_app (de_var 3) (da_cons (de_fr (de_bin div_d (de_var 1) (de_var 2))) da_nil)))
    (ds_one (ds_par (i := 1) (j := 2) rfl sc_bridge_row.nd rfl rfl (by decide) (by decide) (by decide) rfl rfl (da_cons (de_fr (de_var 2)) (da_cons (de_fr (de_bin mod_d (de_var 1) (de_var 2))) da_nil)) (by rfl)))))
    (ds_one (ds_ret (de_callTy tuple_d (by rfl) Z.tuple (by rfl) (da_cons (de_var 3) da_nil)))))))
theorem ok_bridge_of (Z : Zs mg) (D : Dn K mg "bridge_of" s_bridge_of ["row"]) : Has P w K mg base 1 "bridge_of" ["row"] F_bridge_of :=
  fn_has D sc_bridge_of [] g_bridge_of fun cdv A outer s H E fA hr =>
    (ds_cons (ds_asg (de_tup (da_cons de_int (da_cons de_int da_nil))) (dg_tup rfl (dgs_cons (dg_name (i := 1) sc_bridge_of.nd rfl (by first | exact .inl rfl | exact .inr rfl) (by decide)) (dgs_cons (dg_name (i := 2) sc_bridge_of.nd rfl (by first | exact .inl rfl | exact .inr rfl) (by decide)) dgs_nil))))
    (ds_cons (ds_for PassesOwn.never rfl (di_rev (by rfl) Z.reversed (de_var 0)) (dg_name (i := 3) sc_bridge_of.nd rfl (by first | exact .inl rfl | exact .inr rfl) (by decide)) (ds_one (ds_par (i := 1) (j := 2) rfl sc_bridge_of.nd rfl rfl (by decide) (by decide) (by decide) rfl rfl (da_cons (de_fr (de_bin add_d (de_bin mul_d (de_var 3) (de_var 1)) (de_var 2))) (da_cons (de_fr (de_var 1)) da_nil)) (by rfl))))
    (ds_one (ds_ret (de_tup (da_cons (de_fr (de_var 1)) (da_cons (de_fr (de_var 2)) da_nil)))))))
theorem ok_undone_number (Z : Zs mg) (D : Dn K mg "undone_number" s_undone_number ["p", "x"]) : Has P w K mg base 1 "undone_number" ["p", "x"] F_undone_number :=
  fn_has D sc_undone_number [] g_undone_number fun cdv A outer s H E fA hr =>
    (ds_cons (ds_par (i := 2) (j := 3) rfl sc_undone_number.nd rfl rfl (by decide) (by decide) (by decide) rfl rfl (da_cons (de_fr (de_var 0)) (da_cons (de_fr (de_bin mod_d (de_var 1) (de_var 0))) da_nil)) (by rfl))
    (ds_cons (ds_asg (de_tup (da_cons de_int (da_cons de_int da_nil))) (dg_tup rfl (dgs_cons (dg_name (i := 4) sc_undone_number.nd rfl (by first | exact .inl rfl | exact .inr rfl) (by decide)) (dgs_cons (dg_name (i := 5) sc_undone_number.nd rfl (by first | exact .inl rfl | exact .inr rfl) (by decide)) dgs_nil))))
    (ds_cons (ds_while 1048576 PassesOwn.never (dt_truth (de_var 3)) (ds_cons (ds_set (i := 6) sc_undone_number.nd rfl (by first | exact .inl rfl | exact .inr rfl) (by decide) (de_bin div_d (de_var 2) (de_var 3)))
    (ds_cons (ds_par (i := 2) (j := 3) rfl sc_undone_number.nd rfl rfl (by decide) (by decide) (by decide) rfl rfl (da_cons (de_fr (de_var 3)) (da_cons (de_fr (de_bin sub_d (de_var 2) (de_bin mul_d (de_var 6) (de_var 3)))) da_nil)) (by rfl))
    (ds_one (ds_par (i := 4) (j := 5) rfl sc_undone_number.nd rfl rfl (by decide) (by decide) (by decide) rfl rfl (da_cons (de_fr (de_var 5)) (da_cons (de_fr (de_bin sub_d (de_var 4) (de_bin mul_d (de_var 6) (de_var 5)))) da_nil)) (by rfl))))))
    (ds_one (ds_ret (de_bin mod_d (de_var 4) (de_var 0)))))))
theorem ok__undone (Z : Zs mg) (D : Dn K mg "_undone" s__undone ["p", "q"]) (h_undone_number : Has P w K mg base 1 "undone_number" ["p", "x"] F_undone_number) : Has P w K mg base 2 "_undone" ["p", "q"] F__undone :=
  fn_has D sc__undone [] g__undone fun cdv A outer s H E fA hr =>
    (ds_one (ds_ret (de_ifExp (dt_cmp gt_d (de_var 0) de_int) (de_call h_undone_number hr (by first | omega | decide) (by rfl) (da_cons (de_fr (de_var 0)) (da_cons (de_fr (de_var 1)) da_nil)) (aLen_cons (aLen_cons aLen_nil))) de_int)))
theorem ok_bridge_form (Z : Zs mg) (D : Dn K mg "bridge_form" s_bridge_form ["pair"]) (h__undone : Has P w K mg base 2 "_undone" ["p", "q"] F__undone) : Has P w K mg base 3 "bridge_form" ["pair"] F_bridge_form :=
  fn_has D sc_bridge_form [] g_bridge_form fun cdv A outer s H E fA hr =>
    (ds_cons (ds_asg (de_var 0) (dg_tup rfl (dgs_cons (dg_name (i := 1) sc_bridge_form.nd rfl (by first | exact .inl rfl | exact .inr rfl) (by decide)) (dgs_cons (dg_name (i := 2) sc_bridge_form.nd rfl (by first | exact .inl rfl | exact .inr rfl) (by decide)) dgs_nil))))
    (ds_one (ds_ret (de_tup (da_cons (de_fr (de_var 1)) (da_cons (de_fr (de_callB (min2_d rfl) (by rfl) Z.min (by rfl) (da_cons (de_var 2) (da_cons (de_call h__undone hr (by first | omega | decide) (by rfl) (da_cons (de_fr (de_var 1)) (da_cons (de_fr (de_var 2)) da_nil)) (aLen_cons (aLen_cons aLen_nil))) da_nil)))) da_nil))))))
theorem ok_mirrored_bridge (Z : Zs mg) (D : Dn K mg "mirrored_bridge" s_mirrored_bridge ["pair"]) : Has P w K mg base 1 "mirrored_bridge" ["pair"] F_mirrored_bridge :=
  fn_has D sc_mirrored_bridge [] g_mirrored_bridge fun cdv A outer s H E fA hr =>
    (ds_cons (ds_asg (de_var 0) (dg_tup rfl (dgs_cons (dg_name (i := 1) sc_mirrored_bridge.nd rfl (by first | exact .inl rfl | exact .inr rfl) (by decide)) (dgs_cons (dg_name (i := 2) sc_mirrored_bridge.nd rfl (by first | exact .inl rfl | exact .inr rfl) (by decide)) dgs_nil))))
    (ds_one (ds_ret (de_tup (da_cons (de_fr (de_var 1)) (da_cons (de_fr (de_bin mod_d (de_neg (de_var 2)) (de_var 1))) da_nil))))))
theorem ok_is_own_mirror (Z : Zs mg) (D : Dn K mg "is_own_mirror" s_is_own_mirror ["pair"]) (h_bridge_form : Has P w K mg base 3 "bridge_form" ["pair"] F_bridge_form) (h_mirrored_bridge : Has P w K mg base 1 "mirrored_bridge" ["pair"] F_mirrored_bridge) : Has P w K mg base 4 "is_own_mirror" ["pair"] F_is_own_mirror :=
  fn_has D sc_is_own_mirror [] g_is_own_mirror fun cdv A outer s H E fA hr =>
    (ds_one (ds_ret (de_cmp (eq_d (u65 hr)) (de_call h_bridge_form hr (by first | omega | decide) (by rfl) (da_cons (de_fr (de_var 0)) da_nil) (aLen_cons aLen_nil)) (de_call h_bridge_form hr (by first | omega | decide) (by rfl) (da_cons (de_fr (de_call h_mirrored_bridge hr (by first | omega | decide) (by rfl) (da_cons (de_fr (de_var 0)) da_nil) (aLen_cons aLen_nil))) da_nil) (aLen_cons aLen_nil)))))
theorem ok_common_divisor (Z : Zs mg) (D : Dn K mg "common_divisor" s_common_divisor ["a", "b"]) : Has P w K mg base 1 "common_divisor" ["a", "b"] F_common_divisor :=
  fn_has D sc_common_divisor [] g_common_divisor fun cdv A outer s H E fA hr =>
    (ds_cons (ds_par (i := 0) (j := 1) rfl sc_common_divisor.nd rfl rfl (by decide) (by decide) (by decide) rfl rfl (da_cons (de_fr (de_callB abs_d (by rfl) Z.abs (by rfl) (da_cons (de_var 0) da_nil))) (da_cons (de_fr (de_callB abs_d (by rfl) Z.abs (by rfl) (da_cons (de_var 1) da_nil))) da_nil)) (by rfl))
    (ds_cons (ds_while 1048576 PassesOwn.never (dt_truth (de_var 1)) (ds_one (ds_par (i := 0) (j := 1) rfl sc_common_divisor.nd rfl rfl (by decide) (by decide) (by decide) rfl rfl (da_cons (de_fr (de_var 1)) (da_cons (de_fr (de_bin mod_d (de_var 0) (de_var 1))) da_nil)) (by rfl))))
    (ds_one (ds_ret (de_var 0)))))
theorem ok_all_bridges (Z : Zs mg) (D : Dn K mg "all_bridges" s_all_bridges ["p"]) (h_bridge_form : Has P w K mg base 3 "bridge_form" ["pair"] F_bridge_form) (h_common_divisor : Has P w K mg base 1 "common_divisor" ["a", "b"] F_common_divisor) : Has P w K mg base 4 "all_bridges" ["p"] F_all_bridges :=
  fn_has D sc_all_bridges [] g_all_bridges fun cdv A outer s H E fA hr =>
    (ds_cons (ds_if (dt_cmp (eq_d (u65 hr)) (de_var 0) de_int) (ds_one (ds_ret (de_tup (da_cons (de_tup (da_cons de_int (da_cons de_int da_nil))) da_nil)))) ds_nil)
    (ds_cons (ds_setLc (i := 1) (own := [(("q" : Str), 2)]) rfl sc_all_bridges.nd rfl rfl (by decide) (by rfl) (di_range2 (by rfl) Z.range (da_cons de_int (da_cons (de_var 0) da_nil))) (blkOk_by (by rfl)) (fun _ _ _ _ _ => (dg_name (i := 2) sc_all_bridges.nd rfl (by first | exact .inl rfl | exact .inr rfl) (by decide))) (fun _ _ _ _ _ => (dp_one (dt_cmp (eq_d (u65 hr)) (de_call h_common_divisor hr (by first | omega | decide) (by rfl) (da_cons (de_fr (de_var 0)) (da_cons (de_fr (de_var 2)) da_nil)) (aLen_cons (aLen_cons aLen_nil))) de_int))) (fun _ _ _ _ _ => (de_tup (da_cons (de_fr (de_var 0)) (da_cons (de_fr (de_var 2)) da_nil)))))
    (ds_one (ds_ret (de_callTy tuple_d (by rfl) Z.tuple (by rfl) (da_cons (de_lc (own := [(("pair" : Str), 3)]) rfl sc_all_bridges.nd (di_seq (de_var 1)) (blkOk_by (by rfl)) (fun _ _ _ _ _ => (dg_name (i := 3) sc_all_bridges.nd rfl (by first | exact .inl rfl | exact .inr rfl) (by decide))) (fun _ _ _ _ _ => (dp_one (dt_cmp (eq_d (u65 hr)) (de_call h_bridge_form hr (by first | omega | decide) (by rfl) (da_cons (de_fr (de_var 3)) da_nil) (aLen_cons aLen_nil)) (de_var 3)))) (fun _ _ _ _ _ => (de_var 3))) da_nil))))))
theorem ok_count_components (Z : Zs mg) (D : Dn K mg "count_components" s_count_components ["pair"]) : Has P w K mg base 1 "count_components" ["pair"] F_count_components :=
  fn_has D sc_count_components [] g_count_components fun cdv A outer s H E fA hr =>
    (ds_one (ds_ret (de_ifExp (dt_cmp (eq_d (u65 hr)) (de_bin mod_d (de_ix (ixA_d (u2 hr)) (de_var 0) de_int) de_int) de_int) de_int de_int)))
theorem ok_crossings_of (Z : Zs mg) (D : Dn K mg "crossings_of" s_crossings_of ["pair"]) (h_bridge_row : Has P w K mg base 1 "bridge_row" ["pair"] F_bridge_row) : Has P w K mg base 2 "crossings_of" ["pair"] F_crossings_of :=
  fn_has D sc_crossings_of [] g_crossings_of fun cdv A outer s H E fA hr =>
    (ds_one (ds_ret (de_callB (sum_d rfl hr.hd) (by rfl) Z.sum (by rfl) (da_cons (de_call h_bridge_row hr (by first | omega | decide) (by rfl) (da_cons (de_fr (de_var 0)) da_nil) (aLen_cons aLen_nil)) da_nil))))
theorem ok__law_common (Z : Zs mg) (D : Dn K mg "_law_common" s__law_common ["a", "b"]) : Has P w K mg base 1 "_law_common" ["a", "b"] F__law_common :=
  fn_has D sc__law_common [] g__law_common fun cdv A outer s H E fA hr =>
    (ds_cons (ds_while 1048576 PassesOwn.never (dt_cmp (ne_d (u65 hr)) (de_var 1) de_int) (ds_one (ds_par (i := 0) (j := 1) rfl sc__law_common.nd rfl rfl (by decide) (by decide) (by decide) rfl rfl (da_cons (de_fr (de_var 1)) (da_cons (de_fr (de_bin mod_d (de_callTy int_d (by rfl) Z.int (by rfl) (da_cons (de_var 0) da_nil)) (de_var 1))) da_nil)) (by rfl))))
    (ds_one (ds_ret (de_var 0))))
theorem ok__law_pair (Z : Zs mg) (D : Dn K mg "_law_pair" s__law_pair ["row"]) : Has P w K mg base 1 "_law_pair" ["row"] F__law_pair :=
  fn_has D sc__law_pair [] g__law_pair fun cdv A outer s H E fA hr =>
    (ds_cons (ds_asg (de_tup (da_cons de_int (da_cons de_int da_nil))) (dg_tup rfl (dgs_cons (dg_name (i := 1) sc__law_pair.nd rfl (by first | exact .inl rfl | exact .inr rfl) (by decide)) (dgs_cons (dg_name (i := 2) sc__law_pair.nd rfl (by first | exact .inl rfl | exact .inr rfl) (by decide)) dgs_nil))))
    (ds_cons (ds_for PassesOwn.never rfl (di_seq (de_back (de_var 0))) (dg_name (i := 3) sc__law_pair.nd rfl (by first | exact .inl rfl | exact .inr rfl) (by decide)) (ds_one (ds_par (i := 1) (j := 2) rfl sc__law_pair.nd rfl rfl (by decide) (by decide) (by decide) rfl rfl (da_cons (de_fr (de_bin add_d (de_bin mul_d (de_var 3) (de_var 1)) (de_var 2))) (da_cons (de_fr (de_var 1)) da_nil)) (by rfl))))
    (ds_one (ds_ret (de_tup (da_cons (de_fr (de_var 1)) (da_cons (de_fr (de_var 2)) da_nil)))))))
theorem ok_law (Z : Zs mg) {fL : Addr} {fdL : FuncData} (D : FunD K "law" "law" (defArgs s_law) (defBody s_law) (defScope s_law) [] [] fL fdL) (h__law_alike : Has P w K mg base 7 "_law_alike" ["told", "due"] (F__law_alike 6)) (h__law_common : Has P w K mg base 1 "_law_common" ["a", "b"] F__law_common) (h__law_draws : Has P w K mg base 1 "_law_draws" ["script", "many"] F__law_draws) (h__law_form : Has P w K mg base 1 "_law_form" ["p", "q"] F__law_form) (h__law_next : Has P w K mg base 1 "_law_next" ["w", "many"] F__law_next) (h__law_pair : Has P w K mg base 1 "_law_pair" ["row"] F__law_pair) (h__law_pick : Has P w K mg base 2 "_law_pick" ["w", "rows"] F__law_pick) (h__law_row : Has P w K mg base 1 "_law_row" ["p", "q"] F__law_row) (h_all_bridges : Has P w K mg base 4 "all_bridges" ["p"] F_all_bridges) (h_bridge_form : Has P w K mg base 3 "bridge_form" ["pair"] F_bridge_form) (h_bridge_of : Has P w K mg base 1 "bridge_of" ["row"] F_bridge_of) (h_bridge_row : Has P w K mg base 1 "bridge_row" ["pair"] F_bridge_row) (h_count_components : Has P w K mg base 1 "count_components" ["pair"] F_count_components) (h_crossings_of : Has P w K mg base 2 "crossings_of" ["pair"] F_crossings_of) (h_is_own_mirror : Has P w K mg base 4 "is_own_mirror" ["pair"] F_is_own_mirror) (h_mirrored_bridge : Has P w K mg base 1 "mirrored_bridge" ["pair"] F_mirrored_bridge) : FnOk P w K mg base CX0 8 fL fdL ["script"] (spD K 1 F_law) :=
  fn_d (fun_ofD D) sc_law [] g_law (by decide) fun cdv A outer s H E hr =>
    (ds_cons (ds_set (i := 1) sc_law.nd rfl (by first | exact .inl rfl | exact .inr rfl) (by decide) (de_disp (.cons pe_str (de_call h__law_draws hr (by first | omega | decide) (by rfl) (da_cons (de_fr (de_var 0)) (da_cons de_int da_nil)) (aLen_cons (aLen_cons aLen_nil))) (.cons pe_str de_int .nil))))
    (ds_cons (ds_for PassesOwn.never rfl (di_range1 (by rfl) Z.range (da_cons de_int da_nil)) (dg_name (i := 2) sc_law.nd rfl (by first | exact .inl rfl | exact .inr rfl) (by decide)) (ds_cons (ds_set (i := 3) sc_law.nd rfl (by first | exact .inl rfl | exact .inr rfl) (by decide) (de_bin add_d de_int (de_call h__law_next hr (by first | omega | decide) (by rfl) (da_cons (de_var 1) (da_cons de_int da_nil)) (aLen_cons (aLen_cons aLen_nil)))))
    (ds_cons (ds_set (i := 4) sc_law.nd rfl (by first | exact .inl rfl | exact .inr rfl) (by decide) (de_call h__law_pick hr (by first | omega | decide) (by rfl) (da_cons (de_var 1) (da_cons (de_fr (de_lc (own := [(("r" : Str), 10)]) rfl sc_law.nd (di_range1 (by rfl) Z.range (da_cons (de_var 3) da_nil)) (blkOk_by (by rfl)) (fun _ _ _ _ _ => (dg_name (i := 10) sc_law.nd rfl (by first | exact .inl rfl | exact .inr rfl) (by decide))) (fun _ _ _ _ _ => (dp_one (dt_cmp (eq_d (u65 hr)) (de_call h__law_common hr (by first | omega | decide) (by rfl) (da_cons (de_fr (de_var 3)) (da_cons (de_fr (de_var 10)) da_nil)) (aLen_cons (aLen_cons aLen_nil))) de_int))) (fun _ _ _ _ _ => (de_var 10)))) da_nil)) (aLen_cons (aLen_cons aLen_nil))))
    (ds_cons (ds_set (i := 5) sc_law.nd rfl (by first | exact .inl rfl | exact .inr rfl) (by decide) (de_call h__law_form hr (by first | omega | decide) (by rfl) (da_cons (de_fr (de_var 3)) (da_cons (de_fr (de_var 4)) da_nil)) (aLen_cons (aLen_cons aLen_nil))))
    (ds_cons (ds_set (i := 6) sc_law.nd rfl (by first | exact .inl rfl | exact .inr rfl) (by decide) (de_tup (da_cons (de_fr (de_var 3)) (da_cons (de_fr (de_bin mod_d (de_callTy int_d (by rfl) Z.int (by rfl) (da_cons (de_neg (de_var 4)) da_nil)) (de_var 3))) da_nil))))
    (ds_cons (ds_if (PW.pt (dw_or (dt_not (dt_truth (de_call h__law_alike hr (by first | omega | decide) (by rfl) (da_cons (de_fr (de_call h_bridge_form hr (by first | omega | decide) (by rfl) (da_cons (de_tup (da_cons (de_fr (de_var 3)) (da_cons (de_fr (de_var 4)) da_nil))) da_nil) (aLen_cons aLen_nil))) (da_cons (de_fr (de_var 5)) da_nil)) (aLen_cons (aLen_cons aLen_nil))))) (dw_or1 (dt_not (dt_truth (de_call h__law_alike hr (by first | omega | decide) (by rfl) (da_cons (de_fr (de_call h_mirrored_bridge hr (by first | omega | decide) (by rfl) (da_cons (de_tup (da_cons (de_fr (de_var 3)) (da_cons (de_fr (de_var 4)) da_nil))) da_nil) (aLen_cons aLen_nil))) (da_cons (de_fr (de_var 6)) da_nil)) (aLen_cons (aLen_cons aLen_nil)))))))) (ds_one (ds_ret de_bl)) ds_nil)
    (ds_cons (ds_if (PW.pt (dw_or (dt_not (dt_truth (de_call h__law_alike hr (by first | omega | decide) (by rfl) (da_cons (de_fr (de_call h_is_own_mirror hr (by first | omega | decide) (by rfl) (da_cons (de_tup (da_cons (de_fr (de_var 3)) (da_cons (de_fr (de_var 4)) da_nil))) da_nil) (aLen_cons aLen_nil))) (da_cons (de_cmp (eq_d (u65 hr)) (de_call h__law_form hr (by first | omega | decide) (by rfl) (da_cons (de_fr (de_var 3)) (da_cons (de_fr (de_ix (ixA_d (u2 hr)) (de_var 6) de_int)) da_nil)) (aLen_cons (aLen_cons aLen_nil))) (de_var 5)) da_nil)) (aLen_cons (aLen_cons aLen_nil))))) (dw_or1 (dt_not (dt_truth (de_call h__law_alike hr (by first | omega | decide) (by rfl) (da_cons (de_fr (de_call h_count_components hr (by first | omega | decide) (by rfl) (da_cons (de_tup (da_cons (de_fr (de_var 3)) (da_cons (de_fr (de_var 4)) da_nil))) da_nil) (aLen_cons aLen_nil))) (da_cons (de_fr (de_bin sub_d de_int (de_bin and_d (de_var 3) de_int))) da_nil)) (aLen_cons (aLen_cons aLen_nil)))))))) (ds_one (ds_ret de_bl)) ds_nil)
    (ds_cons (ds_set (i := 7) sc_law.nd rfl (by first | exact .inl rfl | exact .inr rfl) (by decide) (de_call h__law_row hr (by first | omega | decide) (by rfl) (da_cons (de_fr (de_var 3)) (da_cons (de_fr (de_var 4)) da_nil)) (aLen_cons (aLen_cons aLen_nil))))
    (ds_cons (ds_if (PW.pt (dw_or (dt_not (dt_truth (de_call h__law_alike hr (by first | omega | decide) (by rfl) (da_cons (de_fr (de_call h_bridge_row hr (by first | omega | decide) (by rfl) (da_cons (de_tup (da_cons (de_fr (de_var 3)) (da_cons (de_fr (de_var 4)) da_nil))) da_nil) (aLen_cons aLen_nil))) (da_cons (de_fr (de_var 7)) da_nil)) (aLen_cons (aLen_cons aLen_nil))))) (dw_or1 (dt_not (dt_truth (de_call h__law_alike hr (by first | omega | decide) (by rfl) (da_cons (de_fr (de_call h_bridge_of hr (by first | omega | decide) (by rfl) (da_cons (de_fr (de_var 7)) da_nil) (aLen_cons aLen_nil))) (da_cons (de_tup (da_cons (de_fr (de_var 3)) (da_cons (de_fr (de_var 4)) da_nil))) da_nil)) (aLen_cons (aLen_cons aLen_nil)))))))) (ds_one (ds_ret de_bl)) ds_nil)
    (ds_cons (ds_if (PW.pt (dw_or (dt_not (dt_truth (de_call h__law_alike hr (by first | omega | decide) (by rfl) (da_cons (de_fr (de_call h_crossings_of hr (by first | omega | decide) (by rfl) (da_cons (de_tup (da_cons (de_fr (de_var 3)) (da_cons (de_fr (de_var 4)) da_nil))) da_nil) (aLen_cons aLen_nil))) (da_cons (de_fr (de_callB (sum_d rfl hr.hd) (by rfl) Z.sum (by rfl) (da_cons (de_var 7) da_nil))) da_nil)) (aLen_cons (aLen_cons aLen_nil))))) (dw_or (dt_not (dt_truth (de_call h__law_alike hr (by first | omega | decide) (by rfl) (da_cons (de_fr (de_call h_crossings_of hr (by first | omega | decide) (by rfl) (da_cons (de_fr (de_var 6)) da_nil) (aLen_cons aLen_nil))) (da_cons (de_fr (de_callB (sum_d rfl hr.hd) (by rfl) Z.sum (by rfl) (da_cons (de_var 7) da_nil))) da_nil)) (aLen_cons (aLen_cons aLen_nil))))) (dw_or1 (dt_not (dt_truth (de_call h__law_alike hr (by first | omega | decide) (by rfl) (da_cons (de_fr (de_call h_crossings_of hr (by first | omega | decide) (by rfl) (da_cons (de_fr (de_var 5)) da_nil) (aLen_cons aLen_nil))) (da_cons (de_fr (de_callB (sum_d rfl hr.hd) (by rfl) Z.sum (by rfl) (da_cons (de_var 7) da_nil))) da_nil)) (aLen_cons (aLen_cons aLen_nil))))))))) (ds_one (ds_ret de_bl)) ds_nil)
    (ds_cons (ds_set (i := 8) sc_law.nd rfl (by first | exact .inl rfl | exact .inr rfl) (by decide) (de_lc (own := [(("r" : Str), 10)]) rfl sc_law.nd (di_range1 (by rfl) Z.range (da_cons (de_var 3) da_nil)) (blkOk_by (by rfl)) (fun _ _ _ _ _ => (dg_name (i := 10) sc_law.nd rfl (by first | exact .inl rfl | exact .inr rfl) (by decide))) (fun _ _ _ _ _ => (dp_one (dt_cmp (eq_d (u65 hr)) (de_call h__law_common hr (by first | omega | decide) (by rfl) (da_cons (de_fr (de_var 3)) (da_cons (de_fr (de_var 10)) da_nil)) (aLen_cons (aLen_cons aLen_nil))) de_int))) (fun _ _ _ _ _ => (de_call h__law_form hr (by first | omega | decide) (by rfl) (da_cons (de_fr (de_var 3)) (da_cons (de_fr (de_var 10)) da_nil)) (aLen_cons (aLen_cons aLen_nil))))))
    (ds_cons (ds_if (dt_not (dt_truth (de_call h__law_alike hr (by first | omega | decide) (by rfl) (da_cons (de_fr (de_call h_all_bridges hr (by first | omega | decide) (by rfl) (da_cons (de_fr (de_var 3)) da_nil) (aLen_cons aLen_nil))) (da_cons (de_fr (de_callTy tuple_d (by rfl) Z.tuple (by rfl) (da_cons (de_lc (own := [(("one" : Str), 12)]) rfl sc_law.nd (di_seq (de_lc (own := [(("r" : Str), 10)]) rfl sc_law.nd (di_range1 (by rfl) Z.range (da_cons (de_var 3) da_nil)) (blkOk_by (by rfl)) (fun _ _ _ _ _ => (dg_name (i := 10) sc_law.nd rfl (by first | exact .inl rfl | exact .inr rfl) (by decide))) (fun _ _ _ _ _ => dp_nil) (fun _ _ _ _ _ => (de_tup (da_cons (de_fr (de_var 3)) (da_cons (de_fr (de_var 10)) da_nil)))))) (blkOk_by (by rfl)) (fun _ _ _ _ _ => (dg_name (i := 12) sc_law.nd rfl (by first | exact .inl rfl | exact .inr rfl) (by decide))) (fun _ _ _ _ _ => (dp_one (dt_cmp (inA_d (u66 hr)) (de_var 12) (de_var 8)))) (fun _ _ _ _ _ => (de_var 12))) da_nil))) da_nil)) (aLen_cons (aLen_cons aLen_nil))))) (ds_one (ds_ret de_bl)) ds_nil)
    (ds_cons (ds_set (i := 9) sc_law.nd rfl (by first | exact .inl rfl | exact .inr rfl) (by decide) (de_bin add_d (de_callTy tuple_d (by rfl) Z.tuple (by rfl) (da_cons (de_lc (own := [(("k" : Str), 11)]) rfl sc_law.nd (di_range1 (by rfl) Z.range (da_cons (de_call h__law_next hr (by first | omega | decide) (by rfl) (da_cons (de_var 1) (da_cons de_int da_nil)) (aLen_cons (aLen_cons aLen_nil))) da_nil)) (blkOk_by (by rfl)) (fun _ _ _ _ _ => (dg_name (i := 11) sc_law.nd rfl (by first | exact .inl rfl | exact .inr rfl) (by decide))) (fun _ _ _ _ _ => dp_nil) (fun _ _ _ _ _ => (de_bin add_d de_int (de_call h__law_next hr (by first | omega | decide) (by rfl) (da_cons (de_var 1) (da_cons de_int da_nil)) (aLen_cons (aLen_cons aLen_nil)))))) da_nil)) (de_tup (da_cons (de_fr (de_bin add_d de_int (de_call h__law_next hr (by first | omega | decide) (by rfl) (da_cons (de_var 1) (da_cons de_int da_nil)) (aLen_cons (aLen_cons aLen_nil))))) da_nil))))
    (ds_one (ds_if (PW.pt (dw_or (dt_not (dt_truth (de_call h__law_alike hr (by first | omega | decide) (by rfl) (da_cons (de_fr (de_call h_bridge_of hr (by first | omega | decide) (by rfl) (da_cons (de_fr (de_var 9)) da_nil) (aLen_cons aLen_nil))) (da_cons (de_fr (de_call h__law_pair hr (by first | omega | decide) (by rfl) (da_cons (de_fr (de_var 9)) da_nil) (aLen_cons aLen_nil))) da_nil)) (aLen_cons (aLen_cons aLen_nil))))) (dw_or1 (dt_not (dt_truth (de_call h__law_alike hr (by first | omega | decide) (by rfl) (da_cons (de_fr (de_call h_bridge_row hr (by first | omega | decide) (by rfl) (da_cons (de_fr (de_call h__law_pair hr (by first | omega | decide) (by rfl) (da_cons (de_fr (de_var 9)) da_nil) (aLen_cons aLen_nil))) da_nil) (aLen_cons aLen_nil))) (da_cons (de_fr (de_var 9)) da_nil)) (aLen_cons (aLen_cons aLen_nil)))))))) (ds_one (ds_ret de_bl)) ds_nil)))))))))))))))
    (ds_one (ds_ret (de_and (de_call h__law_alike hr (by first | omega | decide) (by rfl) (da_cons (de_fr (de_call h_bridge_row hr (by first | omega | decide) (by rfl) (da_cons (de_tup (da_cons de_int (da_cons de_int da_nil))) da_nil) (aLen_cons aLen_nil))) (da_cons (de_tup da_nil) da_nil)) (aLen_cons (aLen_cons aLen_nil))) (de_and (de_call h__law_alike hr (by first | omega | decide) (by rfl) (da_cons (de_fr (de_call h_bridge_of hr (by first | omega | decide) (by rfl) (da_cons (de_tup da_nil) da_nil) (aLen_cons aLen_nil))) (da_cons (de_tup (da_cons de_int (da_cons de_int da_nil))) da_nil)) (aLen_cons (aLen_cons aLen_nil))) (de_and (de_call h__law_alike hr (by first | omega | decide) (by rfl) (da_cons (de_fr (de_call h_is_own_mirror hr (by first | omega | decide) (by rfl) (da_cons (de_tup (da_cons de_int (da_cons de_int da_nil))) da_nil) (aLen_cons aLen_nil))) (da_cons de_bl da_nil)) (aLen_cons (aLen_cons aLen_nil))) (de_one (de_call h__law_alike hr (by first | omega | decide) (by rfl) (da_cons (de_fr (de_call h_is_own_mirror hr (by first | omega | decide) (by rfl) (da_cons (de_tup (da_cons de_int (da_cons de_int da_nil))) da_nil) (aLen_cons aLen_nil))) (da_cons de_bl da_nil)) (aLen_cons (aLen_cons aLen_nil)))))))))))
end
/-! the head -/
def d__law_draws : He.DefD := ⟨("_law_draws", none), "_law_draws", "_law_draws", defArgs s__law_draws, defBody s__law_draws, defScope s__law_draws, [], []⟩
def d__law_next : He.DefD := ⟨("_law_next", none), "_law_next", "_law_next", defArgs s__law_next, defBody s__law_next, defScope s__law_next, [], []⟩
def d__law_pick : He.DefD := ⟨("_law_pick", none), "_law_pick", "_law_pick", defArgs s__law_pick, defBody s__law_pick, defScope s__law_pick, [], []⟩
def d__law_form : He.DefD := ⟨("_law_form", none), "_law_form", "_law_form", defArgs s__law_form, defBody s__law_form, defScope s__law_form, [], []⟩
def d__law_row : He.DefD := ⟨("_law_row", none), "_law_row", "_law_row", defArgs s__law_row, defBody s__law_row, defScope s__law_row, [], []⟩
def d__law_alike : He.DefD := ⟨("_law_alike", none), "_law_alike", "_law_alike", defArgs s__law_alike, defBody s__law_alike, defScope s__law_alike, [], []⟩
def d_bridge_row : He.DefD := ⟨("bridge_row", none), "bridge_row", "bridge_row", defArgs s_bridge_row, defBody s_bridge_row, defScope s_bridge_row, [], []⟩
def d_bridge_of : He.DefD := ⟨("bridge_of", none), "bridge_of", "bridge_of", defArgs s_bridge_of, defBody s_bridge_of, defScope s_bridge_of, [], []⟩
def d_undone_number : He.DefD := ⟨("undone_number", none), "undone_number", "undone_number", defArgs s_undone_number, defBody s_undone_number, defScope s_undone_number, [], []⟩
def d__undone : He.DefD := ⟨("_undone", none), "_undone", "_undone", defArgs s__undone, defBody s__undone, defScope s__undone, [], []⟩
def d_bridge_form : He.DefD := ⟨("bridge_form", none), "bridge_form", "bridge_form", defArgs s_bridge_form, defBody s_bridge_form, defScope s_bridge_form, [], []⟩
def d_mirrored_bridge : He.DefD := ⟨("mirrored_bridge", none), "mirrored_bridge", "mirrored_bridge", defArgs s_mirrored_bridge, defBody s_mirrored_bridge, defScope s_mirrored_bridge, [], []⟩
def d_is_own_mirror : He.DefD := ⟨("is_own_mirror", none), "is_own_mirror", "is_own_mirror", defArgs s_is_own_mirror, defBody s_is_own_mirror, defScope s_is_own_mirror, [], []⟩
def d_common_divisor : He.DefD := ⟨("common_divisor", none), "common_divisor", "common_divisor", defArgs s_common_divisor, defBody s_common_divisor, defScope s_common_divisor, [], []⟩
def d_all_bridges : He.DefD := ⟨("all_bridges", none), "all_bridges", "all_bridges", defArgs s_all_bridges, defBody s_all_bridges, defScope s_all_bridges, [], []⟩
def d_count_components : He.DefD := ⟨("count_components", none), "count_components", "count_components", defArgs s_count_components, defBody s_count_components, defScope s_count_components, [], []⟩
def d_crossings_of : He.DefD := ⟨("crossings_of", none), "crossings_of", "crossings_of", defArgs s_crossings_of, defBody s_crossings_of, defScope s_crossings_of, [], []⟩
def d__law_common : He.DefD := ⟨("_law_common", none), "_law_common", "_law_common", defArgs s__law_common, defBody s__law_common, defScope s__law_common, [], []⟩
def d__law_pair : He.DefD := ⟨("_law_pair", none), "_law_pair", "_law_pair", defArgs s__law_pair, defBody s__law_pair, defScope s__law_pair, [], []⟩
def d_law : He.DefD := ⟨("law", none), "law", "law", defArgs s_law, defBody s_law, defScope s_law, [], []⟩
def fn : List He.DefD := [d__law_draws, d__law_next, d__law_pick, d__law_form, d__law_row, d__law_alike, d_bridge_row, d_bridge_of, d_undone_number, d__undone, d_bridge_form, d_mirrored_bridge, d_is_own_mirror, d_common_divisor, d_all_bridges, d_count_components, d_crossings_of, d__law_common, d__law_pair, d_law]
def fa0 : List He.Fa := [.glo "_law_draws", .glo "_law_next", .glo "_law_pick", .glo "_law_form", .glo "_law_row", .glo "_law_alike", .glo "bridge_row", .glo "bridge_of", .glo "undone_number", .glo "_undone", .glo "bridge_form", .glo "mirrored_bridge", .glo "is_own_mirror", .glo "common_divisor", .glo "all_bridges", .glo "count_components", .glo "crossings_of", .glo "_law_common", .glo "_law_pair", .glo "law", .free "abs", .free "bool", .free "int", .free "isinstance", .free "len", .free "min", .free "range", .free "reversed", .free "str", .free "sum"]
def fa1 : List He.Fa := [.free "tuple"]
def fa : List He.Fa := fa0 ++ fa1
def loose : List PySem.Str := ["common_divisor", "undone_number", "_undone", "bridge_form", "mirrored_bridge", "is_own_mirror", "bridge_row", "bridge_of", "crossings_of", "all_bridges", "count_components", "_law_draws", "_law_next", "_law_pick", "_law_alike", "_law_common", "_law_form", "_law_row", "_law_pair"]
abbrev R : PySem.W.OpenRow := PySem.W.OpenLaw.row PySem.Challenge.rw_turnwarrant_k93_links_of_two_bridges
abbrev hk : PySem.W.Hook := He.hookD 4 fa fn
def ob (s : PySem.W.SharedT) : He.AlD := He.obsDG 4 fa fn (HandSHeadRun.getT s)
theorem ob_eq (s : PySem.W.SharedT) : ob s = hk.obs s.abs := He.obsDG_eq (HandSHeadRun.getT_eq s)
theorem run (w : World) : HandSHeadRun.RunEq R (PySem.W.view R.prog [23]) hk ob 1560 loose w := by
  intro os
  kernel_rfl
theorem facts {P : Program} {w : World} {K : PySem.W.Frag} {h : Heap} {mg : Str → Option Value} {f : Addr} (X : K.In h) (G : h.Ns mainGlobals mg) (hfa : mg ("law" : Str) = some (.ref f)) (c : He.SaysD fa fn K) :
    ∃ fd : FuncData, (∀ (s : Shared) (v : Value), BindsTo s fd ⟨[v], []⟩ [("script", v)]) ∧ ∀ base : Heap, K.In base → base.Ns mainGlobals mg → FnOk P w K mg base CX0 8 f fd ["script"] (spD K 1 F_law) := by
  have Z : Zs mg := ⟨He.free_ok X G (c.fact 20 (f := .free "abs") rfl), He.free_ok X G (c.fact 21 (f := .free "bool") rfl), He.free_ok X G (c.fact 22 (f := .free "int") rfl), He.free_ok X G (c.fact 23 (f := .free "isinstance") rfl), He.free_ok X G (c.fact 24 (f := .free "len") rfl), He.free_ok X G (c.fact 25 (f := .free "min") rfl), He.free_ok X G (c.fact 26 (f := .free "range") rfl), He.free_ok X G (c.fact 27 (f := .free "reversed") rfl), He.free_ok X G (c.fact 28 (f := .free "str") rfl), He.free_ok X G (c.fact 29 (f := .free "sum") rfl), He.free_ok X G (c.fact 30 (f := .free "tuple") rfl)⟩
  have D__law_draws : Dn K mg "_law_draws" s__law_draws ["script", "many"] := by
    obtain ⟨fd, F⟩ := c.def_ 0 (d := d__law_draws) rfl
    exact dn_mk F (He.glo_ok X G (c.fact 0 (f := .glo "_law_draws") rfl)) fun _ _ _ _ _ _ us hl => match us, hl with | [_, _], _ => rfl
  have D__law_next : Dn K mg "_law_next" s__law_next ["w", "many"] := by
    obtain ⟨fd, F⟩ := c.def_ 1 (d := d__law_next) rfl
    exact dn_mk F (He.glo_ok X G (c.fact 1 (f := .glo "_law_next") rfl)) fun _ _ _ _ _ _ us hl => match us, hl with | [_, _], _ => rfl
  have D__law_pick : Dn K mg "_law_pick" s__law_pick ["w", "rows"] := by
    obtain ⟨fd, F⟩ := c.def_ 2 (d := d__law_pick) rfl
    exact dn_mk F (He.glo_ok X G (c.fact 2 (f := .glo "_law_pick") rfl)) fun _ _ _ _ _ _ us hl => match us, hl with | [_, _], _ => rfl
  have D__law_form : Dn K mg "_law_form" s__law_form ["p", "q"] := by
    obtain ⟨fd, F⟩ := c.def_ 3 (d := d__law_form) rfl
    exact dn_mk F (He.glo_ok X G (c.fact 3 (f := .glo "_law_form") rfl)) fun _ _ _ _ _ _ us hl => match us, hl with | [_, _], _ => rfl
  have D__law_row : Dn K mg "_law_row" s__law_row ["p", "q"] := by
    obtain ⟨fd, F⟩ := c.def_ 4 (d := d__law_row) rfl
    exact dn_mk F (He.glo_ok X G (c.fact 4 (f := .glo "_law_row") rfl)) fun _ _ _ _ _ _ us hl => match us, hl with | [_, _], _ => rfl
  have D__law_alike : Dn K mg "_law_alike" s__law_alike ["told", "due"] := by
    obtain ⟨fd, F⟩ := c.def_ 5 (d := d__law_alike) rfl
    exact dn_mk F (He.glo_ok X G (c.fact 5 (f := .glo "_law_alike") rfl)) fun _ _ _ _ _ _ us hl => match us, hl with | [_, _], _ => rfl
  have D_bridge_row : Dn K mg "bridge_row" s_bridge_row ["pair"] := by
    obtain ⟨fd, F⟩ := c.def_ 6 (d := d_bridge_row) rfl
    exact dn_mk F (He.glo_ok X G (c.fact 6 (f := .glo "bridge_row") rfl)) fun _ _ _ _ _ _ us hl => match us, hl with | [_], _ => rfl
  have D_bridge_of : Dn K mg "bridge_of" s_bridge_of ["row"] := by
    obtain ⟨fd, F⟩ := c.def_ 7 (d := d_bridge_of) rfl
    exact dn_mk F (He.glo_ok X G (c.fact 7 (f := .glo "bridge_of") rfl)) fun _ _ _ _ _ _ us hl => match us, hl with | [_], _ => rfl
  have D_undone_number : Dn K mg "undone_number" s_undone_number ["p", "x"] := by
    obtain ⟨fd, F⟩ := c.def_ 8 (d := d_undone_number) rfl
    exact dn_mk F (He.glo_ok X G (c.fact 8 (f := .glo "undone_number") rfl)) fun _ _ _ _ _ _ us hl => match us, hl with | [_, _], _ => rfl
  have D__undone : Dn K mg "_undone" s__undone ["p", "q"] := by
    obtain ⟨fd, F⟩ := c.def_ 9 (d := d__undone) rfl
    exact dn_mk F (He.glo_ok X G (c.fact 9 (f := .glo "_undone") rfl)) fun _ _ _ _ _ _ us hl => match us, hl with | [_, _], _ => rfl
  have D_bridge_form : Dn K mg "bridge_form" s_bridge_form ["pair"] := by
    obtain ⟨fd, F⟩ := c.def_ 10 (d := d_bridge_form) rfl
    exact dn_mk F (He.glo_ok X G (c.fact 10 (f := .glo "bridge_form") rfl)) fun _ _ _ _ _ _ us hl => match us, hl with | [_], _ => rfl
  have D_mirrored_bridge : Dn K mg "mirrored_bridge" s_mirrored_bridge ["pair"] := by
    obtain ⟨fd, F⟩ := c.def_ 11 (d := d_mirrored_bridge) rfl
    exact dn_mk F (He.glo_ok X G (c.fact 11 (f := .glo "mirrored_bridge") rfl)) fun _ _ _ _ _ _ us hl => match us, hl with | [_], _ => rfl
  have D_is_own_mirror : Dn K mg "is_own_mirror" s_is_own_mirror ["pair"] := by
    obtain ⟨fd, F⟩ := c.def_ 12 (d := d_is_own_mirror) rfl
    exact dn_mk F (He.glo_ok X G (c.fact 12 (f := .glo "is_own_mirror") rfl)) fun _ _ _ _ _ _ us hl => match us, hl with | [_], _ => rfl
  have D_common_divisor : Dn K mg "common_divisor" s_common_divisor ["a", "b"] := by
    obtain ⟨fd, F⟩ := c.def_ 13 (d := d_common_divisor) rfl
    exact dn_mk F (He.glo_ok X G (c.fact 13 (f := .glo "common_divisor") rfl)) fun _ _ _ _ _ _ us hl => match us, hl with | [_, _], _ => rfl
  have D_all_bridges : Dn K mg "all_bridges" s_all_bridges ["p"] := by
    obtain ⟨fd, F⟩ := c.def_ 14 (d := d_all_bridges) rfl
    exact dn_mk F (He.glo_ok X G (c.fact 14 (f := .glo "all_bridges") rfl)) fun _ _ _ _ _ _ us hl => match us, hl with | [_], _ => rfl
  have D_count_components : Dn K mg "count_components" s_count_components ["pair"] := by
    obtain ⟨fd, F⟩ := c.def_ 15 (d := d_count_components) rfl
    exact dn_mk F (He.glo_ok X G (c.fact 15 (f := .glo "count_components") rfl)) fun _ _ _ _ _ _ us hl => match us, hl with | [_], _ => rfl
  have D_crossings_of : Dn K mg "crossings_of" s_crossings_of ["pair"] := by
    obtain ⟨fd, F⟩ := c.def_ 16 (d := d_crossings_of) rfl
    exact dn_mk F (He.glo_ok X G (c.fact 16 (f := .glo "crossings_of") rfl)) fun _ _ _ _ _ _ us hl => match us, hl with | [_], _ => rfl
  have D__law_common : Dn K mg "_law_common" s__law_common ["a", "b"] := by
    obtain ⟨fd, F⟩ := c.def_ 17 (d := d__law_common) rfl
    exact dn_mk F (He.glo_ok X G (c.fact 17 (f := .glo "_law_common") rfl)) fun _ _ _ _ _ _ us hl => match us, hl with | [_, _], _ => rfl
  have D__law_pair : Dn K mg "_law_pair" s__law_pair ["row"] := by
    obtain ⟨fd, F⟩ := c.def_ 18 (d := d__law_pair) rfl
    exact dn_mk F (He.glo_ok X G (c.fact 18 (f := .glo "_law_pair") rfl)) fun _ _ _ _ _ _ us hl => match us, hl with | [_], _ => rfl
  obtain ⟨fd, F⟩ := c.def_ 19 (d := d_law) rfl
  have e := hfa.symm.trans (He.glo_ok X G (c.fact 19 (f := .glo "law") rfl))
  cases e
  have b := FunD.bindsA (ps := ["script"]) F fun _ _ _ _ _ _ us hl => match us, hl with | [_], _ => rfl
  refine ⟨fd, fun s v => b s [v] rfl, fun base _ _ => ?_⟩
  have h__law_draws : Has P w K mg base 1 "_law_draws" _ _ := ok__law_draws Z D__law_draws 
  have h__law_next : Has P w K mg base 1 "_law_next" _ _ := ok__law_next Z D__law_next 
  have h__law_pick : Has P w K mg base 2 "_law_pick" _ _ := ok__law_pick Z D__law_pick h__law_next
  have h__law_form : Has P w K mg base 1 "_law_form" _ _ := ok__law_form Z D__law_form 
  have h__law_row : Has P w K mg base 1 "_law_row" _ _ := ok__law_row Z D__law_row 
  have h__law_alike : Has P w K mg base 7 "_law_alike" _ _ := ok__law_alike Z D__law_alike  6
  have h_bridge_row : Has P w K mg base 1 "bridge_row" _ _ := ok_bridge_row Z D_bridge_row 
  have h_bridge_of : Has P w K mg base 1 "bridge_of" _ _ := ok_bridge_of Z D_bridge_of 
  have h_undone_number : Has P w K mg base 1 "undone_number" _ _ := ok_undone_number Z D_undone_number 
  have h__undone : Has P w K mg base 2 "_undone" _ _ := ok__undone Z D__undone h_undone_number
  have h_bridge_form : Has P w K mg base 3 "bridge_form" _ _ := ok_bridge_form Z D_bridge_form h__undone
  have h_mirrored_bridge : Has P w K mg base 1 "mirrored_bridge" _ _ := ok_mirrored_bridge Z D_mirrored_bridge 
  have h_is_own_mirror : Has P w K mg base 4 "is_own_mirror" _ _ := ok_is_own_mirror Z D_is_own_mirror h_bridge_form h_mirrored_bridge
  have h_common_divisor : Has P w K mg base 1 "common_divisor" _ _ := ok_common_divisor Z D_common_divisor 
  have h_all_bridges : Has P w K mg base 4 "all_bridges" _ _ := ok_all_bridges Z D_all_bridges h_bridge_form h_common_divisor
  have h_count_components : Has P w K mg base 1 "count_components" _ _ := ok_count_components Z D_count_components 
  have h_crossings_of : Has P w K mg base 2 "crossings_of" _ _ := ok_crossings_of Z D_crossings_of h_bridge_row
  have h__law_common : Has P w K mg base 1 "_law_common" _ _ := ok__law_common Z D__law_common 
  have h__law_pair : Has P w K mg base 1 "_law_pair" _ _ := ok__law_pair Z D__law_pair 
  exact ok_law Z F h__law_alike h__law_common h__law_draws h__law_form h__law_next h__law_pair h__law_pick h__law_row h_all_bridges h_bridge_form h_bridge_of h_bridge_row h_count_components h_crossings_of h_is_own_mirror h_mirrored_bridge
end K93

set_option Elab.async false
set_option linter.all false
set_option autoImplicit false
set_option maxRecDepth 100000
set_option maxHeartbeats 1000000
namespace K93
open PySem PySem.Spec PyProof.Rows L2 DL
abbrev iD (n : Nat) : Dv := .int (n : Int)
abbrev pr (p q : Nat) : Dv := .tuple [.int p, .int q]
theorem sPar_sh {i j : Nat} {fa fb : M} {ρ ρ1 ρ2 : Rho} {a b : Dv} (ha : fa ρ = some (.sh a, ρ1)) (hb : fb ρ1 = some (.sh b, ρ2)) : sPar i j (aCons fa (aCons fb aNil)) ρ = some (.nx ((ρ2.set i (.sh a)).set j (.sh b))) := by
  unfold sPar
  rw [aCons_eq ha (aCons_eq hb rfl)]
  rfl
theorem while_t {c : MB} {b : MS} {n : Nat} {ρ ρ1 ρ2 : Rho} (hc : c ρ = some (true, ρ1)) (hb : b ρ1 = some (.nx ρ2)) : whileS c b (n + 1) ρ = whileS c b n ρ2 := by
  simp only [whileS, hc, Option.bind_some, if_true, hb]
theorem while_f {c : MB} {b : MS} {n : Nat} {ρ ρ1 : Rho} (hc : c ρ = some (false, ρ1)) : whileS c b (n + 1) ρ = some (.nx ρ1) := by
  simp only [whileS, hc, Option.bind_some]
  rfl
theorem ev {i : Nat} {ρ : Rho} {d : Dv} (h : ρ[i]? = some (.sh d)) : eVar i ρ = some (.sh d, ρ) := by
  unfold eVar
  rw [h]
theorem fv {i : Nat} {ρ : Rho} {d : Dv} (h : ρ[i]? = some (.sh d)) : frM (eVar i) ρ = some (.sh d, ρ) := fr_sh (ev h)
theorem pv' {i : Nat} {ρ : Rho} {d : Dv} (h : ρ[i]? = some (.sh d)) : pkM (eVar i) ρ = some (.sh d, ρ) := pk_sh (ev h)
/-! the common divisor -/
theorem common_loop : ∀ (n a b : Nat), b < n → whileS (tB (binS neqD (eVar 1) (eC (.int 0)))) (sPar 0 1 (aCons (frM (eVar 1)) (aCons (frM (binS modD (eCall intG (aCons (eVar 0) aNil)) (eVar 1))) aNil))) n [.sh (iD a), .sh (iD b)] = some (.nx [.sh (iD (Nat.gcd a b)), .sh (.int 0)])
  | 0, a, b, h => absurd h (Nat.not_lt_zero _)
  | n + 1, a, b, h => by
    by_cases hb : b = 0
    · subst hb
      rw [while_f (ρ1 := [.sh (iD a), .sh (iD 0)]) (by simp [DL.tB, binS, pkM, eVar, eC, dat, neqD, eqD, Rz.rv])]
      simp
    · have hb0 : 0 < b := by omega
      have hbz : ¬ (b : Int) = 0 := by omega
      rw [while_t (ρ1 := [.sh (iD a), .sh (iD b)]) (ρ2 := [.sh (iD b), .sh (iD (a % b))]) (by simp [DL.tB, binS, pkM, eVar, eC, dat, neqD, eqD, Rz.rv, hb])
        (by simp [sPar, setR, aCons, aNil, frM, eVar, binS, pkM, eCall, dats, dat, intG, Rz.rv, modD, hb0])]
      rw [common_loop n b (a % b) (by have := Nat.mod_lt a hb0; omega), Nat.gcd_comm b (a % b), ← Nat.gcd_rec, Nat.gcd_comm]
theorem common_ok (a b : Nat) (h : b < 1000) : F__law_common [.sh (iD a), .sh (iD b)] = some (.sh (iD (Nat.gcd a b)), [.sh (iD a), .sh (iD b)]) := by
  have h1 := whileS_le (m := 1048576) (by omega) (common_loop 1000 a b h)
  exact runF_eq (np := 2) (N := 2) (ix := []) (g := g__law_common) (as := [.sh (iD a), .sh (iD b)]) rfl ((sSeq_nx h1).trans (sRet_sh (ev rfl))) rfl

theorem tV_int {i : Nat} {ρ : Rho} {n : Nat} (h : ρ[i]? = some (.sh (iD n))) : tV (eVar i) ρ = some (decide (n ≠ 0), ρ) := by
  unfold DL.tV
  rw [pv' h]
  simp only [Option.bind_some, dat, truD]
  congr 2
  by_cases hn : n = 0 <;> simp [hn]
theorem common_loop2 : ∀ (n a b : Nat), b < n → whileS (tV (eVar 1)) (sPar 0 1 (aCons (frM (eVar 1)) (aCons (frM (binS modD (eVar 0) (eVar 1))) aNil))) n [.sh (iD a), .sh (iD b)] = some (.nx [.sh (iD (Nat.gcd a b)), .sh (.int 0)])
  | 0, a, b, h => absurd h (Nat.not_lt_zero _)
  | n + 1, a, b, h => by
    by_cases hb : b = 0
    · subst hb
      rw [while_f (ρ1 := [.sh (iD a), .sh (iD 0)]) ((tV_int rfl).trans (by simp))]
      simp
    · have hb0 : 0 < b := by omega
      rw [while_t (ρ1 := [.sh (iD a), .sh (iD b)]) (ρ2 := [.sh (iD b), .sh (iD (a % b))]) ((tV_int rfl).trans (by simp [hb]))
        (by simp [sPar, setR, aCons, aNil, frM, eVar, binS, pkM, dat, Rz.rv, modD, hb0])]
      rw [common_loop2 n b (a % b) (by have := Nat.mod_lt a hb0; omega), Nat.gcd_comm b (a % b), ← Nat.gcd_rec, Nat.gcd_comm]
theorem common2_ok (a b : Nat) (h : b < 1000) : F_common_divisor [.sh (iD a), .sh (iD b)] = some (.sh (iD (Nat.gcd a b)), [.sh (iD a), .sh (iD b)]) := by
  have h0 : sPar 0 1 (aCons (frM (eCall absG (aCons (eVar 0) aNil))) (aCons (frM (eCall absG (aCons (eVar 1) aNil))) aNil)) [.sh (iD a), .sh (iD b)] = some (.nx [.sh (iD a), .sh (iD b)]) := by
    have ha : ¬ (a : Int) < 0 := by omega
    have hb : ¬ (b : Int) < 0 := by omega
    simp [sPar, setR, aCons, aNil, frM, eVar, eCall, dats, dat, absG, Rz.rv, ha, hb]
  have h1 := whileS_le (m := 1048576) (by omega) (common_loop2 1000 a b h)
  exact runF_eq (np := 2) (N := 2) (ix := []) (g := g_common_divisor) (as := [.sh (iD a), .sh (iD b)]) rfl ((sSeq_nx h0).trans ((sSeq_nx h1).trans (sRet_sh (ev rfl)))) rfl
/-! the rows -/
def rowL : Nat → Nat → Nat → List Nat
  | 0, _, _ => []
  | n + 1, p, q => if q = 0 then [] else p / q :: rowL n q (p % q)
theorem div_ok {a b : Nat} (h : 0 < b) (h2 : b < 1000000) : divD (iD a) (iD b) = some (.sh (iD (a / b))) := by
  have h3 : (b : Int) < 1073741824 := by omega
  simp [divD, h, h3]
theorem row_loop : ∀ (n p q : Nat) (acc : List Dv), q < n → n ≤ 100000 → acc.length + n ≤ 200000 → ∃ p', whileS (tB (binS (cmpD fun i j => decide (j < i)) (eVar 1) (eC (.int 0)))) (sSeq (sSet 2 (binS addD (eVar 2) (eTup (aCons (frM (binS divD (eVar 0) (eVar 1))) aNil))))
    (sPar 0 1 (aCons (frM (eVar 1)) (aCons (frM (binS modD (eCall intG (aCons (eVar 0) aNil)) (eVar 1))) aNil)))) n [.sh (iD p), .sh (iD q), .sh (.tuple acc)] = some (.nx [.sh (iD p'), .sh (.int 0), .sh (.tuple (acc ++ (rowL n p q).map iD))])
  | 0, p, q, acc, h, _, _ => absurd h (Nat.not_lt_zero _)
  | n + 1, p, q, acc, h, hn, hl => by
    by_cases hb : q = 0
    · subst hb
      rw [while_f (ρ1 := [.sh (iD p), .sh (iD 0), .sh (.tuple acc)]) (by simp [DL.tB, binS, pkM, eVar, eC, dat, cmpD, Rz.rv])]
      exact ⟨p, by simp [rowL]⟩
    · have hb0 : 0 < q := by omega
      have hz : acc.length + 1 ≤ sizeLine := by have := szl_6; omega
      have hz1 : 1 ≤ sizeLine := by have := szl_6; omega
      rw [while_t (ρ1 := [.sh (iD p), .sh (iD q), .sh (.tuple acc)]) (ρ2 := [.sh (iD q), .sh (iD (p % q)), .sh (.tuple (acc ++ [iD (p / q)]))]) (by simp [DL.tB, binS, pkM, eVar, eC, dat, cmpD, Rz.rv, hb0])
        (by simp [sSeq, sSet, addD, eTup, shs, sPar, setR, aCons, aNil, frM, eVar, binS, pkM, eCall, dats, dat, intG, Rz.rv, modD, hb0, div_ok hb0 (show q < 1000000 by omega), hz, hz1])]
      obtain ⟨p', e⟩ := row_loop n q (p % q) (acc ++ [iD (p / q)]) (by have := Nat.mod_lt p hb0; omega) (by omega) (by simp; omega)
      exact ⟨p', by rw [e]; simp [rowL, hb]⟩
theorem row_ok (p q : Nat) (h : q < 90000) : F__law_row [.sh (iD p), .sh (iD q)] = some (.sh (.tuple ((rowL (q + 1) p q).map iD)), [.sh (iD p), .sh (iD q)]) := by
  obtain ⟨p', e⟩ := row_loop (q + 1) p q [] (by omega) (by omega) (by simp; omega)
  have h1 := whileS_le (m := 1048576) (by omega) e
  have h0 : sSet 2 (eTup aNil) [.sh (iD p), .sh (iD q), .no] = some (.nx [.sh (iD p), .sh (iD q), .sh (.tuple [])]) := by simp [sSet, eTup, aNil, shs]
  exact runF_eq (np := 2) (N := 3) (ix := []) (g := g__law_row) (as := [.sh (iD p), .sh (iD q)]) rfl ((sSeq_nx h0).trans ((sSeq_nx h1).trans (sRet_sh (ev rfl)))) rfl
theorem brow_loop (S : Sl) : ∀ (n p q : Nat) (acc : List Dv), q < n → n ≤ 100000 → acc.length + n ≤ 200000 → ∃ p', whileS (tB (binS (cmpD fun i j => decide (j < i)) (eVar 2) (eC (.int 0)))) (sSeq (sExpr (mutM "list" appG (eVar 3) (aCons (frM (binS divD (eVar 1) (eVar 2))) aNil)))
    (sPar 1 2 (aCons (frM (eVar 2)) (aCons (frM (binS modD (eVar 1) (eVar 2))) aNil)))) n [S, .sh (iD p), .sh (iD q), .ow (.lst acc)] = some (.nx [S, .sh (iD p'), .sh (.int 0), .ow (.lst (acc ++ (rowL n p q).map iD))])
  | 0, p, q, acc, h, _, _ => absurd h (Nat.not_lt_zero _)
  | n + 1, p, q, acc, h, hn, hl => by
    by_cases hb : q = 0
    · subst hb
      rw [while_f (ρ1 := [S, .sh (iD p), .sh (iD 0), .ow (.lst acc)]) (by simp [DL.tB, binS, pkM, eVar, eC, dat, cmpD, Rz.rv])]
      exact ⟨p, by simp [rowL]⟩
    · have hb0 : 0 < q := by omega
      have hz : acc.length < sizeLine := by have := szl_6; omega
      rw [while_t (ρ1 := [S, .sh (iD p), .sh (iD q), .ow (.lst acc)]) (ρ2 := [S, .sh (iD q), .sh (iD (p % q)), .ow (.lst (acc ++ [iD (p / q)]))]) (by simp [DL.tB, binS, pkM, eVar, eC, dat, cmpD, Rz.rv, hb0])
        (by simp [sSeq, sExpr, mutM, isOb, obT, shs, appG, sPar, setR, aCons, aNil, frM, eVar, binS, pkM, dat, Rz.rv, modD, hb0, div_ok hb0 (show q < 1000000 by omega), hz])]
      obtain ⟨p', e⟩ := brow_loop S n q (p % q) (acc ++ [iD (p / q)]) (by have := Nat.mod_lt p hb0; omega) (by omega) (by simp; omega)
      exact ⟨p', by rw [e]; simp [rowL, hb]⟩
theorem brow_ok (p q : Nat) (h : q < 90000) : F_bridge_row [.sh (pr p q)] = some (.sh (.tuple ((rowL (q + 1) p q).map iD)), [.sh (pr p q)]) := by
  obtain ⟨p', e⟩ := brow_loop (.sh (pr p q)) (q + 1) p q [] (by omega) (by omega) (by simp; omega)
  have h1 := whileS_le (m := 1048576) (by omega) e
  have h0 : sAsg (eVar 0) (tTupT [(tName 1), (tName 2)]) [.sh (pr p q), .no, .no, .no] = some (.nx [.sh (pr p q), .sh (iD p), .sh (iD q), .no]) := by simp [sAsg, frM, eVar, tTupT, tMany, tName]
  have h2 : sSet 3 (eLst aNil) [.sh (pr p q), .sh (iD p), .sh (iD q), .no] = some (.nx [.sh (pr p q), .sh (iD p), .sh (iD q), .ow (.lst [])]) := by simp [sSet, eLst, aNil, shs]
  have h3 : sRet [] (eCall tupleG (aCons (eVar 3) aNil)) [.sh (pr p q), .sh (iD p'), .sh (.int 0), .ow (.lst ((rowL (q + 1) p q).map iD))] = some (.rt (.sh (.tuple ((rowL (q + 1) p q).map iD))) [.sh (pr p q), .sh (iD p'), .sh (.int 0), .ow (.lst ((rowL (q + 1) p q).map iD))]) := by
    simp [sRet, eCall, aCons, aNil, eVar, dats, dat, obD, tupleG, Rz.rv]
  exact runF_eq (np := 1) (N := 4) (ix := []) (g := g_bridge_row) (as := [.sh (pr p q)]) rfl ((sSeq_nx h0).trans ((sSeq_nx h2).trans ((sSeq_nx h1).trans h3))) rfl

end K93

set_option Elab.async false
set_option linter.all false
set_option autoImplicit false
set_option maxRecDepth 100000
set_option maxHeartbeats 1000000
namespace K93
open PySem PySem.Spec PyProof.Rows L2 DL
/-! pairs of rows -/
def pairF : List Nat → Nat × Nat → Nat × Nat
  | [], z => z
  | x :: xs, z => pairF xs (x * z.1 + z.2, z.1)
theorem mul_small {i j : Int} (h1 : 0 ≤ i) (h2 : i < 1000) : mulD (.int i) (.int j) = some (.sh (.int (i * j))) := by
  unfold mulD
  simp only
  rw [if_pos (.inl ⟨by omega, by omega⟩)]
theorem forS_c {t : MT} {b : MS} {d : Dv} {ds : List Dv} {ρ ρ1 ρ2 : Rho} (h1 : t d ρ = some ρ1) (h2 : b ρ1 = some (.nx ρ2)) : forS t b (d :: ds) ρ = forS t b ds ρ2 := by
  simp only [forS, h1, Option.bind_some, h2]
theorem pair_loop (S : Sl) : ∀ (xs : List Nat) (p q : Nat) (s3 : Sl), (∀ x ∈ xs, x < 1000) → ∃ s3', forS (tName 3) (sPar 1 2 (aCons (frM (binS addD (binS mulD (eVar 3) (eVar 1)) (eVar 2))) (aCons (frM (eVar 1)) aNil))) (xs.map iD) [S, .sh (iD p), .sh (iD q), s3] =
    some (.nx [S, .sh (iD (pairF xs (p, q)).1), .sh (iD (pairF xs (p, q)).2), s3'])
  | [], p, q, s3, _ => ⟨s3, rfl⟩
  | x :: xs, p, q, s3, h => by
    have hm := mul_small (i := x) (j := p) (by omega) (by have := h x (List.mem_cons_self ..); omega)
    obtain ⟨s3', e⟩ := pair_loop S xs (x * p + q) p (.sh (iD x)) fun y hy => h y (List.mem_cons_of_mem _ hy)
    have hb : sPar 1 2 (aCons (frM (binS addD (binS mulD (eVar 3) (eVar 1)) (eVar 2))) (aCons (frM (eVar 1)) aNil)) [S, .sh (iD p), .sh (iD q), .sh (iD x)] = some (.nx [S, .sh (iD (x * p + q)), .sh (iD p), .sh (iD x)]) := by
      have ha : addD (.int ((x : Int) * (p : Int))) (iD q) = some (.sh (iD (x * p + q))) := congrArg (fun z => some (Rz.sh (PyData.int z))) (by rw [Int.natCast_add, Int.natCast_mul])
      exact sPar_sh (fr_sh (bin_sh (pk_sh (bin_sh (pv' rfl) (pv' rfl) hm)) (pv' rfl) ha)) (fv rfl)
    exact ⟨s3', (forS_c (ρ1 := [S, .sh (iD p), .sh (iD q), .sh (iD x)]) rfl hb).trans e⟩
def pairL (xs : List Nat) : Nat × Nat := pairF xs.reverse (1, 0)
theorem two_as (S : Sl) : sAsg (eTup (aCons (eC (.int 1)) (aCons (eC (.int 0)) aNil))) (tTupT [(tName 1), (tName 2)]) [S, .no, .no, .no] = some (.nx [S, .sh (iD 1), .sh (iD 0), .no]) := by
  have := szl_6
  have h2 : 2 ≤ sizeLine := by omega
  simp [sAsg, frM, eTup, aCons, aNil, eC, shs, h2, tTupT, tMany, tName]
theorem tup2 {fa fb : M} {ρ : Rho} {a b : Dv} (ha : fa ρ = some (.sh a, ρ)) (hb : fb ρ = some (.sh b, ρ)) : eTup (aCons fa (aCons fb aNil)) ρ = some (.sh (.tuple [a, b]), ρ) := by
  unfold eTup
  rw [aCons_eq ha (aCons_eq hb rfl)]
  simp only [Option.bind_some, shs, Option.map_some]
  rw [if_pos (by have := szl_6; simp; omega)]
theorem iSeq_t {f : M} {ρ ρ1 : Rho} {ds : List Dv} (h : f ρ = some (.sh (.tuple ds), ρ1)) : iSeq f ρ = some (ds, ρ1) := by
  unfold iSeq
  rw [fr_sh h]
  rfl
theorem bof_ok (xs : List Nat) (h : ∀ x ∈ xs, x < 1000) : F_bridge_of [.sh (.tuple (xs.map iD))] = some (.sh (pr (pairL xs).1 (pairL xs).2), [.sh (.tuple (xs.map iD))]) := by
  obtain ⟨s3, e⟩ := pair_loop (.sh (.tuple (xs.map iD))) xs.reverse 1 0 .no fun x hx => h x (List.mem_reverse.mp hx)
  have hi : iRevS (eVar 0) [.sh (.tuple (xs.map iD)), .sh (iD 1), .sh (iD 0), .no] = some (xs.reverse.map iD, [.sh (.tuple (xs.map iD)), .sh (iD 1), .sh (iD 0), .no]) := by
    unfold iRevS
    rw [iSeq_t (ev rfl)]
    simp
  exact runF_eq (np := 1) (N := 4) (ix := []) (g := g_bridge_of) (as := [.sh (.tuple (xs.map iD))]) rfl ((sSeq_nx (two_as _)).trans ((sSeq_nx ((sFor_eq hi).trans e)).trans (sRet_sh (tup2 (fv rfl) (fv rfl))))) rfl
theorem lpair_ok (xs : List Nat) (h : ∀ x ∈ xs, x < 1000) : F__law_pair [.sh (.tuple (xs.map iD))] = some (.sh (pr (pairL xs).1 (pairL xs).2), [.sh (.tuple (xs.map iD))]) := by
  obtain ⟨s3, e⟩ := pair_loop (.sh (.tuple (xs.map iD))) xs.reverse 1 0 .no fun x hx => h x (List.mem_reverse.mp hx)
  have hi : iSeq (unS revD (eVar 0)) [.sh (.tuple (xs.map iD)), .sh (iD 1), .sh (iD 0), .no] = some (xs.reverse.map iD, [.sh (.tuple (xs.map iD)), .sh (iD 1), .sh (iD 0), .no]) :=
    iSeq_t (by simp [unS, eVar, dat, revD, Rz.rv])
  exact runF_eq (np := 1) (N := 4) (ix := []) (g := g__law_pair) (as := [.sh (.tuple (xs.map iD))]) rfl ((sSeq_nx (two_as _)).trans ((sSeq_nx ((sFor_eq hi).trans e)).trans (sRet_sh (tup2 (fv rfl) (fv rfl))))) rfl
end K93

set_option Elab.async false
set_option linter.all false
set_option autoImplicit false
set_option maxRecDepth 100000
set_option maxHeartbeats 1000000
namespace K93
open PySem PySem.Spec PyProof.Rows L2 DL
/-! the undone number -/
def unL : Nat → Nat → Nat → Int → Int → Int
  | 0, _, _, a, _ => a
  | n + 1, one, other, a, b => if other = 0 then a else unL n other (one % other) b (a - ((one / other : Nat) : Int) * b)
theorem un_loop (s0 s1 : Sl) : ∀ (n one other : Nat) (a b : Int) (s6 : Sl), other < n → n ≤ 1000 → one < 1000 → ∃ x y z, whileS (tV (eVar 3)) (sSeq (sSet 6 (binS divD (eVar 2) (eVar 3)))
    (sSeq (sPar 2 3 (aCons (frM (eVar 3)) (aCons (frM (binS subD (eVar 2) (binS mulD (eVar 6) (eVar 3)))) aNil)))
    (sPar 4 5 (aCons (frM (eVar 5)) (aCons (frM (binS subD (eVar 4) (binS mulD (eVar 6) (eVar 5)))) aNil))))) n [s0, s1, .sh (iD one), .sh (iD other), .sh (.int a), .sh (.int b), s6] =
      some (.nx [s0, s1, x, .sh (.int 0), .sh (.int (unL n one other a b)), y, z])
  | 0, one, other, a, b, s6, h, _, _ => absurd h (Nat.not_lt_zero _)
  | n + 1, one, other, a, b, s6, h, hn, ho => by
    by_cases hb : other = 0
    · subst hb
      rw [while_f (ρ1 := [s0, s1, .sh (iD one), .sh (iD 0), .sh (.int a), .sh (.int b), s6]) ((tV_int rfl).trans (by simp))]
      exact ⟨_, _, _, by simp [unL]; exact ⟨rfl, rfl, rfl⟩⟩
    · have hb0 : 0 < other := by omega
      have hq : one / other < 1000 := Nat.lt_of_le_of_lt (Nat.div_le_self _ _) ho
      have m1 := mul_small (i := ((one / other : Nat) : Int)) (j := other) (Int.natCast_nonneg _) (by exact_mod_cast hq)
      have m2 := mul_small (i := ((one / other : Nat) : Int)) (j := b) (Int.natCast_nonneg _) (by exact_mod_cast hq)
      have em : (one : Int) - ((one / other : Nat) : Int) * (other : Int) = ((one % other : Nat) : Int) := by
        have := Nat.div_add_mod one other
        have h2 : ((other * (one / other) + one % other : Nat) : Int) = (one : Int) := by rw [this]
        rw [Int.natCast_add, Int.natCast_mul] at h2
        rw [Int.mul_comm]
        omega
      have b1 : sSet 6 (binS divD (eVar 2) (eVar 3)) [s0, s1, .sh (iD one), .sh (iD other), .sh (.int a), .sh (.int b), s6] = some (.nx [s0, s1, .sh (iD one), .sh (iD other), .sh (.int a), .sh (.int b), .sh (iD (one / other))]) :=
        sSet_sh (i := 6) (bin_sh (z := .sh (iD (one / other))) (pv' rfl) (pv' rfl) (div_ok hb0 (by omega)))
      have b2 : sPar 2 3 (aCons (frM (eVar 3)) (aCons (frM (binS subD (eVar 2) (binS mulD (eVar 6) (eVar 3)))) aNil)) [s0, s1, .sh (iD one), .sh (iD other), .sh (.int a), .sh (.int b), .sh (iD (one / other))] = some (.nx [s0, s1, .sh (iD other), .sh (iD (one % other)), .sh (.int a), .sh (.int b), .sh (iD (one / other))]) :=
        sPar_sh (fv rfl) (fr_sh (bin_sh (z := .sh (iD (one % other))) (pv' rfl) (pk_sh (bin_sh (pv' rfl) (pv' rfl) m1)) (by simp only [subD, em])))
      have b3 : sPar 4 5 (aCons (frM (eVar 5)) (aCons (frM (binS subD (eVar 4) (binS mulD (eVar 6) (eVar 5)))) aNil)) [s0, s1, .sh (iD other), .sh (iD (one % other)), .sh (.int a), .sh (.int b), .sh (iD (one / other))] = some (.nx [s0, s1, .sh (iD other), .sh (iD (one % other)), .sh (.int b), .sh (.int (a - ((one / other : Nat) : Int) * b)), .sh (iD (one / other))]) :=
        sPar_sh (fv rfl) (fr_sh (bin_sh (z := .sh (.int (a - ((one / other : Nat) : Int) * b))) (pv' rfl) (pk_sh (bin_sh (pv' rfl) (pv' rfl) m2)) rfl))
      rw [while_t (ρ1 := [s0, s1, .sh (iD one), .sh (iD other), .sh (.int a), .sh (.int b), s6]) ((tV_int rfl).trans (by simp [hb])) ((sSeq_nx b1).trans ((sSeq_nx b2).trans b3))]
      obtain ⟨x, y, z, e⟩ := un_loop s0 s1 n other (one % other) b (a - ((one / other : Nat) : Int) * b) (.sh (iD (one / other))) (by have := Nat.mod_lt one hb0; omega) (by omega) (by omega)
      exact ⟨x, y, z, by rw [e]; simp only [unL, if_neg hb]⟩
def unN (p x : Nat) : Nat := (unL 100 p (x % p) 0 1 % (p : Int)).toNat
theorem un_ok (p x : Nat) (h0 : 0 < p) (hp : p < 100) : F_undone_number [.sh (iD p), .sh (iD x)] = some (.sh (iD (unN p x)), [.sh (iD p), .sh (iD x)]) := by
  have hx := Nat.mod_lt x h0
  have hp0 : (0 : Int) < (p : Int) := by omega
  obtain ⟨a, b, c, e⟩ := un_loop (.sh (iD p)) (.sh (iD x)) 100 p (x % p) 0 1 .no (by omega) (by omega) (by omega)
  have h1 := whileS_le (m := 1048576) (by omega) e
  have b0 : sPar 2 3 (aCons (frM (eVar 0)) (aCons (frM (binS modD (eVar 1) (eVar 0))) aNil)) [.sh (iD p), .sh (iD x), .no, .no, .no, .no, .no] = some (.nx [.sh (iD p), .sh (iD x), .sh (iD p), .sh (iD (x % p)), .no, .no, .no]) :=
    sPar_sh (fv rfl) (fr_sh (bin_sh (z := .sh (iD (x % p))) (pv' rfl) (pv' rfl) (by simp [modD, h0])))
  have b1 : sAsg (eTup (aCons (eC (.int 0)) (aCons (eC (.int 1)) aNil))) (tTupT [(tName 4), (tName 5)]) [.sh (iD p), .sh (iD x), .sh (iD p), .sh (iD (x % p)), .no, .no, .no] = some (.nx [.sh (iD p), .sh (iD x), .sh (iD p), .sh (iD (x % p)), .sh (.int 0), .sh (.int 1), .no]) := by
    have := szl_6
    have h2 : 2 ≤ sizeLine := by omega
    simp [sAsg, frM, eTup, aCons, aNil, eC, shs, h2, tTupT, tMany, tName]
  have hz : modD (.int (unL 100 p (x % p) 0 1)) (iD p) = some (.sh (iD (unN p x))) := by
    have := Int.emod_nonneg (unL 100 p (x % p) 0 1) (b := (p : Int)) (by omega)
    simp only [modD, if_pos hp0, unN]
    exact congrArg (fun z => some (Rz.sh (PyData.int z))) (Int.toNat_of_nonneg this).symm
  exact runF_eq (np := 2) (N := 7) (ix := []) (g := g_undone_number) (as := [.sh (iD p), .sh (iD x)]) rfl ((sSeq_nx b0).trans ((sSeq_nx b1).trans ((sSeq_nx h1).trans (sRet_sh (bin_sh (z := .sh (iD (unN p x))) (pv' rfl) (pv' rfl) hz))))) rfl
/-! the forms -/
theorem two2 {fa fb : M} {ρ : Rho} {a b : Dv} (ha : fa ρ = some (.sh a, ρ)) (hb : fb ρ = some (.sh b, ρ)) : aCons fa (aCons fb aNil) ρ = some ([a, b].map .sh, ρ) := aCons_eq ha (aCons_eq hb rfl)
theorem one1 {fa : M} {ρ : Rho} {a : Dv} (ha : fa ρ = some (.sh a, ρ)) : aCons fa aNil ρ = some ([a].map .sh, ρ) := aCons_eq ha rfl
def u1N (p q : Nat) : Nat := if 1 < p then unN p q else 0
theorem und_ok (p q : Nat) (h0 : 0 < p) (hp : p < 100) : F__undone [.sh (iD p), .sh (iD q)] = some (.sh (iD (u1N p q)), [.sh (iD p), .sh (iD q)]) := by
  refine runF_eq (np := 2) (N := 2) (ix := []) (g := g__undone) (as := [.sh (iD p), .sh (iD q)]) (fl := .rt (.sh (iD (u1N p q))) [.sh (iD p), .sh (iD q)]) rfl (sRet_sh ?_) rfl
  unfold eIf
  by_cases h1 : 1 < p
  · have hc : (1 : Int) < (p : Int) := by omega
    have : (tB (binS (cmpD fun i j => decide (j < i)) (eVar 0) (eC (.int 1)))) ([.sh (iD p), .sh (iD q)] ++ List.replicate (2 - 2) .no) = some (true, [.sh (iD p), .sh (iD q)]) := by simp [DL.tB, binS, pkM, eVar, eC, dat, cmpD, Rz.rv, hc]
    rw [this]
    simp only [Option.bind_some, if_true]
    rw [eFn_sh (F := F_undone_number) (as := [iD p, iD q]) (two2 (fv rfl) (fv rfl)) (un_ok p q h0 hp)]
    simp only [u1N, if_pos h1]
  · have : (tB (binS (cmpD fun i j => decide (j < i)) (eVar 0) (eC (.int 1)))) ([.sh (iD p), .sh (iD q)] ++ List.replicate (2 - 2) .no) = some (false, [.sh (iD p), .sh (iD q)]) := by simp [DL.tB, binS, pkM, eVar, eC, dat, cmpD, Rz.rv]; omega
    rw [this]
    simp only [Option.bind_some, u1N, if_neg h1]
    rfl
def formE (p q : Nat) : Nat := if u1N p q < q then u1N p q else q
theorem bform_ok (p q : Nat) (h0 : 0 < p) (hp : p < 100) : F_bridge_form [.sh (pr p q)] = some (.sh (pr p (formE p q)), [.sh (pr p q)]) := by
  have b0 : sAsg (eVar 0) (tTupT [(tName 1), (tName 2)]) [.sh (pr p q), .no, .no] = some (.nx [.sh (pr p q), .sh (iD p), .sh (iD q)]) := by simp [sAsg, frM, eVar, tTupT, tMany, tName]
  have hm : min2G [iD q, iD (u1N p q)] = some (.sh (iD (formE p q))) := by
    unfold formE min2G
    simp only
    by_cases h : u1N p q < q
    · rw [if_pos h, if_pos (by omega)]
    · rw [if_neg h, if_neg (by omega)]
  have h2 : eFn F__undone (aCons (frM (eVar 1)) (aCons (frM (eVar 2)) aNil)) [.sh (pr p q), .sh (iD p), .sh (iD q)] = some (.sh (iD (u1N p q)), [.sh (pr p q), .sh (iD p), .sh (iD q)]) := eFn_sh (F := F__undone) (as := [iD p, iD q]) (two2 (fv rfl) (fv rfl)) (und_ok p q h0 hp)
  exact runF_eq (np := 1) (N := 3) (ix := []) (g := g_bridge_form) (as := [.sh (pr p q)]) rfl ((sSeq_nx b0).trans (sRet_sh (tup2 (fv rfl) (fr_sh (eCall_sh (z := .sh (iD (formE p q))) (two2 (ev rfl) h2) rfl hm))))) rfl
def mirN (p q : Nat) : Nat := (p - q) % p
theorem mir_ok {p q : Nat} (h0 : 0 < p) (hq : q < p) : (-(q : Int)) % (p : Int) = (mirN p q : Int) := by
  unfold mirN
  rw [Int.natCast_emod, show ((p - q : Nat) : Int) = -(q : Int) + p by omega, Int.add_emod_right]
theorem bmir_ok (p q : Nat) (h0 : 0 < p) (hq : q < p) : F_mirrored_bridge [.sh (pr p q)] = some (.sh (pr p (mirN p q)), [.sh (pr p q)]) := by
  have b0 : sAsg (eVar 0) (tTupT [(tName 1), (tName 2)]) [.sh (pr p q), .no, .no] = some (.nx [.sh (pr p q), .sh (iD p), .sh (iD q)]) := by simp [sAsg, frM, eVar, tTupT, tMany, tName]
  exact runF_eq (np := 1) (N := 3) (ix := []) (g := g_mirrored_bridge) (as := [.sh (pr p q)]) rfl ((sSeq_nx b0).trans (sRet_sh (tup2 (fv rfl) (fr_sh (bin_sh (d := .int (-(q : Int))) (e := iD p) (z := .sh (iD (mirN p q))) (pk_sh (by simp [unS, eVar, dat, negD, Rz.rv])) (pv' rfl) (by simp [modD, h0, mir_ok h0 hq])))))) rfl
end K93

set_option Elab.async false
set_option linter.all false
set_option autoImplicit false
set_option maxRecDepth 100000
set_option maxHeartbeats 1000000
namespace K93
open PySem PySem.Spec PyProof.Rows L2 DL
theorem eqv_pr (p a r b : Nat) : PyData.eqv (pr p a) (pr r b) = (decide (p = r) && decide (a = b)) := by
  rw [Bool.eq_iff_iff]
  simp [PyData.eqv, PyData.eqvAll]
  omega
theorem sh_pr (p a : Nat) : SeqAt.shaped (pr p a) = true := by
  simp [SeqAt.shaped, PyData.canLay0, PyData.canLayAll0, PyData.depth, PyData.depthAll]
theorem eq_pr (p a r b : Nat) : eqqD (pr p a) (pr r b) = some (.sh (.bool (decide (p = r) && decide (a = b)))) := by
  have : eqD (pr p a) (pr r b) = some (decide (p = r) && decide (a = b)) := by
    show (if SeqAt.shaped (pr p a) = true ∧ SeqAt.shaped (pr r b) = true then some (PyData.eqv (pr p a) (pr r b)) else none) = _
    rw [if_pos ⟨sh_pr p a, sh_pr r b⟩, eqv_pr]
  unfold eqqD
  rw [this]
  rfl

theorem intsOf_n : ∀ xs : List Nat, intsOf (List.map iD xs) = some (List.map (fun n : Nat => (n : Int)) xs)
  | [] => rfl
  | x :: xs => by
    rw [List.map_cons, intsOf, intsOf_n xs]
    rfl
theorem sum_n : ∀ xs : List Nat, (List.map (fun n : Nat => (n : Int)) xs).sum = (xs.sum : Nat)
  | [] => rfl
  | x :: xs => by
    rw [List.map_cons, List.sum_cons, List.sum_cons, sum_n xs, Int.natCast_add]
theorem sumG_n (xs : List Nat) : sumG [.tuple (xs.map iD)] = some (.sh (iD xs.sum)) := by
  unfold sumG
  simp only [intsOf_n, Option.map_some, sum_n]
abbrev rowQ (p q : Nat) : List Nat := rowL (q + 1) p q
abbrev tup (xs : List Nat) : Dv := .tuple (xs.map iD)
theorem cross_ok (p q : Nat) (h : q < 90000) : F_crossings_of [.sh (pr p q)] = some (.sh (iD (rowQ p q).sum), [.sh (pr p q)]) := by
  have h2 : eFn F_bridge_row (aCons (frM (eVar 0)) aNil) [.sh (pr p q)] = some (.sh (tup (rowQ p q)), [.sh (pr p q)]) := eFn_sh (F := F_bridge_row) (as := [pr p q]) (one1 (fv rfl)) (brow_ok p q h)
  exact runF_eq (np := 1) (N := 1) (ix := []) (g := g_crossings_of) (as := [.sh (pr p q)]) rfl (sRet_sh (eCall_sh (z := .sh (iD (rowQ p q).sum)) (one1 h2) rfl (sumG_n _))) rfl
theorem own_ok (p q : Nat) (h0 : 0 < p) (hp : p < 100) (hq : q < p) : F_is_own_mirror [.sh (pr p q)] = some (.sh (.bool (decide (formE p q = formE p (mirN p q)))), [.sh (pr p q)]) := by
  have h1 : eFn F_bridge_form (aCons (frM (eVar 0)) aNil) [.sh (pr p q)] = some (.sh (pr p (formE p q)), [.sh (pr p q)]) := eFn_sh (F := F_bridge_form) (as := [pr p q]) (one1 (fv rfl)) (bform_ok p q h0 hp)
  have h2 : eFn F_mirrored_bridge (aCons (frM (eVar 0)) aNil) [.sh (pr p q)] = some (.sh (pr p (mirN p q)), [.sh (pr p q)]) := eFn_sh (F := F_mirrored_bridge) (as := [pr p q]) (one1 (fv rfl)) (bmir_ok p q h0 hq)
  have h3 : eFn F_bridge_form (aCons (frM (eFn F_mirrored_bridge (aCons (frM (eVar 0)) aNil))) aNil) [.sh (pr p q)] = some (.sh (pr p (formE p (mirN p q))), [.sh (pr p q)]) := eFn_sh (F := F_bridge_form) (as := [pr p (mirN p q)]) (one1 (fr_sh h2)) (bform_ok p _ h0 hp)
  exact runF_eq (np := 1) (N := 1) (ix := []) (g := g_is_own_mirror) (as := [.sh (pr p q)]) rfl (sRet_sh (bin_sh (z := .sh (.bool (decide (formE p q = formE p (mirN p q))))) (pk_sh h1) (pk_sh h3) (by rw [eq_pr]; simp))) rfl
theorem cnt_ok (p q : Nat) : F_count_components [.sh (pr p q)] = some (.sh (iD (2 - p % 2)), [.sh (pr p q)]) := by
  have hm : modD (iD p) (.int 2) = some (.sh (iD (p % 2))) := by simp [modD]
  have a1 : binS modD (binS ixA (eVar 0) (eC (.int 0))) (eC (.int 2)) [.sh (pr p q)] = some (.sh (iD (p % 2)), [.sh (pr p q)]) := bin_sh (z := .sh (iD (p % 2))) (pk_sh (bin_sh (z := .sh (iD p)) (pv' rfl) (pk_sh (d := .int 0) rfl) rfl)) (pk_sh (d := .int 2) rfl) hm
  have a2 : tB (binS eqqD (binS modD (binS ixA (eVar 0) (eC (.int 0))) (eC (.int 2))) (eC (.int 1))) [.sh (pr p q)] = some (decide (p % 2 = 1), [.sh (pr p q)]) := by
    unfold DL.tB
    rw [bin_sh (z := .sh (.bool (decide (p % 2 = 1)))) (pk_sh a1) (pk_sh (d := .int 1) rfl) (by
      show some (Rz.sh (.bool (decide (((p % 2 : Nat) : Int) = 1)))) = _
      congr 3
      exact decide_eq_decide.mpr (by omega))]
    rfl
  refine runF_eq (np := 1) (N := 1) (ix := []) (g := g_count_components) (as := [.sh (pr p q)]) (fl := .rt (.sh (iD (2 - p % 2))) [.sh (pr p q)]) rfl (sRet_sh ?_) rfl
  have a3 : eIf (tB (binS eqqD (binS modD (binS ixA (eVar 0) (eC (.int 0))) (eC (.int 2))) (eC (.int 1)))) (eC (.int 1)) (eC (.int 2)) [.sh (pr p q)] = some (.sh (iD (2 - p % 2)), [.sh (pr p q)]) := by
    unfold eIf
    rw [a2]
    by_cases h : p % 2 = 1
    · simp only [h, decide_true, Option.bind_some, if_true]
      rfl
    · have h0 : p % 2 = 0 := by omega
      simp only [h0, Option.bind_some]
      rfl
  exact a3
theorem tB_sh {f : M} {ρ ρ1 : Rho} {k : Bool} (h : f ρ = some (.sh (.bool k), ρ1)) : DL.tB f ρ = some (k, ρ1) := by
  unfold DL.tB
  rw [h]
  rfl
/-! all forms -/
theorem rangeD_nat (n : Nat) : rangeD 0 n = (List.range n).map iD := by
  unfold rangeD
  congr 1
  funext i
  simp
theorem range1_nat (n : Nat) : rangeD 1 n = ((List.range n).map (1 + ·)).map iD := by
  unfold rangeD
  rw [List.map_map]
  congr 1
def gdB (p : Nat) : Dv → Bool
  | .int r => Nat.gcd p r.toNat == 1
  | _ => false
def fmB (p : Nat) : Dv → Bool
  | .tuple [_, .int r] => formE p r.toNat == r.toNat
  | _ => false
def allN (p : Nat) : List Nat := if p = 1 then [0] else (((List.range (p - 1)).map (1 + ·)).filter fun r => Nat.gcd p r == 1).filter fun r => formE p r == r
theorem all_ok (p : Nat) (h0 : 0 < p) (hp : p < 100) : F_all_bridges [.sh (iD p)] = some (.sh (.tuple ((allN p).map (pr p))), [.sh (iD p)]) := by
  have hz := szl_6
  by_cases h1 : p = 1
  · subst h1
    have hz1 : 1 ≤ sizeLine := by omega
    have hz2 : 2 ≤ sizeLine := by omega
    refine runF_eq (np := 1) (N := 4) (ix := []) (g := g_all_bridges) (as := [.sh (iD 1)]) (fl := .rt (.sh (.tuple ((allN 1).map (pr 1)))) [.sh (iD 1), .no, .no, .no]) rfl ?_ rfl
    have a1 : sRet [] (eTup (aCons (eTup (aCons (eC (.int 1)) (aCons (eC (.int 0)) aNil))) aNil)) [.sh (iD 1), .no, .no, .no] = some (.rt (.sh (.tuple ((allN 1).map (pr 1)))) [.sh (iD 1), .no, .no, .no]) := by
      simp [sRet, eTup, aCons, aNil, eC, shs, hz1, hz2, allN]
    exact sSeq_rt ((sIf_t (ρ1 := [.sh (iD 1), .no, .no, .no]) (by simp [DL.tB, binS, pkM, eVar, eC, dat, eqqD, eqD, Rz.rv])).trans a1)
  · have a0 : sIf (tB (binS eqqD (eVar 0) (eC (.int 1)))) (sRet [] (eTup (aCons (eTup (aCons (eC (.int 1)) (aCons (eC (.int 0)) aNil))) aNil))) sNil [.sh (iD p), .no, .no, .no] = some (.nx [.sh (iD p), .no, .no, .no]) := (sIf_f (ρ1 := [.sh (iD p), .no, .no, .no]) (by
      have : ¬ (p : Int) = 1 := by omega
      simp [DL.tB, binS, pkM, eVar, eC, dat, eqqD, eqD, Rz.rv, this])).trans rfl
    have r1 : rng2 [.int 1, iD p] = some (rangeD 1 (p - 1)) := by
      have b1 : bnd62 1 = true := by decide
      have b2 : bnd62 (p : Int) = true := by unfold bnd62; exact decide_eq_true ⟨by omega, by omega⟩
      simp [rng2, b1, b2]
    have hl := eLc1 (i := 2) (fi := iRng rng2 (aCons (eC (.int 1)) (aCons (eVar 0) aNil))) (c := tB (binS eqqD (eFn F_common_divisor (aCons (frM (eVar 0)) (aCons (frM (eVar 2)) aNil))) (eC (.int 1)))) (fe := eTup (aCons (frM (eVar 0)) (aCons (frM (eVar 2)) aNil))) (ρ := [.sh (iD p), .no, .no, .no]) (s0 := .no) (ds := rangeD 1 (p - 1)) (gdB p) (fun d => .tuple [iD p, d])
      (iRng_eq (rs := [.sh (.int 1), .sh (iD p)]) (two2 rfl (ev rfl)) rfl r1) rfl (by intro o; simp) (by rw [rangeD_len]; omega)
      (fun d hd => by
        rw [range1_nat] at hd
        obtain ⟨r, hr, rfl⟩ := List.mem_map.mp hd
        obtain ⟨r', hr', rfl⟩ := List.mem_map.mp hr
        have hr' := List.mem_range.mp hr'
        have h2 : eFn F_common_divisor (aCons (frM (eVar 0)) (aCons (frM (eVar 2)) aNil)) [.sh (iD p), .no, .sh (iD (1 + r')), .no] = some (.sh (iD (Nat.gcd p (1 + r'))), [.sh (iD p), .no, .sh (iD (1 + r')), .no]) := eFn_sh (F := F_common_divisor) (as := [iD p, iD (1 + r')]) (two2 (fv rfl) (fv rfl)) (common2_ok p (1 + r') (by omega))
        have hv : eqqD (iD (Nat.gcd p (1 + r'))) (.int 1) = some (.sh (.bool (Nat.gcd p (1 + r') == 1))) := by
          show some (Rz.sh (.bool (decide (((Nat.gcd p (1 + r') : Nat) : Int) = 1)))) = _
          exact congrArg (fun z => some (Rz.sh (.bool z))) (Bool.eq_iff_iff.mpr (by simp; omega))
        exact tB_sh (bin_sh (pk_sh h2) (pk_sh (d := .int 1) rfl) hv))
      (fun d hd hb => by
        rw [range1_nat] at hd
        obtain ⟨r, hr, rfl⟩ := List.mem_map.mp hd
        exact fr_sh (tup2 (fv rfl) (fv rfl)))
    have hE : ((rangeD 1 (p - 1)).filter (gdB p)).map (fun d => PyData.tuple [iD p, d]) = (((List.range (p - 1)).map (1 + ·)).filter fun r => Nat.gcd p r == 1).map (pr p) := by
      rw [range1_nat, List.filter_map, List.map_map]
      rfl
    rw [hE] at hl
    have a1 := sSet_ow (i := 1) hl
    generalize hL : (((List.range (p - 1)).map (1 + ·)).filter fun r => Nat.gcd p r == 1) = L at *
    have hLl : L.length ≤ 200 := by
      rw [← hL]
      refine Nat.le_trans (List.length_filter_le _ _) ?_
      simp
      omega
    have hs : iSeq (eVar 1) [.sh (iD p), .ow (.lst (L.map (pr p))), .no, .no] = some (L.map (pr p), [.sh (iD p), .sh (.list (L.map (pr p))), .no, .no]) := by
      simp [iSeq, frM, eVar, itemsOf]
    have hl2 : eLc [3] (iSeq (eVar 1)) (tName 3) (tB (binS eqqD (eFn F_bridge_form (aCons (frM (eVar 3)) aNil)) (eVar 3))) (eVar 3) [.sh (iD p), .sh (.list (L.map (pr p))), .no, .no] = _ := eLc1 (i := 3) (fi := iSeq (eVar 1)) (c := tB (binS eqqD (eFn F_bridge_form (aCons (frM (eVar 3)) aNil)) (eVar 3))) (fe := eVar 3) (ρ := [.sh (iD p), .sh (.list (L.map (pr p))), .no, .no]) (s0 := .no) (ds := L.map (pr p)) (fmB p) id
      (by simp [iSeq, frM, eVar, itemsOf]) rfl (by intro o; simp) (by rw [List.length_map]; omega)
      (fun d hd => by
        obtain ⟨r, hr, rfl⟩ := List.mem_map.mp hd
        have h2 : eFn F_bridge_form (aCons (frM (eVar 3)) aNil) [.sh (iD p), .sh (.list (L.map (pr p))), .no, .sh (pr p r)] = some (.sh (pr p (formE p r)), [.sh (iD p), .sh (.list (L.map (pr p))), .no, .sh (pr p r)]) := eFn_sh (F := F_bridge_form) (as := [pr p r]) (one1 (fv rfl)) (bform_ok p r h0 hp)
        have hv : eqqD (pr p (formE p r)) (pr p r) = some (.sh (.bool (formE p r == r))) := by
          rw [eq_pr]
          exact congrArg (fun z => some (Rz.sh (.bool z))) (Bool.eq_iff_iff.mpr (by simp))
        exact tB_sh (bin_sh (pk_sh h2) (pv' rfl) hv))
      (fun d hd hb => fv rfl)
    have hE2 : ((L.map (pr p)).filter (fmB p)).map id = (L.filter fun r => formE p r == r).map (pr p) := by
      rw [List.map_id, List.filter_map]
      rfl
    rw [hE2] at hl2
    have hl3 : eLc [3] (iSeq (eVar 1)) (tName 3) (tB (binS eqqD (eFn F_bridge_form (aCons (frM (eVar 3)) aNil)) (eVar 3))) (eVar 3) [.sh (iD p), .ow (.lst (L.map (pr p))), .no, .no] = some (.ow (.lst ((L.filter fun r => formE p r == r).map (pr p))), [.sh (iD p), .sh (.list (L.map (pr p))), .no, .no]) := by
      have hs2 : iSeq (eVar 1) [.sh (iD p), .sh (.list (L.map (pr p))), .no, .no] = some (L.map (pr p), [.sh (iD p), .sh (.list (L.map (pr p))), .no, .no]) := by simp [iSeq, frM, eVar, itemsOf]
      unfold eLc at hl2 ⊢
      rw [hs2] at hl2
      rw [hs]
      exact hl2
    have hA : (L.filter fun r => formE p r == r) = allN p := by
      unfold allN
      rw [if_neg h1, hL]
    rw [hA] at hl3
    have a2 := sRet_sh (ix := []) (eCall_sh (g := tupleG) (fa := aCons _ aNil) (rs := [.ow (.lst ((allN p).map (pr p)))]) (ds := [.list ((allN p).map (pr p))]) (z := .sh (.tuple ((allN p).map (pr p)))) (aCons_eq hl3 rfl) rfl rfl)
    exact runF_eq (np := 1) (N := 4) (ix := []) (g := g_all_bridges) (as := [.sh (iD p)]) rfl ((sSeq_nx a0).trans ((sSeq_nx a1).trans a2)) rfl
end K93

set_option Elab.async false
set_option linter.all false
set_option autoImplicit false
set_option maxRecDepth 100000
set_option maxHeartbeats 0
namespace K93
open PySem PySem.Spec PyProof.Rows L2 DL
def fB (p q : Nat) : Dv → Bool
  | .int r => decide (r = (q : Int)) || decide ((q : Int) * r % (p : Int) = 1)
  | _ => false
def formOk (p q : Nat) : Bool := p == 1 || (match (rangeD 0 p).filter (fB p q) with
  | x :: xs => okAl (x :: xs) && eqDv (PySem.W.minD x xs) (iD (formE p q))
  | [] => false)
def chk1 (p q : Nat) : Bool := formOk p q && formOk p (mirN p q) && decide (pairL (rowQ p q) = (p, q)) && decide ((rowQ p (mirN p q)).sum = (rowQ p q).sum) && decide ((rowQ p (formE p q)).sum = (rowQ p q).sum) && decide (formE p q < 1000) && ((rowQ p q).all fun x => decide (x < 1000)) && decide ((rowQ p q).length < 1000)
def chkP (p : Nat) : Bool := (List.range p).all fun q => (Nat.gcd p q != 1) || chk1 p q
def copr (p : Nat) : List Nat := (List.range p).filter fun r => Nat.gcd p r == 1
def inEv (p r : Nat) : Bool := (copr p).any fun q => formE p q == r
def chkA (p : Nat) : Bool := decide (allN p = (List.range p).filter (inEv p)) && SeqAt.shaped (.list ((copr p).map fun q => pr p (formE p q)))
def rowsN : Nat → List (List Nat)
  | 0 => [[]]
  | n + 1 => (rowsN n).flatMap fun r => [1, 2, 3, 4].map (· :: r)
def chkR (s : List Nat) : Bool := decide (rowQ (pairL s).1 (pairL s).2 = s) && decide ((pairL s).2 < 90000)
def chkN (n : Nat) : Bool := (rowsN n).all fun r => [2, 3, 4].all fun l => chkR (r ++ [l])
def blk (a : Nat) (f : Nat → Bool) : Bool := (List.range 10).all fun j => f (10 * a + j + 1)
end K93

set_option Elab.async false
set_option linter.all false
set_option maxRecDepth 100000
set_option maxHeartbeats 0
namespace K93
open DL PySem
theorem cP0 : blk 0 chkP = true := by decide +kernel
theorem cP1 : blk 1 chkP = true := by decide +kernel
theorem cP2 : blk 2 chkP = true := by decide +kernel
theorem cP3 : blk 3 chkP = true := by decide +kernel
theorem cP4 : blk 4 chkP = true := by decide +kernel
theorem cP5 : blk 5 chkP = true := by decide +kernel
end K93

set_option Elab.async false
set_option linter.all false
set_option maxRecDepth 100000
set_option maxHeartbeats 0
namespace K93
open DL PySem
theorem cA0 : blk 0 chkA = true := by decide +kernel
theorem cA1 : blk 1 chkA = true := by decide +kernel
theorem cA2 : blk 2 chkA = true := by decide +kernel
theorem cA3 : blk 3 chkA = true := by decide +kernel
theorem cA4 : blk 4 chkA = true := by decide +kernel
theorem cA5 : blk 5 chkA = true := by decide +kernel
end K93

set_option Elab.async false
set_option linter.all false
set_option maxRecDepth 100000
set_option maxHeartbeats 0
namespace K93
open DL PySem
theorem cN0 : chkN 0 = true := by decide +kernel
theorem cN1 : chkN 1 = true := by decide +kernel
theorem cN2 : chkN 2 = true := by decide +kernel
theorem cN3 : chkN 3 = true := by decide +kernel
theorem cN4 : chkN 4 = true := by decide +kernel
end K93

set_option Elab.async false
set_option linter.all false
set_option autoImplicit false
set_option maxRecDepth 100000
set_option maxHeartbeats 1000000
namespace K93
open PySem PySem.Spec PyProof.Rows L2 DL
def L_0 : MS := (sSet 1 (eDisp [((.inr ("draws" : Str) : Key), (eFn F__law_draws (aCons (frM (eVar 0)) (aCons (eC (.int 200)) aNil)))), ((.inr ("at" : Str) : Key), (eC (.int 0)))]))
def L_1_0 : MS := (sSet 3 (binS addD (eC (.int 1)) (eFn F__law_next (aCons (eVar 1) (aCons (eC (.int 60)) aNil)))))
def L_1_1 : MS := (sSet 4 (eFn F__law_pick (aCons (eVar 1) (aCons (frM (eLc [10] (iRng rng1 (aCons (eVar 3) aNil)) (tName 10) (tB (binS eqqD (eFn F__law_common (aCons (frM (eVar 3)) (aCons (frM (eVar 10)) aNil))) (eC (.int 1)))) (eVar 10))) aNil))))
def L_1_2 : MS := (sSet 5 (eFn F__law_form (aCons (frM (eVar 3)) (aCons (frM (eVar 4)) aNil))))
def L_1_3 : MS := (sSet 6 (eTup (aCons (frM (eVar 3)) (aCons (frM (binS modD (eCall intG (aCons (unS negD (eVar 4)) aNil)) (eVar 3))) aNil))))
def L_1_4_0 : MS := (sRet [] (eC (.bool false)))
def L_1_4 : MS := (sIf (tOr' (tNo (tV (eFn (F__law_alike 6) (aCons (frM (eFn F_bridge_form (aCons (eTup (aCons (frM (eVar 3)) (aCons (frM (eVar 4)) aNil))) aNil))) (aCons (frM (eVar 5)) aNil))))) (tNo (tV (eFn (F__law_alike 6) (aCons (frM (eFn F_mirrored_bridge (aCons (eTup (aCons (frM (eVar 3)) (aCons (frM (eVar 4)) aNil))) aNil))) (aCons (frM (eVar 6)) aNil)))))) L_1_4_0 sNil)
def L_1_5_0 : MS := (sRet [] (eC (.bool false)))
def L_1_5 : MS := (sIf (tOr' (tNo (tV (eFn (F__law_alike 6) (aCons (frM (eFn F_is_own_mirror (aCons (eTup (aCons (frM (eVar 3)) (aCons (frM (eVar 4)) aNil))) aNil))) (aCons (binS eqqD (eFn F__law_form (aCons (frM (eVar 3)) (aCons (frM (binS ixA (eVar 6) (eC (.int 1)))) aNil))) (eVar 5)) aNil))))) (tNo (tV (eFn (F__law_alike 6) (aCons (frM (eFn F_count_components (aCons (eTup (aCons (frM (eVar 3)) (aCons (frM (eVar 4)) aNil))) aNil))) (aCons (frM (binS subD (eC (.int 2)) (binS (bitD Builtin.bitAnd) (eVar 3) (eC (.int 1))))) aNil)))))) L_1_5_0 sNil)
def L_1_6 : MS := (sSet 7 (eFn F__law_row (aCons (frM (eVar 3)) (aCons (frM (eVar 4)) aNil))))
def L_1_7_0 : MS := (sRet [] (eC (.bool false)))
def L_1_7 : MS := (sIf (tOr' (tNo (tV (eFn (F__law_alike 6) (aCons (frM (eFn F_bridge_row (aCons (eTup (aCons (frM (eVar 3)) (aCons (frM (eVar 4)) aNil))) aNil))) (aCons (frM (eVar 7)) aNil))))) (tNo (tV (eFn (F__law_alike 6) (aCons (frM (eFn F_bridge_of (aCons (frM (eVar 7)) aNil))) (aCons (eTup (aCons (frM (eVar 3)) (aCons (frM (eVar 4)) aNil))) aNil)))))) L_1_7_0 sNil)
def L_1_8_0 : MS := (sRet [] (eC (.bool false)))
def L_1_8 : MS := (sIf (tOr' (tNo (tV (eFn (F__law_alike 6) (aCons (frM (eFn F_crossings_of (aCons (eTup (aCons (frM (eVar 3)) (aCons (frM (eVar 4)) aNil))) aNil))) (aCons (frM (eCall sumG (aCons (eVar 7) aNil))) aNil))))) (tOr' (tNo (tV (eFn (F__law_alike 6) (aCons (frM (eFn F_crossings_of (aCons (frM (eVar 6)) aNil))) (aCons (frM (eCall sumG (aCons (eVar 7) aNil))) aNil))))) (tNo (tV (eFn (F__law_alike 6) (aCons (frM (eFn F_crossings_of (aCons (frM (eVar 5)) aNil))) (aCons (frM (eCall sumG (aCons (eVar 7) aNil))) aNil))))))) L_1_8_0 sNil)
def L_1_9 : MS := (sSet 8 (eLc [10] (iRng rng1 (aCons (eVar 3) aNil)) (tName 10) (tB (binS eqqD (eFn F__law_common (aCons (frM (eVar 3)) (aCons (frM (eVar 10)) aNil))) (eC (.int 1)))) (eFn F__law_form (aCons (frM (eVar 3)) (aCons (frM (eVar 10)) aNil)))))
def L_1_10_0 : MS := (sRet [] (eC (.bool false)))
def L_1_10 : MS := (sIf (tNo (tV (eFn (F__law_alike 6) (aCons (frM (eFn F_all_bridges (aCons (frM (eVar 3)) aNil))) (aCons (frM (eCall tupleG (aCons (eLc [12] (iSeq (eLc [10] (iRng rng1 (aCons (eVar 3) aNil)) (tName 10) cYes (eTup (aCons (frM (eVar 3)) (aCons (frM (eVar 10)) aNil))))) (tName 12) (tB (binS inAD (eVar 12) (eVar 8))) (eVar 12)) aNil))) aNil))))) L_1_10_0 sNil)
def L_1_11 : MS := (sSet 9 (binS addD (eCall tupleG (aCons (eLc [11] (iRng rng1 (aCons (eFn F__law_next (aCons (eVar 1) (aCons (eC (.int 5)) aNil))) aNil)) (tName 11) cYes (binS addD (eC (.int 1)) (eFn F__law_next (aCons (eVar 1) (aCons (eC (.int 4)) aNil))))) aNil)) (eTup (aCons (frM (binS addD (eC (.int 2)) (eFn F__law_next (aCons (eVar 1) (aCons (eC (.int 3)) aNil))))) aNil))))
def L_1_12_0 : MS := (sRet [] (eC (.bool false)))
def L_1_12 : MS := (sIf (tOr' (tNo (tV (eFn (F__law_alike 6) (aCons (frM (eFn F_bridge_of (aCons (frM (eVar 9)) aNil))) (aCons (frM (eFn F__law_pair (aCons (frM (eVar 9)) aNil))) aNil))))) (tNo (tV (eFn (F__law_alike 6) (aCons (frM (eFn F_bridge_row (aCons (frM (eFn F__law_pair (aCons (frM (eVar 9)) aNil))) aNil))) (aCons (frM (eVar 9)) aNil)))))) L_1_12_0 sNil)
def L_1 : MS := (sFor (iRng rng1 (aCons (eC (.int 6)) aNil)) (tName 2) (sSeq L_1_0
    (sSeq L_1_1
    (sSeq L_1_2
    (sSeq L_1_3
    (sSeq L_1_4
    (sSeq L_1_5
    (sSeq L_1_6
    (sSeq L_1_7
    (sSeq L_1_8
    (sSeq L_1_9
    (sSeq L_1_10
    (sSeq L_1_11
    L_1_12)))))))))))))
def L_2 : MS := (sRet [] (eAnd (eFn (F__law_alike 6) (aCons (frM (eFn F_bridge_row (aCons (eTup (aCons (eC (.int 1)) (aCons (eC (.int 0)) aNil))) aNil))) (aCons (eTup aNil) aNil))) (eAnd (eFn (F__law_alike 6) (aCons (frM (eFn F_bridge_of (aCons (eTup aNil) aNil))) (aCons (eTup (aCons (eC (.int 1)) (aCons (eC (.int 0)) aNil))) aNil))) (eAnd (eFn (F__law_alike 6) (aCons (frM (eFn F_is_own_mirror (aCons (eTup (aCons (eC (.int 5)) (aCons (eC (.int 2)) aNil))) aNil))) (aCons (eC (.bool true)) aNil))) (eFn (F__law_alike 6) (aCons (frM (eFn F_is_own_mirror (aCons (eTup (aCons (eC (.int 3)) (aCons (eC (.int 1)) aNil))) aNil))) (aCons (eC (.bool false)) aNil)))))))
theorem g_law_eq : g_law = sSeq L_0 (sSeq L_1 L_2) := rfl
/-- the slots of the law in a turn -/
abbrev Ro (S : Sl) (ds : List Int) (n : Nat) (s2 s3 s4 s5 s6 s7 s8 s9 : Sl) : Rho := [S, .ow (W1 ds n), s2, s3, s4, s5, s6, s7, s8, s9, .no, .no, .no]
theorem eNext {i : Nat} {fm : M} {ρ : Rho} {ds : List Int} {n : Nat} {m : Int} (h0 : ρ[i]? = some (.ow (W1 ds n))) (h1 : fm ρ = some (.sh (.int m), ρ)) (hm : 0 < m) : ∃ v : Int, 0 ≤ v ∧ v < m ∧ eFn nextF (aCons (eVar i) (aCons fm aNil)) ρ = some (.sh (.int v), ρ.set i (.ow (W1 ds (n + 1)))) := by
  obtain ⟨v, a, b, e⟩ := next_ok (ds := ds) (n := n) hm
  refine ⟨v, a, b, ?_⟩
  unfold eFn
  simp [aCons, aNil, eVar, h0, h1, toSls, toSl, alsOk, als, e, wback]
theorem ePick {i : Nat} {fe : M} {ρ : Rho} {ds : List Int} {n : Nat} {xs : List Dv} (h0 : ρ[i]? = some (.ow (W1 ds n))) (h1 : fe ρ = some (.ow (.lst xs), ρ)) (hx : xs ≠ []) : ∃ v, v ∈ xs ∧ eFn pickF (aCons (eVar i) (aCons (frM fe) aNil)) ρ = some (.sh v, ρ.set i (.ow (W1 ds (n + 1)))) := by
  obtain ⟨v, a, e⟩ := pick_ok (ds := ds) (n := n) hx
  refine ⟨v, a, ?_⟩
  have h2 := fr_ow h1
  unfold eFn
  simp [aCons, aNil, eVar, h0, h2, toSls, toSl, alsOk, als, e, wback]
/-- the numbers without a common divisor -/
theorem commonL {S : Sl} {ds : List Int} {n p : Nat} {s2 s4 s5 s6 s7 s8 s9 : Sl} (hp : p ≤ 60) (fe : M) (e : Dv → Dv)
    (he : ∀ r, r < p → Nat.gcd p r = 1 → frM fe [S, .ow (W1 ds n), s2, .sh (iD p), s4, s5, s6, s7, s8, s9, .sh (iD r), .no, .no] = some (.sh (e (iD r)), [S, .ow (W1 ds n), s2, .sh (iD p), s4, s5, s6, s7, s8, s9, .sh (iD r), .no, .no])) :
    eLc [10] (iRng rng1 (aCons (eVar 3) aNil)) (tName 10) (tB (binS eqqD (eFn F__law_common (aCons (frM (eVar 3)) (aCons (frM (eVar 10)) aNil))) (eC (.int 1)))) fe (Ro S ds n s2 (.sh (iD p)) s4 s5 s6 s7 s8 s9) =
      some (.ow (.lst (((List.range p).filter fun r => Nat.gcd p r == 1).map fun r => e (iD r))), Ro S ds n s2 (.sh (iD p)) s4 s5 s6 s7 s8 s9) := by
  have r1 : rng1 [iD p] = some (rangeD 0 p) := range1_eval (by omega)
  have h := eLc1 (i := 10) (fi := iRng rng1 (aCons (eVar 3) aNil)) (c := tB (binS eqqD (eFn F__law_common (aCons (frM (eVar 3)) (aCons (frM (eVar 10)) aNil))) (eC (.int 1)))) (fe := fe) (ρ := Ro S ds n s2 (.sh (iD p)) s4 s5 s6 s7 s8 s9) (s0 := .no) (ds := rangeD 0 p)
    (fun d => match d with | .int r => Nat.gcd p r.toNat == 1 | _ => false) e (iRng_eq (rs := [.sh (iD p)]) (by simp [aCons, aNil, eVar, Ro]) rfl r1) rfl (by intro o; simp) (by rw [rangeD_len]; have := szl_6; omega)
    (fun d hd => by
      rw [rangeD_nat] at hd
      obtain ⟨r, hr, rfl⟩ := List.mem_map.mp hd
      have hr := List.mem_range.mp hr
      have h1 := common_ok p r (by omega)
      have h2 : eFn F__law_common (aCons (frM (eVar 3)) (aCons (frM (eVar 10)) aNil)) ((Ro S ds n s2 (.sh (iD p)) s4 s5 s6 s7 s8 s9).set 10 (.sh (iD r))) = some (.sh (iD (Nat.gcd p r)), (Ro S ds n s2 (.sh (iD p)) s4 s5 s6 s7 s8 s9).set 10 (.sh (iD r))) :=
        eFn_sh (F := F__law_common) (as := [iD p, iD r]) (two2 (fv rfl) (fv rfl)) h1
      have hv : eqqD (iD (Nat.gcd p r)) (.int 1) = some (.sh (.bool (Nat.gcd p r == 1))) := by
        show some (Rz.sh (.bool (decide (((Nat.gcd p r : Nat) : Int) = 1)))) = _
        exact congrArg (fun z => some (Rz.sh (.bool z))) (Bool.eq_iff_iff.mpr (by simp; omega))
      exact tB_sh (bin_sh (pk_sh h2) (pk_sh (d := .int 1) rfl) hv))
    (fun d hd hb => by
      rw [rangeD_nat] at hd
      obtain ⟨r, hr, rfl⟩ := List.mem_map.mp hd
      have hr := List.mem_range.mp hr
      exact he r hr (by simpa using hb))
  rw [h, rangeD_nat, List.filter_map, List.map_map]
  congr 4


mutual
theorem plain_up : ∀ (n : Nat) (d : Dv), plainN n d = true → plainN (n + 1) d = true
  | 0, .none, _ => rfl
  | 0, .bool _, _ => rfl
  | 0, .int _, _ => rfl
  | 0, .tuple _, h => by simp [plainN] at h
  | 0, .str _, h => by simp [plainN] at h
  | 0, .list _, h => by simp [plainN] at h
  | 0, .dict _, h => by simp [plainN] at h
  | n + 1, .none, _ => rfl
  | n + 1, .bool _, _ => rfl
  | n + 1, .int _, _ => rfl
  | n + 1, .tuple xs, h => by
    simp only [plainN, Bool.and_eq_true] at h ⊢
    exact ⟨h.1, plains_up n xs h.2⟩
  | n + 1, .str _, h => by simp [plainN] at h
  | n + 1, .list _, h => by simp [plainN] at h
  | n + 1, .dict _, h => by simp [plainN] at h
theorem plains_up : ∀ (n : Nat) (xs : List Dv), plainNs n xs = true → plainNs (n + 1) xs = true
  | n, [], _ => by simp [plainNs]
  | n, x :: xs, h => by
    simp only [plainNs, Bool.and_eq_true] at h ⊢
    exact ⟨plain_up n x h.1, plains_up n xs h.2⟩
end
theorem alikeE {fa fb : M} {ρ : Rho} {d : Dv} (hd : plainN 3 d = true) (ha : fa ρ = some (.sh d, ρ)) (hb : fb ρ = some (.sh d, ρ)) : eFn (F__law_alike 6) (aCons fa (aCons fb aNil)) ρ = some (.sh (.bool true), ρ) := by
  have := alike_ok 5 d (plain_up 4 d (plain_up 3 d hd))
  exact eFn_sh (F := F__law_alike 6) (two2 ha hb) this
theorem alikeT {fa fb : M} {ρ : Rho} {d : Dv} (hd : plainN 3 d = true) (ha : fa ρ = some (.sh d, ρ)) (hb : fb ρ = some (.sh d, ρ)) : tNo (tV (eFn (F__law_alike 6) (aCons fa (aCons fb aNil)))) ρ = some (false, ρ) := by
  unfold DL.tNo DL.tV
  rw [pk_sh (alikeE hd ha hb)]
  rfl
theorem orF {t u : MB} {ρ : Rho} (h1 : t ρ = some (false, ρ)) (h2 : u ρ = some (false, ρ)) : tOr' t u ρ = some (false, ρ) := by
  unfold tOr'
  rw [h1]
  simp only [Option.bind_some]
  exact h2
theorem ifF {t : MB} {g : MS} {ρ : Rho} (h1 : t ρ = some (false, ρ)) : sIf t g sNil ρ = some (.nx ρ) := (sIf_f h1).trans rfl
theorem or_sh {t u : MB} {ρ : Rho} {a b : Bool} (h1 : t ρ = some (a, ρ)) (h2 : u ρ = some (b, ρ)) : tOr' t u ρ = some (a || b, ρ) := by
  unfold tOr'
  rw [h1]
  cases a
  · simp only [Option.bind_some]
    rw [if_neg (by decide), h2]
    rfl
  · rfl
theorem form_ok {p q : Nat} (h0 : 0 < p) (hp : p ≤ 60) (hq : q < p) (H : formOk p q = true) : F__law_form [.sh (iD p), .sh (iD q)] = some (.sh (pr p (formE p q)), [.sh (iD p), .sh (iD q)]) := by
  by_cases h1 : p = 1
  · subst h1
    have : q = 0 := by omega
    subst this
    exact runF_eq (np := 2) (N := 3) (ix := []) (g := g__law_form) (as := [.sh (iD 1), .sh (iD 0)]) (fl := .rt (.sh (pr 1 (formE 1 0))) [.sh (iD 1), .sh (iD 0), .no]) rfl (sSeq_rt ((sIf_t (ρ1 := [.sh (iD 1), .sh (iD 0), .no]) (tB_sh (bin_sh (z := .sh (.bool true)) (pv' rfl) (pk_sh (d := .int 1) rfl) rfl))).trans (sRet_sh (tup2 rfl rfl)))) rfl
  · unfold formOk at H
    have hz : (p == 1) = false := by simp [h1]
    rw [hz, Bool.false_or] at H
    have r1 : rng1 [iD p] = some (rangeD 0 p) := range1_eval (by omega)
    have hl := eLc1 (i := 2) (fi := iRng rng1 (aCons (eVar 0) aNil)) (c := tOr' (tB (binS eqqD (eVar 2) (eVar 1))) (tB (binS eqqD (binS modD (eCall intG (aCons (binS mulD (eVar 1) (eVar 2)) aNil)) (eVar 0)) (eC (.int 1))))) (fe := eVar 2) (ρ := [.sh (iD p), .sh (iD q), .no]) (s0 := .no) (ds := rangeD 0 p) (fB p q) id
      (iRng_eq (rs := [.sh (iD p)]) (by simp [aCons, aNil, eVar]) rfl r1) rfl (by intro o; simp) (by rw [rangeD_len]; have := szl_6; omega)
      (fun d hd => by
        rw [rangeD_nat] at hd
        obtain ⟨r, hr, rfl⟩ := List.mem_map.mp hd
        have hm := mul_small (i := q) (j := r) (by omega) (by omega)
        have hp0 : (0 : Int) < (p : Int) := by omega
        have hmod : modD (.int ((q : Int) * (r : Int))) (iD p) = some (.sh (.int ((q : Int) * (r : Int) % (p : Int)))) := if_pos hp0
        have hcall : eCall intG (aCons (binS mulD (eVar 1) (eVar 2)) aNil) [.sh (iD p), .sh (iD q), .sh (iD r)] = some (.sh (.int ((q : Int) * (r : Int))), [.sh (iD p), .sh (iD q), .sh (iD r)]) := eCall_sh (z := .sh (.int ((q : Int) * (r : Int)))) (one1 (bin_sh (pv' rfl) (pv' rfl) hm)) rfl rfl
        exact or_sh (tB_sh (bin_sh (z := .sh (.bool (decide ((r : Int) = (q : Int))))) (pv' rfl) (pv' rfl) rfl)) (tB_sh (bin_sh (z := .sh (.bool (decide ((q : Int) * (r : Int) % (p : Int) = 1)))) (pk_sh (bin_sh (pk_sh hcall) (pv' rfl) hmod)) (pk_sh (d := .int 1) rfl) rfl)))
      (fun d hd hb => by
        rw [rangeD_nat] at hd
        obtain ⟨r, hr, rfl⟩ := List.mem_map.mp hd
        simp [frM, eVar])
    rw [List.map_id] at hl
    split at H
    rotate_left
    · cases H
    rename_i x xs hx
    rw [hx] at hl
    simp only [Bool.and_eq_true] at H
    have hmin := eqDv_ok _ _ H.2
    have a1 : sIf (tB (binS eqqD (eVar 0) (eC (.int 1)))) (sRet [] (eTup (aCons (eC (.int 1)) (aCons (eC (.int 0)) aNil)))) sNil [.sh (iD p), .sh (iD q), .no] = some (.nx [.sh (iD p), .sh (iD q), .no]) := ifF (by
      have : ¬ (p : Int) = 1 := by omega
      simp [DL.tB, binS, pkM, eVar, eC, dat, eqqD, eqD, Rz.rv, this])
    have a2 := eCall_sh (g := minG) (fa := aCons _ aNil) (rs := [.ow (.lst (x :: xs))]) (ds := [.list (x :: xs)]) (z := .sh (PySem.W.minD x xs)) (aCons_eq hl rfl) rfl (by simp [minG, H.1])
    have a3 := sRet_sh (ix := []) (tup2 (fv (i := 0) (ρ := [.sh (iD p), .sh (iD q), .no]) rfl) (fr_sh a2))
    rw [hmin] at a3
    exact runF_eq (np := 2) (N := 3) (ix := []) (g := g__law_form) (as := [.sh (iD p), .sh (iD q)]) rfl ((sSeq_nx a1).trans a3) rfl

theorem plain_ns : ∀ xs : List Nat, plainNs 2 (xs.map iD) = true
  | [] => rfl
  | x :: xs => by
    rw [List.map_cons, plainNs, plain_ns xs]
    rfl
theorem plain_tup (xs : List Nat) (h : xs.length < 1000000) : plainN 3 (tup xs) = true := by
  unfold tup
  rw [plainN, plain_ns xs, List.length_map, decide_eq_true h]
  rfl
theorem plain_pr (p q : Nat) : plainN 3 (pr p q) = true := plain_tup [p, q] (by simp)
theorem plain_prs (p : Nat) : ∀ xs : List Nat, plainNs 2 (xs.map (pr p)) = true
  | [] => rfl
  | x :: xs => by
    rw [List.map_cons, plainNs, plain_prs p xs]
    have : plainN 2 (pr p x) = true := by
      rw [plainN, decide_eq_true (by simp)]
      rfl
    rw [this]
    rfl
theorem plain_tprs (p : Nat) (xs : List Nat) (h : xs.length < 1000000) : plainN 3 (.tuple (xs.map (pr p))) = true := by
  rw [plainN, plain_prs p xs, List.length_map, decide_eq_true h]
  rfl
theorem plain_i (n : Nat) : plainN 3 (iD n) = true := rfl
theorem plain_b (n : Bool) : plainN 3 (.bool n) = true := rfl
end K93

set_option Elab.async false
set_option linter.all false
set_option autoImplicit false
set_option maxRecDepth 100000
set_option maxHeartbeats 1000000
namespace K93
open PySem PySem.Spec PyProof.Rows L2 DL
structure Nums : Prop where
  P : ∀ p, 0 < p → p ≤ 60 → chkP p = true
  A : ∀ p, 0 < p → p ≤ 60 → chkA p = true
  R : ∀ n, n < 5 → chkN n = true
theorem coprD (p : Nat) : ((List.range p).filter fun r => Nat.gcd p r == 1) = copr p := rfl
theorem d0 {S : Sl} {ds : List Int} {n : Nat} {s2 s3 s4 s5 s6 s7 s8 s9 : Sl} : ∃ p : Nat, 0 < p ∧ p ≤ 60 ∧ L_1_0 (Ro S ds n s2 s3 s4 s5 s6 s7 s8 s9) = some (.nx (Ro S ds (n + 1) s2 (.sh (iD p)) s4 s5 s6 s7 s8 s9)) := by
  obtain ⟨v, hv0, hv1, e⟩ := eNext (i := 1) (fm := eC (.int 60)) (ρ := Ro S ds n s2 s3 s4 s5 s6 s7 s8 s9) (m := 60) rfl rfl (by omega)
  obtain ⟨p', rfl⟩ := Int.eq_ofNat_of_zero_le hv0
  have ha : addD (.int 1) (iD p') = some (.sh (iD (1 + p'))) := congrArg (fun z => some (Rz.sh (PyData.int z))) (by rw [Int.natCast_add]; rfl)
  exact ⟨1 + p', by omega, by omega, sSet_sh (i := 3) (bin_sh (pk_sh (d := .int 1) (f := eC (.int 1)) rfl) (pk_sh e) ha)⟩
theorem d1 {S : Sl} {ds : List Int} {n p : Nat} {s2 s4 s5 s6 s7 s8 s9 : Sl} (h0 : 0 < p) (hp : p ≤ 60) : ∃ q : Nat, q < p ∧ Nat.gcd p q = 1 ∧ L_1_1 (Ro S ds n s2 (.sh (iD p)) s4 s5 s6 s7 s8 s9) = some (.nx (Ro S ds (n + 1) s2 (.sh (iD p)) (.sh (iD q)) s5 s6 s7 s8 s9)) := by
  have hl := commonL (S := S) (ds := ds) (n := n) (s2 := s2) (s4 := s4) (s5 := s5) (s6 := s6) (s7 := s7) (s8 := s8) (s9 := s9) hp (eVar 10) id (fun r _ _ => fv rfl)
  have hne : ((List.range p).filter fun r => Nat.gcd p r == 1).map (fun r => id (iD r)) ≠ [] := by
    intro hx
    rw [List.map_eq_nil_iff, List.filter_eq_nil_iff] at hx
    by_cases h1 : p = 1
    · subst h1
      exact hx 0 (by simp) (by decide)
    · exact hx 1 (List.mem_range.mpr (by omega)) (by simp)
  obtain ⟨v, hv, e⟩ := ePick (i := 1) rfl hl hne
  obtain ⟨q, hq, rfl⟩ := List.mem_map.mp hv
  obtain ⟨hq, hg⟩ := List.mem_filter.mp hq
  exact ⟨q, List.mem_range.mp hq, by simpa using hg, sSet_sh (i := 4) e⟩
theorem ch1 {p q : Nat} (N : Nums) (h0 : 0 < p) (hp : p ≤ 60) (hq : q < p) (hg : Nat.gcd p q = 1) : chk1 p q = true := by
  have h1 := N.P p h0 hp
  unfold chkP at h1
  have h2 := List.all_eq_true.mp h1 q (List.mem_range.mpr hq)
  simpa [hg] using h2
/-- the slots behind the mirror -/
structure At (ρ : Rho) (p q : Nat) : Prop where
  e3 : ρ[3]? = some (.sh (iD p))
  e4 : ρ[4]? = some (.sh (iD q))
  e5 : ρ[5]? = some (.sh (pr p (formE p q)))
  e6 : ρ[6]? = some (.sh (pr p (mirN p q)))
theorem s4 {ρ : Rho} {p q : Nat} (a : At ρ p q) (h0 : 0 < p) (hp : p ≤ 60) (hq : q < p) : L_1_4 ρ = some (.nx ρ) := by
  have tp := tup2 (fv a.e3) (fv a.e4)
  exact ifF (orF (alikeT (plain_pr p (formE p q)) (fr_sh (eFn_sh (F := F_bridge_form) (as := [pr p q]) (one1 tp) (bform_ok p q h0 (by omega)))) (fv a.e5)) (alikeT (plain_pr p (mirN p q)) (fr_sh (eFn_sh (F := F_mirrored_bridge) (as := [pr p q]) (one1 tp) (bmir_ok p q h0 hq))) (fv a.e6)))
theorem bitAnd1 (p : Nat) (hp : p ≤ 60) : Builtin.bitAnd (p : Int) 1 = ((p % 2 : Nat) : Int) := by
  have : ∀ q, q < 61 → Builtin.bitAnd ((q : Nat) : Int) 1 = ((q % 2 : Nat) : Int) := by decide +kernel
  exact this p (by omega)
theorem s5 {ρ : Rho} {p q : Nat} (a : At ρ p q) (h0 : 0 < p) (hp : p ≤ 60) (hq : q < p) (k2 : formOk p (mirN p q) = true) : L_1_5 ρ = some (.nx ρ) := by
  have tp := tup2 (fv a.e3) (fv a.e4)
  have hm : mirN p q < p := Nat.mod_lt _ h0
  have f1 : eFn F__law_form (aCons (frM (eVar 3)) (aCons (frM (binS ixA (eVar 6) (eC (.int 1)))) aNil)) ρ = some (.sh (pr p (formE p (mirN p q))), ρ) :=
    eFn_sh (F := F__law_form) (as := [iD p, iD (mirN p q)]) (two2 (fv a.e3) (fr_sh (bin_sh (z := .sh (iD (mirN p q))) (pv' a.e6) (pk_sh (d := .int 1) rfl) rfl))) (form_ok h0 hp hm k2)
  have f2 : binS eqqD (eFn F__law_form (aCons (frM (eVar 3)) (aCons (frM (binS ixA (eVar 6) (eC (.int 1)))) aNil))) (eVar 5) ρ = some (.sh (.bool (decide (formE p q = formE p (mirN p q)))), ρ) :=
    bin_sh (z := .sh (.bool (decide (formE p q = formE p (mirN p q))))) (pk_sh f1) (pv' a.e5) (by
      rw [eq_pr]
      exact congrArg (fun z => some (Rz.sh (.bool z))) (Bool.eq_iff_iff.mpr (by simp; exact eq_comm)))
  have f3 : binS (bitD Builtin.bitAnd) (eVar 3) (eC (.int 1)) ρ = some (.sh (iD (p % 2)), ρ) := bin_sh (z := .sh (iD (p % 2))) (pv' a.e3) (pk_sh (d := .int 1) rfl) (congrArg (fun z => some (Rz.sh (PyData.int z))) (bitAnd1 p hp))
  have f4 : frM (binS subD (eC (.int 2)) (binS (bitD Builtin.bitAnd) (eVar 3) (eC (.int 1)))) ρ = some (.sh (iD (2 - p % 2)), ρ) := fr_sh (bin_sh (z := .sh (iD (2 - p % 2))) (pk_sh (d := .int 2) rfl) (pk_sh f3) (congrArg (fun z => some (Rz.sh (PyData.int z))) (by omega)))
  exact ifF (orF (alikeT (plain_b _) (fr_sh (eFn_sh (F := F_is_own_mirror) (as := [pr p q]) (one1 tp) (own_ok p q h0 (by omega) hq))) f2) (alikeT (plain_i _) (fr_sh (eFn_sh (F := F_count_components) (as := [pr p q]) (one1 tp) (cnt_ok p q))) f4))
theorem s6 {ρ : Rho} {p q : Nat} (a : At ρ p q) (hp : p ≤ 60) (hq : q < p) : L_1_6 ρ = some (.nx (ρ.set 7 (.sh (tup (rowQ p q))))) := sSet_sh (i := 7) (eFn_sh (F := F__law_row) (as := [iD p, iD q]) (two2 (fv a.e3) (fv a.e4)) (row_ok p q (by omega)))
theorem s7 {ρ : Rho} {p q : Nat} (a : At ρ p q) (e7 : ρ[7]? = some (.sh (tup (rowQ p q)))) (hp : p ≤ 60) (hq : q < p) (k3 : pairL (rowQ p q) = (p, q)) (k4 : ∀ x ∈ rowQ p q, x < 1000) (k5 : (rowQ p q).length < 1000) : L_1_7 ρ = some (.nx ρ) := by
  have tp := tup2 (fv a.e3) (fv a.e4)
  have hb := bof_ok (rowQ p q) k4
  rw [k3] at hb
  exact ifF (orF (alikeT (plain_tup _ (Nat.lt_trans k5 (by decide))) (fr_sh (eFn_sh (F := F_bridge_row) (as := [pr p q]) (one1 tp) (brow_ok p q (by omega)))) (fv e7)) (alikeT (plain_pr p q) (fr_sh (eFn_sh (F := F_bridge_of) (as := [tup (rowQ p q)]) (one1 (fv e7)) hb)) tp))
theorem s8 {ρ : Rho} {p q : Nat} (a : At ρ p q) (e7 : ρ[7]? = some (.sh (tup (rowQ p q)))) (h0 : 0 < p) (hp : p ≤ 60) (hq : q < p) (k1 : (rowQ p (mirN p q)).sum = (rowQ p q).sum) (k2 : (rowQ p (formE p q)).sum = (rowQ p q).sum) (k3 : formE p q < 1000) : L_1_8 ρ = some (.nx ρ) := by
  have tp := tup2 (fv a.e3) (fv a.e4)
  have hm : mirN p q < p := Nat.mod_lt _ h0
  have hs : frM (eCall sumG (aCons (eVar 7) aNil)) ρ = some (.sh (iD (rowQ p q).sum), ρ) := fr_sh (eCall_sh (z := .sh (iD (rowQ p q).sum)) (one1 (ev e7)) rfl (sumG_n _))
  have c1 := cross_ok p q (by omega)
  have c2 := cross_ok p (mirN p q) (by omega)
  have c3 := cross_ok p (formE p q) (by omega)
  rw [k1] at c2
  rw [k2] at c3
  exact ifF (orF (alikeT (plain_i _) (fr_sh (eFn_sh (F := F_crossings_of) (as := [pr p q]) (one1 tp) c1)) hs) (orF (alikeT (plain_i _) (fr_sh (eFn_sh (F := F_crossings_of) (as := [pr p (mirN p q)]) (one1 (fv a.e6)) c2)) hs) (alikeT (plain_i _) (fr_sh (eFn_sh (F := F_crossings_of) (as := [pr p (formE p q)]) (one1 (fv a.e5)) c3)) hs)))
theorem s9 {S : Sl} {ds : List Int} {n p : Nat} {s2 s4 s5 s6 s7 s8 s9 : Sl} (N : Nums) (h0 : 0 < p) (hp : p ≤ 60) : L_1_9 (Ro S ds n s2 (.sh (iD p)) s4 s5 s6 s7 s8 s9) = some (.nx (Ro S ds n s2 (.sh (iD p)) s4 s5 s6 s7 (.ow (.lst ((copr p).map fun r => pr p (formE p r)))) s9)) := by
  have hl := commonL (S := S) (ds := ds) (n := n) (s2 := s2) (s4 := s4) (s5 := s5) (s6 := s6) (s7 := s7) (s8 := s8) (s9 := s9) hp (eFn F__law_form (aCons (frM (eVar 3)) (aCons (frM (eVar 10)) aNil))) (fun d => match d with | .int r => pr p (formE p r.toNat) | _ => .none) (fun r hr hg => by
    have c := ch1 N h0 hp hr hg
    unfold chk1 at c
    simp only [Bool.and_eq_true] at c
    exact fr_sh (eFn_sh (F := F__law_form) (as := [iD p, iD r]) (two2 (fv rfl) (fv rfl)) (form_ok h0 hp hr c.1.1.1.1.1.1.1)))
  exact sSet_ow (i := 8) hl
end K93

set_option Elab.async false
set_option linter.all false
set_option autoImplicit false
set_option maxRecDepth 100000
set_option maxHeartbeats 1000000
namespace K93
open PySem PySem.Spec PyProof.Rows L2 DL
theorem bin_d {g : Dv → Dv → Option Rz} {fa fb : M} {ρ ρ1 ρ2 : Rho} {r s : Rv} {d e : Dv} {z : Rz} (h1 : pkM fa ρ = some (r, ρ1)) (h2 : pkM fb ρ1 = some (s, ρ2)) (h3 : dat ρ2 r = some d) (h4 : dat ρ2 s = some e) (h5 : g d e = some z) : binS g fa fb ρ = some (z.rv, ρ2) := by
  unfold binS
  rw [h1]
  simp only [Option.bind_some]
  rw [h2]
  simp only [Option.bind_some]
  rw [h3]
  simp only [Option.bind_some]
  rw [h4]
  simp only [Option.bind_some]
  rw [h5]
  rfl
theorem iSeq_o {f : M} {ρ ρ1 : Rho} {ds : List Dv} (h : f ρ = some (.ow (.lst ds), ρ1)) : iSeq f ρ = some (ds, ρ1) := by
  unfold iSeq
  rw [fr_ow h]
  rfl
def inB (p : Nat) : Dv → Bool
  | .tuple [_, .int r] => inEv p r.toNat
  | _ => false
theorem every_any (p r : Nat) : (((copr p).map fun q => pr p (formE p q)).any fun z => PyData.eqv z (pr p r)) = inEv p r := by
  unfold inEv
  rw [List.any_map]
  congr 1
  funext q
  show PyData.eqv (pr p (formE p q)) (pr p r) = _
  rw [eqv_pr]
  exact Bool.eq_iff_iff.mpr (by simp)
theorem s10 {S : Sl} {ds : List Int} {n p : Nat} {s2 s4 s5 s6 s7 s9 : Sl} (N : Nums) (h0 : 0 < p) (hp : p ≤ 60) : L_1_10 (Ro S ds n s2 (.sh (iD p)) s4 s5 s6 s7 (.ow (.lst ((copr p).map fun r => pr p (formE p r)))) s9) = some (.nx (Ro S ds n s2 (.sh (iD p)) s4 s5 s6 s7 (.ow (.lst ((copr p).map fun r => pr p (formE p r)))) s9)) := by
  have kA := N.A p h0 hp
  unfold chkA at kA
  simp only [Bool.and_eq_true, decide_eq_true_eq] at kA
  have hz := szl_6
  have r1 : rng1 [iD p] = some (rangeD 0 p) := range1_eval (by omega)
  generalize hρ : Ro S ds n s2 (.sh (iD p)) s4 s5 s6 s7 (.ow (.lst ((copr p).map fun r => pr p (formE p r)))) s9 = ρ
  have e3 : ρ[3]? = some (.sh (iD p)) := by rw [← hρ]; rfl
  have i1 := eLc1 (i := 10) (fi := iRng rng1 (aCons (eVar 3) aNil)) (c := cYes) (fe := eTup (aCons (frM (eVar 3)) (aCons (frM (eVar 10)) aNil))) (ρ := ρ) (s0 := .no) (ds := rangeD 0 p) (fun _ => true) (fun d => .tuple [iD p, d])
    (iRng_eq (rs := [.sh (iD p)]) (one1 (ev e3)) rfl r1) (by rw [← hρ]; rfl) (by intro o; simp) (by rw [rangeD_len]; omega) (fun d hd => rfl) (fun d hd hb => by
      subst hρ
      exact fr_sh (tup2 (fv rfl) (fv rfl)))
  have hE : ((rangeD 0 p).filter fun _ => true).map (fun d => PyData.tuple [iD p, d]) = (List.range p).map (pr p) := by
    rw [List.filter_eq_self.mpr (fun _ _ => rfl), rangeD_nat, List.map_map]
    rfl
  rw [hE] at i1
  have i2 := eLc1 (i := 12) (fi := iSeq _) (c := tB (binS inAD (eVar 12) (eVar 8))) (fe := eVar 12) (ρ := ρ) (s0 := .no) (ds := (List.range p).map (pr p)) (inB p) id
    (iSeq_o i1) (by rw [← hρ]; rfl) (by intro o; simp) (by simp; omega) (fun d hd => by
      obtain ⟨r, hr, rfl⟩ := List.mem_map.mp hd
      subst hρ
      have hv : inAD (pr p r) (.list ((copr p).map fun q => pr p (formE p q))) = some (.sh (.bool (inEv p r))) := by
        show (inSeq (pr p r) (.list ((copr p).map fun q => pr p (formE p q)))).map (fun b => Rz.sh (.bool b)) = _
        unfold inSeq
        simp only
        rw [if_pos ⟨sh_pr p r, kA.2⟩, every_any]
        rfl
      exact tB_sh (bin_d (pv' rfl) (s := .al 8) rfl rfl rfl hv)) (fun d hd hb => by
      obtain ⟨r, hr, rfl⟩ := List.mem_map.mp hd
      subst hρ
      exact fv rfl)
  have hE2 : (((List.range p).map (pr p)).filter (inB p)).map id = (allN p).map (pr p) := by
    rw [List.map_id, List.filter_map, kA.1]
    rfl
  rw [hE2] at i2
  have i3 := fr_sh (eCall_sh (g := tupleG) (fa := aCons _ aNil) (rs := [.ow (.lst ((allN p).map (pr p)))]) (ds := [.list ((allN p).map (pr p))]) (z := .sh (.tuple ((allN p).map (pr p)))) (aCons_eq i2 rfl) rfl rfl)
  have hlen : (allN p).length < 1000000 := by
    rw [kA.1]
    refine Nat.lt_of_le_of_lt (List.length_filter_le _ _) ?_
    simp
    omega
  exact ifF (alikeT (plain_tprs p _ hlen) (fr_sh (eFn_sh (F := F_all_bridges) (as := [iD p]) (one1 (fv e3)) (all_ok p h0 (by omega)))) i3)
theorem nats_of : ∀ vs : List Dv, (∀ v ∈ vs, ∃ x : Nat, v = iD x ∧ 1 ≤ x ∧ x ≤ 4) → ∃ xs : List Nat, vs = xs.map iD ∧ (∀ x ∈ xs, x < 1000) ∧ xs ∈ rowsN vs.length
  | [], _ => ⟨[], rfl, by simp, by simp [rowsN]⟩
  | v :: vs, h => by
    obtain ⟨x, rfl, h1, h4⟩ := h v (List.mem_cons_self ..)
    obtain ⟨xs, rfl, h2, h3⟩ := nats_of vs fun y hy => h y (List.mem_cons_of_mem _ hy)
    refine ⟨x :: xs, rfl, fun y hy => ?_, ?_⟩
    · rcases List.mem_cons.mp hy with rfl | hy
      · omega
      · exact h2 y hy
    · rw [List.length_cons, rowsN]
      refine List.mem_flatMap.mpr ⟨xs, h3, List.mem_map.mpr ⟨x, ?_, rfl⟩⟩
      have : x = 1 ∨ x = 2 ∨ x = 3 ∨ x = 4 := by omega
      rcases this with rfl | rfl | rfl | rfl <;> simp
theorem s11 {S : Sl} {ds : List Int} {n : Nat} {s2 s3 s4 s5 s6 s7 s8 s9 : Sl} : ∃ (n' : Nat) (xs : List Nat) (l : Nat), (∀ x ∈ xs, x < 1000) ∧ xs.length < 5 ∧ xs ∈ rowsN xs.length ∧ (l = 2 ∨ l = 3 ∨ l = 4) ∧ L_1_11 (Ro S ds n s2 s3 s4 s5 s6 s7 s8 s9) = some (.nx (Ro S ds n' s2 s3 s4 s5 s6 s7 s8 (.sh (tup (xs ++ [l]))))) := by
  have hz := szl_6
  obtain ⟨k', hk0, hk1, e⟩ := eNext (i := 1) (fm := eC (.int 5)) (ρ := Ro S ds n s2 s3 s4 s5 s6 s7 s8 s9) (m := 5) rfl rfl (by omega)
  obtain ⟨k, rfl⟩ := Int.eq_ofNat_of_zero_le hk0
  have r1 : rng1 [iD k] = some (rangeD 0 k) := range1_eval (by omega)
  obtain ⟨vs, n', hl, hv, e2⟩ := eLcW (i := 11) (fi := iRng rng1 (aCons (eFn F__law_next (aCons (eVar 1) (aCons (eC (.int 5)) aNil))) aNil)) (fe := binS addD (eC (.int 1)) (eFn F__law_next (aCons (eVar 1) (aCons (eC (.int 4)) aNil))))
    (fun m s => [S, .ow (W1 ds m), s2, s3, s4, s5, s6, s7, s8, s9, .no, s, .no]) (fun v => ∃ x : Nat, v = iD x ∧ 1 ≤ x ∧ x ≤ 4) (fun _ _ _ => rfl) (fun m d => by
      obtain ⟨v, hv0, hv1, e⟩ := eNext (i := 1) (fm := eC (.int 4)) (ρ := [S, .ow (W1 ds m), s2, s3, s4, s5, s6, s7, s8, s9, .no, .sh d, .no]) (m := 4) rfl rfl (by omega)
      obtain ⟨x, rfl⟩ := Int.eq_ofNat_of_zero_le hv0
      have ha : addD (.int 1) (iD x) = some (.sh (iD (1 + x))) := congrArg (fun z => some (Rz.sh (PyData.int z))) (by rw [Int.natCast_add]; rfl)
      exact ⟨iD (1 + x), ⟨1 + x, rfl, by omega, by omega⟩, fr_sh (bin_sh (pk_sh (d := .int 1) (f := eC (.int 1)) rfl) (pk_sh e) ha)⟩)
    (ρ := Ro S ds n s2 s3 s4 s5 s6 s7 s8 s9) (s0 := .no) (ds := rangeD 0 k) (n + 1) (iRng_eq (rs := [.sh (iD k)]) (aCons_eq e rfl) rfl r1) rfl (by intro o; simp) (by rw [rangeD_len]; omega)
  rw [rangeD_len] at hl
  obtain ⟨xs, rfl, h1, h2⟩ := nats_of vs hv
  rw [List.length_map] at h2 hl
  obtain ⟨l', hl0, hl1, e3⟩ := eNext (i := 1) (fm := eC (.int 3)) (ρ := Ro S ds n' s2 s3 s4 s5 s6 s7 s8 s9) (m := 3) rfl rfl (by omega)
  obtain ⟨l, rfl⟩ := Int.eq_ofNat_of_zero_le hl0
  have ha : addD (.int 2) (iD l) = some (.sh (iD (2 + l))) := congrArg (fun z => some (Rz.sh (PyData.int z))) (by rw [Int.natCast_add]; rfl)
  have e4 := fr_sh (bin_sh (pk_sh (d := .int 2) (f := eC (.int 2)) rfl) (pk_sh e3) ha)
  have e5 : eTup (aCons (frM (binS addD (eC (.int 2)) (eFn nextF (aCons (eVar 1) (aCons (eC (.int 3)) aNil))))) aNil) (Ro S ds n' s2 s3 s4 s5 s6 s7 s8 s9) = some (.sh (tup [2 + l]), Ro S ds (n' + 1) s2 s3 s4 s5 s6 s7 s8 s9) := by
    unfold eTup
    rw [aCons_eq e4 rfl]
    simp only [Option.bind_some, shs, Option.map_some]
    rw [if_pos (by simp; omega)]
    rfl
  have hadd : addD (tup xs) (tup [2 + l]) = some (.sh (tup (xs ++ [2 + l]))) := by
    show (if (xs.map iD).length + ([2 + l].map iD).length ≤ sizeLine then some (Rz.sh (.tuple (xs.map iD ++ [2 + l].map iD))) else none) = _
    rw [if_pos (by simp; omega), ← List.map_append]
  have e6 := eCall_sh (g := tupleG) (fa := aCons _ aNil) (rs := [.ow (.lst (xs.map iD))]) (ds := [.list (xs.map iD)]) (z := .sh (tup xs)) (aCons_eq e2 rfl) rfl rfl
  refine ⟨n' + 1, xs, 2 + l, h1, by omega, h2, by omega, ?_⟩
  exact sSet_sh (i := 9) (bin_sh (pk_sh e6) (pk_sh e5) hadd)
theorem s12 {ρ : Rho} {xs : List Nat} {l : Nat} (N : Nums) (e9 : ρ[9]? = some (.sh (tup (xs ++ [l])))) (h1 : ∀ x ∈ xs, x < 1000) (h2 : xs.length < 5) (h3 : xs ∈ rowsN xs.length) (h4 : l = 2 ∨ l = 3 ∨ l = 4) : L_1_12 ρ = some (.nx ρ) := by
  have k := N.R xs.length h2
  unfold chkN at k
  have k1 := List.all_eq_true.mp (List.all_eq_true.mp k xs h3) l (by rcases h4 with rfl | rfl | rfl <;> simp)
  unfold chkR at k1
  simp only [Bool.and_eq_true, decide_eq_true_eq] at k1
  have hs : ∀ x ∈ xs ++ [l], x < 1000 := fun x hx => by
    rcases List.mem_append.mp hx with hx | hx
    · exact h1 x hx
    · have := List.mem_singleton.mp hx
      omega
  have p1 := bof_ok (xs ++ [l]) hs
  have p2 := lpair_ok (xs ++ [l]) hs
  have p3 := brow_ok (pairL (xs ++ [l])).1 (pairL (xs ++ [l])).2 k1.2
  rw [show rowL ((pairL (xs ++ [l])).2 + 1) (pairL (xs ++ [l])).1 (pairL (xs ++ [l])).2 = xs ++ [l] from k1.1] at p3
  have q1 := fr_sh (eFn_sh (F := F__law_pair) (ga := aCons (frM (eVar 9)) aNil) (as := [tup (xs ++ [l])]) (one1 (fv e9)) p2)
  exact ifF (orF (alikeT (plain_pr _ _) (fr_sh (eFn_sh (F := F_bridge_of) (as := [tup (xs ++ [l])]) (one1 (fv e9)) p1)) q1) (alikeT (plain_tup _ (by simp; omega)) (fr_sh (eFn_sh (F := F_bridge_row) (as := [pr (pairL (xs ++ [l])).1 (pairL (xs ++ [l])).2]) (one1 q1) p3)) (fv e9)))
end K93

set_option Elab.async false
set_option linter.all false
set_option autoImplicit false
set_option maxRecDepth 100000
set_option maxHeartbeats 1000000
namespace K93
open PySem PySem.Spec PyProof.Rows L2 DL
def turnG : MS := sSeq L_1_0 (sSeq L_1_1 (sSeq L_1_2 (sSeq L_1_3 (sSeq L_1_4 (sSeq L_1_5 (sSeq L_1_6 (sSeq L_1_7 (sSeq L_1_8 (sSeq L_1_9 (sSeq L_1_10 (sSeq L_1_11 L_1_12)))))))))))
theorem turn_ok (N : Nums) (S : Sl) (ds : List Int) (n : Nat) (s2 s3 s4 s5 s6 s7 s8 s9 : Sl) : ∃ n' t3 t4 t5 t6 t7 t8 t9, turnG (Ro S ds n s2 s3 s4 s5 s6 s7 s8 s9) = some (.nx (Ro S ds n' s2 t3 t4 t5 t6 t7 t8 t9)) := by
  unfold turnG
  obtain ⟨p, h0, hp, a0⟩ := d0 (S := S) (ds := ds) (n := n) (s2 := s2) (s3 := s3) (s4 := s4) (s5 := s5) (s6 := s6) (s7 := s7) (s8 := s8) (s9 := s9)
  rw [sSeq_nx a0]
  obtain ⟨q, hq, hg, a1⟩ := d1 (S := S) (ds := ds) (n := n + 1) (p := p) (s2 := s2) (s4 := s4) (s5 := s5) (s6 := s6) (s7 := s7) (s8 := s8) (s9 := s9) h0 hp
  rw [sSeq_nx a1]
  have c1 := ch1 N h0 hp hq hg
  unfold chk1 at c1
  simp only [Bool.and_eq_true, decide_eq_true_eq] at c1
  obtain ⟨⟨⟨⟨⟨⟨⟨k1, k2⟩, k3⟩, k4⟩, k5⟩, k6⟩, k7⟩, k8⟩ := c1
  have k7 : ∀ x ∈ rowQ p q, x < 1000 := fun x hx => of_decide_eq_true (List.all_eq_true.mp k7 x hx)
  have a2 : L_1_2 (Ro S ds (n + 1 + 1) s2 (.sh (iD p)) (.sh (iD q)) s5 s6 s7 s8 s9) = some (.nx (Ro S ds (n + 1 + 1) s2 (.sh (iD p)) (.sh (iD q)) (.sh (pr p (formE p q))) s6 s7 s8 s9)) :=
    sSet_sh (i := 5) (eFn_sh (F := F__law_form) (as := [iD p, iD q]) (two2 (fv rfl) (fv rfl)) (form_ok h0 hp hq k1))
  rw [sSeq_nx a2]
  have a3 : L_1_3 (Ro S ds (n + 1 + 1) s2 (.sh (iD p)) (.sh (iD q)) (.sh (pr p (formE p q))) s6 s7 s8 s9) = some (.nx (Ro S ds (n + 1 + 1) s2 (.sh (iD p)) (.sh (iD q)) (.sh (pr p (formE p q))) (.sh (pr p (mirN p q))) s7 s8 s9)) := by
    have hmod : modD (.int (-(q : Int))) (iD p) = some (.sh (iD (mirN p q))) := by
      have hp0 : (0 : Int) < (p : Int) := by omega
      show (if (0 : Int) < (p : Int) then some (Rz.sh (PyData.int (-(q : Int) % (p : Int)))) else none) = _
      rw [if_pos hp0, mir_ok h0 hq]
    have hneg : ∀ ρ : Rho, ρ[4]? = some (.sh (iD q)) → eCall intG (aCons (unS negD (eVar 4)) aNil) ρ = some (.sh (.int (-(q : Int))), ρ) := fun ρ e => by
      have h1 : unS negD (eVar 4) ρ = some (.sh (.int (-(q : Int))), ρ) := by
        unfold unS
        rw [ev e]
        rfl
      exact eCall_sh (z := .sh (.int (-(q : Int)))) (one1 h1) rfl rfl
    exact sSet_sh (i := 6) (tup2 (fv rfl) (fr_sh (bin_sh (z := .sh (iD (mirN p q))) (pk_sh (hneg _ rfl)) (pv' rfl) hmod)))
  rw [sSeq_nx a3]
  have at1 : At (Ro S ds (n + 1 + 1) s2 (.sh (iD p)) (.sh (iD q)) (.sh (pr p (formE p q))) (.sh (pr p (mirN p q))) s7 s8 s9) p q := ⟨rfl, rfl, rfl, rfl⟩
  rw [sSeq_nx (K93.s4 at1 h0 hp hq), sSeq_nx (K93.s5 at1 h0 hp hq k2), sSeq_nx (K93.s6 at1 hp hq)]
  have at2 : At (Ro S ds (n + 1 + 1) s2 (.sh (iD p)) (.sh (iD q)) (.sh (pr p (formE p q))) (.sh (pr p (mirN p q))) (.sh (tup (rowQ p q))) s8 s9) p q := ⟨rfl, rfl, rfl, rfl⟩
  show ∃ n' t3 t4 t5 t6 t7 t8 t9, sSeq L_1_7 (sSeq L_1_8 (sSeq L_1_9 (sSeq L_1_10 (sSeq L_1_11 L_1_12)))) (Ro S ds (n + 1 + 1) s2 (.sh (iD p)) (.sh (iD q)) (.sh (pr p (formE p q))) (.sh (pr p (mirN p q))) (.sh (tup (rowQ p q))) s8 s9) = _
  rw [sSeq_nx (K93.s7 at2 rfl hp hq k3 k7 k8), sSeq_nx (K93.s8 at2 rfl h0 hp hq k4 k5 k6)]
  rw [sSeq_nx (K93.s9 N h0 hp), sSeq_nx (K93.s10 N h0 hp)]
  obtain ⟨n', xs, l, h1, h2, h3, h4, a11⟩ := K93.s11 (S := S) (ds := ds) (n := n + 1 + 1) (s2 := s2) (s3 := .sh (iD p)) (s4 := .sh (iD q)) (s5 := .sh (pr p (formE p q))) (s6 := .sh (pr p (mirN p q))) (s7 := .sh (tup (rowQ p q))) (s8 := .ow (.lst ((copr p).map fun r => pr p (formE p r)))) (s9 := s9)
  rw [sSeq_nx a11, K93.s12 N rfl h1 h2 h3 h4]
  exact ⟨_, _, _, _, _, _, _, _, rfl⟩
theorem L1_eq : L_1 = sFor (iRng rng1 (aCons (eC (.int 6)) aNil)) (tName 2) turnG := rfl
theorem L1_ok (N : Nums) (S : Sl) (ds : List Int) : ∃ n s2 s3 s4 s5 s6 s7 s8 s9, L_1 [S, .ow (W1 ds 0), .no, .no, .no, .no, .no, .no, .no, .no, .no, .no, .no] = some (.nx (Ro S ds n s2 s3 s4 s5 s6 s7 s8 s9)) := by
  have r1 : rng1 [.int 6] = some (rangeD 0 6) := range1_eval (n := 6) (by decide)
  obtain ⟨ρ', e, n, s2, s3, s4, s5, s6, s7, s8, s9, rfl⟩ := forS_inv (t := tName 2) (b := turnG) (fun _ ρ => ∃ n s2 s3 s4 s5 s6 s7 s8 s9, ρ = Ro S ds n s2 s3 s4 s5 s6 s7 s8 s9) (rangeD 0 6) 0 [S, .ow (W1 ds 0), .no, .no, .no, .no, .no, .no, .no, .no, .no, .no, .no] ⟨0, _, _, _, _, _, _, _, _, rfl⟩ fun j d ρ hd hI => by
    obtain ⟨n, s2, s3, s4, s5, s6, s7, s8, s9, rfl⟩ := hI
    obtain ⟨n', t3, t4, t5, t6, t7, t8, t9, e⟩ := turn_ok N S ds n (.sh d) s3 s4 s5 s6 s7 s8 s9
    exact ⟨_, _, rfl, .inl e, n', _, t3, t4, t5, t6, t7, t8, t9, rfl⟩
  refine ⟨n, s2, s3, s4, s5, s6, s7, s8, s9, ?_⟩
  rw [L1_eq]
  exact (sFor_eq (iRng_eq (rs := [.sh (.int 6)]) (one1 rfl) rfl r1)).trans e
theorem and_sh {fa fb : M} {ρ : Rho} {d : Dv} (ha : fa ρ = some (.sh (.bool true), ρ)) (hb : fb ρ = some (.sh d, ρ)) : eAnd fa fb ρ = some (.sh d, ρ) := by
  unfold eAnd
  rw [pk_sh ha]
  exact hb
theorem L2_ok (ρ : Rho) : L_2 ρ = some (.rt (.sh (.bool true)) ρ) := by
  have t10 : eTup (aCons (eC (.int 1)) (aCons (eC (.int 0)) aNil)) ρ = some (.sh (pr 1 0), ρ) := tup2 rfl rfl
  have t52 : eTup (aCons (eC (.int 5)) (aCons (eC (.int 2)) aNil)) ρ = some (.sh (pr 5 2), ρ) := tup2 rfl rfl
  have t31 : eTup (aCons (eC (.int 3)) (aCons (eC (.int 1)) aNil)) ρ = some (.sh (pr 3 1), ρ) := tup2 rfl rfl
  have t0 : eTup aNil ρ = some (.sh (tup []), ρ) := by simp [eTup, aNil, shs]
  have b1 : F_bridge_row [.sh (pr 1 0)] = some (.sh (tup []), [.sh (pr 1 0)]) := brow_ok 1 0 (by decide)
  have b2 : F_bridge_of [.sh (tup [])] = some (.sh (pr 1 0), [.sh (tup [])]) := bof_ok [] (by simp)
  have b3 : F_is_own_mirror [.sh (pr 5 2)] = some (.sh (.bool true), [.sh (pr 5 2)]) := by
    rw [own_ok 5 2 (by decide) (by decide) (by decide), show decide (formE 5 2 = formE 5 (mirN 5 2)) = true by decide +kernel]
  have b4 : F_is_own_mirror [.sh (pr 3 1)] = some (.sh (.bool false), [.sh (pr 3 1)]) := by
    rw [own_ok 3 1 (by decide) (by decide) (by decide), show decide (formE 3 1 = formE 3 (mirN 3 1)) = false by decide +kernel]
  exact sRet_sh (and_sh (alikeE (plain_tup [] (by simp)) (fr_sh (eFn_sh (F := F_bridge_row) (as := [pr 1 0]) (one1 t10) b1)) t0) (and_sh (alikeE (plain_pr 1 0) (fr_sh (eFn_sh (F := F_bridge_of) (as := [tup []]) (one1 t0) b2)) t10)
    (and_sh (alikeE (plain_b true) (fr_sh (eFn_sh (F := F_is_own_mirror) (as := [pr 5 2]) (one1 t52) b3)) rfl) (alikeE (plain_b false) (fr_sh (eFn_sh (F := F_is_own_mirror) (as := [pr 3 1]) (one1 t31) b4)) rfl))))
theorem L0_ok (ns : List Int) (hn : ns.length ≤ 63) : ∃ ds : List Int, L_0 [.sh (.list (ns.map .int)), .no, .no, .no, .no, .no, .no, .no, .no, .no, .no, .no, .no] = some (.nx [.sh (.list (ns.map .int)), .ow (W1 ds 0), .no, .no, .no, .no, .no, .no, .no, .no, .no, .no, .no]) := by
  obtain ⟨ds, _, e⟩ := draws_ok ns hn 200 (by decide)
  refine ⟨ds, ?_⟩
  have e1 : frM (eFn F__law_draws (aCons (frM (eVar 0)) (aCons (eC (.int 200)) aNil))) [.sh (.list (ns.map .int)), .no, .no, .no, .no, .no, .no, .no, .no, .no, .no, .no, .no] = some (.sh (.list (ds.map .int)), [.sh (.list (ns.map .int)), .no, .no, .no, .no, .no, .no, .no, .no, .no, .no, .no, .no]) :=
    fr_ow (eFn_ow (F := F__law_draws) (as := [.list (ns.map .int), .int 200]) (two2 (fv rfl) rfl) e)
  have e2 : prS [((.inr ("draws" : Str) : Key), (eFn F__law_draws (aCons (frM (eVar 0)) (aCons (eC (.int 200)) aNil)))), ((.inr ("at" : Str) : Key), (eC (.int 0)))] [.sh (.list (ns.map .int)), .no, .no, .no, .no, .no, .no, .no, .no, .no, .no, .no, .no] = some ([((.inr ("draws" : Str) : Key), .list (ds.map .int)), ((.inr ("at" : Str) : Key), .int 0)], [.sh (.list (ns.map .int)), .no, .no, .no, .no, .no, .no, .no, .no, .no, .no, .no, .no]) := by
    simp only [prS, e1, Option.bind_some]
    rfl
  have e3 : mergeD [] [((.inr ("draws" : Str) : Key), PyData.list (ds.map .int)), ((.inr ("at" : Str) : Key), .int 0)] = [(.str ("draws" : Str), .list (ds.map .int)), (.str ("at" : Str), .int 0)] := by
    simp [mergeD, putD, keyD, key1]
  have e4 : eDisp [((.inr ("draws" : Str) : Key), (eFn F__law_draws (aCons (frM (eVar 0)) (aCons (eC (.int 200)) aNil)))), ((.inr ("at" : Str) : Key), (eC (.int 0)))] [.sh (.list (ns.map .int)), .no, .no, .no, .no, .no, .no, .no, .no, .no, .no, .no, .no] = some (.ow (W1 ds 0), [.sh (.list (ns.map .int)), .no, .no, .no, .no, .no, .no, .no, .no, .no, .no, .no, .no]) := by
    unfold eDisp
    rw [e2]
    simp only [Option.bind_some, e3]
    rfl
  exact sSet_ow (i := 1) e4
theorem law_ok (N : Nums) : ∀ ns : List Int, ns.length ≤ 63 → ∃ as', F_law [.sh (.list (ns.map PyData.int))] = some (.sh (.bool true), as') := fun ns hn => by
  obtain ⟨ds, a0⟩ := L0_ok ns hn
  obtain ⟨n, s2, s3, s4, s5, s6, s7, s8, s9, a1⟩ := L1_ok N (.sh (.list (ns.map .int))) ds
  refine ⟨[.sh (.list (ns.map .int))], ?_⟩
  exact runF_eq (np := 1) (N := 13) (ix := []) (g := g_law) (as := [.sh (.list (ns.map .int))]) rfl ((sSeq_nx (g := L_0) (h := sSeq L_1 L_2) a0).trans ((sSeq_nx a1).trans (L2_ok _))) rfl
end K93

set_option Elab.async false
set_option linter.all false
set_option maxRecDepth 100000
set_option maxHeartbeats 1000000
namespace K93
open PySem DL
theorem blk_ok {a : Nat} {f : Nat → Bool} (h : blk a f = true) {j : Nat} (hj : j < 10) : f (10 * a + j + 1) = true := by
  unfold blk at h
  exact List.all_eq_true.mp h j (List.mem_range.mpr hj)
theorem split10 {p : Nat} (h0 : 0 < p) (hp : p ≤ 60) : ∃ a j, a < 6 ∧ j < 10 ∧ p = 10 * a + j + 1 := ⟨(p - 1) / 10, (p - 1) % 10, by omega, by omega, by omega⟩
theorem nums : Nums where
  P := fun p h0 hp => by
    obtain ⟨a, j, ha, hj, rfl⟩ := split10 h0 hp
    match a, ha with
    | 0, _ => exact blk_ok cP0 hj
    | 1, _ => exact blk_ok cP1 hj
    | 2, _ => exact blk_ok cP2 hj
    | 3, _ => exact blk_ok cP3 hj
    | 4, _ => exact blk_ok cP4 hj
    | 5, _ => exact blk_ok cP5 hj
  A := fun p h0 hp => by
    obtain ⟨a, j, ha, hj, rfl⟩ := split10 h0 hp
    match a, ha with
    | 0, _ => exact blk_ok cA0 hj
    | 1, _ => exact blk_ok cA1 hj
    | 2, _ => exact blk_ok cA2 hj
    | 3, _ => exact blk_ok cA3 hj
    | 4, _ => exact blk_ok cA4 hj
    | 5, _ => exact blk_ok cA5 hj
  R := fun n hn => by
    match n, hn with
    | 0, _ => exact cN0
    | 1, _ => exact cN1
    | 2, _ => exact cN2
    | 3, _ => exact cN3
    | 4, _ => exact cN4
theorem wanted : ∀ ns : List Int, ns.length ≤ 63 → ∃ as', F_law [.sh (.list (ns.map PyData.int))] = some (.sh (.bool true), as') := law_ok nums
end K93

open PySem PySem.W PySem.Calls PyProof.Rows
theorem PySem.Challenge.cw_turnwarrant_k93_links_of_two_bridges_holds : PySem.Challenge.rw_turnwarrant_k93_links_of_two_bridges.Holds := by
  w_on; o_law
  refine HandSHeadRun.head_any (r := OpenLaw.row PySem.Challenge.rw_turnwarrant_k93_links_of_two_bridges) (q := view (OpenLaw.row PySem.Challenge.rw_turnwarrant_k93_links_of_two_bridges).prog [23]) (H := K93.hk) (ob := K93.ob) (M := 1560) (loose := K93.loose) (d := HandSHeadRun.topDef (OpenLaw.row PySem.Challenge.rw_turnwarrant_k93_links_of_two_bridges).prog 23) (kwd := []) K93.ob_eq
    (by kernel_rfl) (fun s => by kernel_rfl) K93.run (by kernel_rfl) (by kernel_rfl) (by kernel_rfl) (by rfl) (by first | assumption | decide +kernel) (by decide +kernel) ⟨rfl, rfl, rfl, rfl, rfl, by decide +kernel⟩ ?hw ?hc
  case hw => w_witness2
  case hc =>
    refine L2.walk_ofE (l := PySem.Challenge.rw_turnwarrant_k93_links_of_two_bridges) (n := 63) (k := 8) (x := "script") (CX := L2.CX0) rfl (by decide) (by kernel_rfl) ⟨rfl, by decide, by decide⟩ ?F (fun _ _ _ _ z => z)
    intro w mg fa h Y G hmg0
    obtain ⟨K, KX, c⟩ := Y
    have hmg : mg ("law" : PySem.Str) = some (.ref fa) := by
      have e : (HandSHeadRun.topDef (OpenLaw.row PySem.Challenge.rw_turnwarrant_k93_links_of_two_bridges).prog 23).name = ("law" : PySem.Str) := by kernel_rfl
      rw [← e]
      exact hmg0
    obtain ⟨fd, hb, hF⟩ := K93.facts (P := (PySem.Challenge.rw_turnwarrant_k93_links_of_two_bridges).prog) (w := w) KX G hmg c
    exact ⟨K, fd, DL.spD K 1 K93.F_law, KX, hb, fun H a ns hl _ hS => DL.law_end hS (K93.wanted ns hl), hF⟩

