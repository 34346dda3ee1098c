import PyProof.Rows.All
import HandS.ForMost
import HandS.IsInst
import HandS.Conv
import HandS.Style
import HandS.Flow
import HandS.SortInts
import HandS.Rev
import HandS.TupAny
import HandS.TupMul
import HandS.Deep
import HandS.Zip
import KE.SortData
import KE.KDictKeyed
import KE.KeyNested
import KE.DataMinMax
import KE.KTupSum
import PyProof.Rows.ListMulArg
import KE.KRevSl
import HandS.Head0
import HandS.Head1
import HandS.Head2
import HandS.HeadEnd
import HandS.HeadHook1
import HandS.HeadHook2
import HandS.TupLen
import HandS.SetKeys
import KE.KDictCopyH
import KE.KDictSum
import KE.KDictDisplayH
import HandS.TupSets
import HandS.ExcValue
import HandS.Strs
import KE.BitLaws
import Wide.All
import OpenK.AllK
import Wide.FinOn
import KE.KStateDown
import Lean
import PySem.Challenge.RW_turnwarrant_k88_whole_rules_of_cells
set_option Elab.async false
set_option linter.all false
set_option autoImplicit false
set_option maxRecDepth 100000
/-! DL: a layer of plain data over HandS. A def's body is read as a function of slots: each slot holds nothing, shared data (PyData, never changed again) or an owned object. -/
namespace DL
open PySem PySem.Spec PyProof.Rows L2

abbrev Dv := PyData
inductive Ob where
  | lst (xs : List Dv)
  | dct (kvs : List (Dv × Dv))
  | dtn (kvs : List (Dv × Dv))
inductive Sl where
  | no | sh (d : Dv) | ow (o : Ob) | fd (o : Ob)
inductive Rv where
  | sh (d : Dv) | ow (o : Ob) | al (i : Nat) | fd (o : Ob)
abbrev Rho := List Sl
abbrev M := Rho → Option (Rv × Rho)
abbrev MB := Rho → Option (Bool × Rho)
inductive Fl where
  | nx (ρ : Rho) | rt (r : Rv) (ρ : Rho) | bk (ρ : Rho) | ct (ρ : Rho)
abbrev MS := Rho → Option Fl

/-! ### heaps -/
def Sub (G G' : Hp) : Prop := ∀ a o, G a = some o → G' a = some o
theorem Sub.refl (G : Hp) : Sub G G := fun _ _ h => h
theorem Sub.trans {G G1 G2 : Hp} (a : Sub G G1) (b : Sub G1 G2) : Sub G G2 := fun c u h => b c u (a c u h)
theorem sub_upd {G : Hp} {p : Addr} {o : HO} (h : G p = none) : Sub G (upd G p o) := fun a u r => by
  have n : a ≠ p := fun e => by
    subst e
    rw [h] at r
    cases r
  rw [upd_ne n]
  exact r
theorem sub_le {G H : Hp} (h : ∀ a o, G a = some o → H a = some o) : Sub G H := h
theorem Sub.rd {G G' : Hp} (s : Sub G G') {a : Addr} {u : HO} (r : Rd G a u) : Rd G' a u := by
  rcases r with r | ⟨o, r⟩
  · exact .inl (s a u r)
  · exact .inr ⟨o, s a _ r⟩
section
variable {K : PySem.W.Frag} {G G' : Hp}
theorem Sub.sqL {a : Addr} {xs : List V} (s : Sub G G') (h : SqL K G a xs) : SqL K G' a xs := h.elim (fun r => .inl (s.rd r)) .inr
theorem Sub.sqT {a : Addr} {xs : List V} (s : Sub G G') (h : SqT K G a xs) : SqT K G' a xs := h.elim (fun r => .inl (s.rd r)) .inr
mutual
theorem dp_mono (s : Sub G G') : ∀ (d : PyData) (v : V), Dp K G v d → Dp K G' v d
  | .none, _, h => by cases h; exact .non
  | .bool b, _, h => by cases h; exact .bl b
  | .int i, _, h => by cases h; exact .int i
  | .str x, _, h => by cases h; exact .str x
  | .list ds, _, h => by
    cases h with
    | lst hs ha => exact .lst (s.sqL hs) (dpAll_mono s ds _ ha)
  | .tuple ds, _, h => by
    cases h with
    | tup hs ha => exact .tup (s.sqT hs) (dpAll_mono s ds _ ha)
  | .dict _, _, h => by cases h
theorem dpAll_mono (s : Sub G G') : ∀ (ds : List PyData) (vs : List V), DpAll K G vs ds → DpAll K G' vs ds
  | [], _, h => by cases h; exact .nil
  | d :: ds, _, h => by
    cases h with
    | cons h1 h2 => exact .cons (dp_mono s d _ h1) (dpAll_mono s ds _ h2)
end
theorem dpAll_length : ∀ {ds : List PyData} {vs : List V}, DpAll K G vs ds → vs.length = ds.length
  | [], _, h => by cases h; rfl
  | d :: ds, _, h => by
    cases h with
    | cons h1 h2 => simp [dpAll_length h2]
theorem dpAll_get : ∀ {ds : List PyData} {vs : List V} {i : Nat} {d : PyData}, DpAll K G vs ds → ds[i]? = some d → ∃ v, vs[i]? = some v ∧ Dp K G v d
  | [], _, i, d, h, e => by simp at e
  | d0 :: ds, _, 0, d, h, e => by
    cases h with
    | cons h1 h2 =>
      simp at e
      subst e
      exact ⟨_, rfl, h1⟩
  | d0 :: ds, _, i + 1, d, h, e => by
    cases h with
    | cons h1 h2 =>
      simp at e
      obtain ⟨v, h3, h4⟩ := dpAll_get h2 e
      exact ⟨v, by simpa using h3, h4⟩
theorem dpAll_append : ∀ {ds es : List PyData} {vs ws : List V}, DpAll K G vs ds → DpAll K G ws es → DpAll K G (vs ++ ws) (ds ++ es)
  | [], _, _, _, h, k => by cases h; exact k
  | d :: ds, _, _, _, h, k => by
    cases h with
    | cons h1 h2 => exact .cons h1 (dpAll_append h2 k)
theorem dpAll_take : ∀ {ds : List PyData} {vs : List V} (n : Nat), DpAll K G vs ds → DpAll K G (vs.take n) (ds.take n)
  | _, _, 0, h => by simp; exact .nil
  | [], _, n + 1, h => by cases h; exact .nil
  | d :: ds, _, n + 1, h => by
    cases h with
    | cons h1 h2 => exact .cons h1 (dpAll_take n h2)
theorem dpAll_drop : ∀ {ds : List PyData} {vs : List V} (n : Nat), DpAll K G vs ds → DpAll K G (vs.drop n) (ds.drop n)
  | _, _, 0, h => by simpa using h
  | [], _, n + 1, h => by cases h; exact .nil
  | d :: ds, _, n + 1, h => by
    cases h with
    | cons h1 h2 => exact dpAll_drop n h2
theorem dpAll_set {d : PyData} {v : V} (q : Dp K G v d) : ∀ {ds : List PyData} {vs : List V} (n : Nat), DpAll K G vs ds → DpAll K G (vs.set n v) (ds.set n d)
  | [], _, n, h => by cases h; simp; exact .nil
  | d0 :: ds, _, 0, h => by
    cases h with
    | cons h1 h2 => exact .cons q h2
  | d0 :: ds, _, n + 1, h => by
    cases h with
    | cons h1 h2 => exact .cons h1 (dpAll_set q n h2)
theorem dpAll_reverse : ∀ {ds : List PyData} {vs : List V}, DpAll K G vs ds → DpAll K G vs.reverse ds.reverse
  | [], _, h => by cases h; exact .nil
  | d :: ds, _, h => by
    cases h with
    | cons h1 h2 =>
      simp only [List.reverse_cons]
      exact dpAll_append (dpAll_reverse h2) (.cons h1 .nil)
theorem dpAll_ints : ∀ ns : List Int, DpAll K G (ns.map V.int) (ns.map PyData.int)
  | [] => .nil
  | n :: ns => .cons (.int n) (dpAll_ints ns)
theorem ints_of_dpAll : ∀ {ns : List Int} {vs : List V}, DpAll K G vs (ns.map PyData.int) → vs = ns.map V.int
  | [], _, h => by cases h; rfl
  | n :: ns, _, h => by
    cases h with
    | cons h1 h2 =>
      cases h1
      rw [ints_of_dpAll h2]
      rfl
end

/-! ### what owned objects hold -/
def keyD : Key → Dv
  | .inl i => .int i
  | .inr x => .str x
inductive DKV (K : PySem.W.Frag) (G : Hp) : List (Key × V) → List (Dv × Dv) → Prop
  | nil : DKV K G [] []
  | cons {k : Key} {v : V} {d : Dv} {r : List (Key × V)} {s : List (Dv × Dv)} : Dp K G v d → DKV K G r s → DKV K G ((k, v) :: r) ((keyD k, d) :: s)
theorem DKV.mono {K : PySem.W.Frag} {G G' : Hp} (s : Sub G G') : ∀ {kvs : List (Key × V)} {ds : List (Dv × Dv)}, DKV K G kvs ds → DKV K G' kvs ds
  | _, _, .nil => .nil
  | _, _, .cons h t => .cons (dp_mono s _ _ h) (DKV.mono s t)
/-! dicts whose keys are tuples of ints (nested) -/
mutual
def keyN : Dv → Option NestedKey
  | .none => some .none
  | .int i => some (.num i)
  | .tuple ds => (keyNs ds).map .tup
  | _ => none
def keyNs : List Dv → Option (List NestedKey)
  | [] => some []
  | d :: ds => (keyN d).bind fun k => (keyNs ds).map (k :: ·)
end
inductive PR : List (NestedKey × Addr × V) → List (NestedKey × Addr × Value) → Prop
  | nil : PR [] []
  | cons {k : NestedKey} {b : Addr} {v : V} {u : Value} {r : List (NestedKey × Addr × V)} {s : List (NestedKey × Addr × Value)} : RelV v u → PR r s → PR ((k, b, v) :: r) ((k, b, u) :: s)
def tkO (a : Addr) (ps : List (NestedKey × Addr × V)) : HO := .ext fun h => (a == sysModules) = false ∧ ∃ (xs : List (NestedKey × Addr × Value)) (o : Obj) (es : Array DictEntry) (ep : Nat), PR ps xs ∧ h.get? a = some o ∧ o.ExactDict ∧ o.data = .dict es ep ∧
  (∀ w : World, es.toList = xs.map fun x => ⟨x.1.hash w, .ref x.2.1, x.2.2⟩) ∧ (xs.map (·.1)).Nodup
inductive TKV (K : PySem.W.Frag) (G : Hp) : List (NestedKey × Addr × V) → List (Dv × Dv) → Prop
  | nil : TKV K G [] []
  | cons {k : NestedKey} {b : Addr} {v : V} {kd d : Dv} {r : List (NestedKey × Addr × V)} {s : List (Dv × Dv)} : keyN kd = some k → k.depth ≤ 8 → Dp K G (.ref b) kd → Dp K G v d → TKV K G r s → TKV K G ((k, b, v) :: r) ((kd, d) :: s)
theorem TKV.mono {K : PySem.W.Frag} {G G' : Hp} (s : Sub G G') : ∀ {ps : List (NestedKey × Addr × V)} {ds : List (Dv × Dv)}, TKV K G ps ds → TKV K G' ps ds
  | _, _, .nil => .nil
  | _, _, .cons h1 h2 h3 h4 t => .cons h1 h2 (dp_mono s _ _ h3) (dp_mono s _ _ h4) (TKV.mono s t)
def Ct (K : PySem.W.Frag) (G H : Hp) (a : Addr) : Ob → Prop
  | .lst ds => ∃ vs, H a = some (.lst vs) ∧ DpAll K G vs ds
  | .dct kvs => ∃ ks, H a = some (.dK ks) ∧ DKV K G ks kvs
  | .dtn kvs => ∃ ps, H a = some (tkO a ps) ∧ TKV K G ps kvs
theorem Ct.mono {K : PySem.W.Frag} {G G' H H' : Hp} {a : Addr} {o : Ob} (c : Ct K G H a o) (s : Sub G G') (h : H' a = H a) : Ct K G' H' a o := by
  cases o with
  | lst ds => obtain ⟨vs, e, q⟩ := c; exact ⟨vs, h.trans e, dpAll_mono s _ _ q⟩
  | dct kvs => obtain ⟨vs, e, q⟩ := c; exact ⟨vs, h.trans e, q.mono s⟩
  | dtn kvs => obtain ⟨vs, e, q⟩ := c; exact ⟨vs, h.trans e, q.mono s⟩
theorem Ct.some {K : PySem.W.Frag} {G H : Hp} {a : Addr} {o : Ob} (c : Ct K G H a o) : ∃ u, H a = some u := by
  cases o with
  | lst ds => obtain ⟨vs, e, q⟩ := c; exact ⟨_, e⟩
  | dct kvs => obtain ⟨vs, e, q⟩ := c; exact ⟨_, e⟩
  | dtn kvs => obtain ⟨vs, e, q⟩ := c; exact ⟨_, e⟩

/-- a dict that stays as it is from now on -/
def Cf (K : PySem.W.Frag) (G : Hp) (a : Addr) : Ob → Prop
  | .lst _ => False
  | .dct kvs => ∃ o ks, G a = some (.frz o (.dK ks)) ∧ DKV K G ks kvs
  | .dtn kvs => ∃ o ps, G a = some (.frz o (tkO a ps)) ∧ TKV K G ps kvs
theorem Cf.mono {K : PySem.W.Frag} {G G' : Hp} {a : Addr} {o : Ob} (c : Cf K G a o) (s : Sub G G') : Cf K G' a o := by
  cases o with
  | lst ds => exact c
  | dct kvs => obtain ⟨o, vs, e, q⟩ := c; exact ⟨o, vs, s _ _ e, q.mono s⟩
  | dtn kvs => obtain ⟨o, vs, e, q⟩ := c; exact ⟨o, vs, s _ _ e, q.mono s⟩
/-- a slot -/
def SlOk (K : PySem.W.Frag) (Fr G H : Hp) : Sl → Option (Option V) → Prop
  | .no, _ => True
  | .sh d, ov => ∃ v, ov = some (some v) ∧ Dp K G v d
  | .ow o, ov => ∃ a, ov = some (some (.ref a)) ∧ G a = none ∧ Fr a = none ∧ Ct K G H a o
  | .fd o, ov => ∃ a, ov = some (some (.ref a)) ∧ Cf K G a o
structure RS (K : PySem.W.Frag) (ix : List Nat) (Fr : Hp) (FX : Nat → Option V) (G : Hp) (ρ : Rho) (σ : L2.St) (H : Hp) : Prop where
  gh : ∀ a o, G a = some o → H a = some o
  fh : ∀ a o, Fr a = some o → H a = some o
  gf : ∀ a, Fr a ≠ none → G a = none
  len : ρ.length = σ.length
  sl : ∀ (i : Nat) (s : Sl), ρ[i]? = some s → SlOk K Fr G H s σ[i]?
  sep : ∀ (i j : Nat) (a : Addr) (o o' : Ob), i ≠ j → ρ[i]? = some (.ow o) → ρ[j]? = some (.ow o') → σ[i]? = some (some (.ref a)) → σ[j]? ≠ some (some (.ref a))
  fx : ∀ (i : Nat) (v : V), FX i = some v → i ∈ ix ∧ σ[i]? = some (some v)
def VOk (K : PySem.W.Frag) (Fr G H : Hp) (ρ : Rho) (σ : L2.St) : Rv → V → Prop
  | .sh d, v => Dp K G v d
  | .ow o, v => ∃ a, v = .ref a ∧ G a = none ∧ Fr a = none ∧ Ct K G H a o ∧ ∀ (i : Nat) (o' : Ob), ρ[i]? = some (.ow o') → σ[i]? ≠ some (some (.ref a))
  | .al i, v => σ[i]? = some (some v)
  | .fd o, v => ∃ a, v = .ref a ∧ Cf K G a o

section
variable {K : PySem.W.Frag} {ix : List Nat} {Fr G G' H H' : Hp} {FX : Nat → Option V} {ρ ρ' : Rho} {σ : L2.St}
theorem RS.none_of (R : RS K ix Fr FX G ρ σ H) {p : Addr} (h : H p = none) : G p = none ∧ Fr p = none := by
  constructor
  · cases e : G p with
    | none => rfl
    | some o => have := R.gh p o e; rw [h] at this; cases this
  · cases e : Fr p with
    | none => rfl
    | some o => have := R.fh p o e; rw [h] at this; cases this
theorem RS.sub (R : RS K ix Fr FX G ρ σ H) : Sub G H := sub_le R.gh
theorem SlOk.mono {s : Sl} {ov : Option (Option V)} (h : SlOk K Fr G H s ov) (su : Sub G G') (hn : ∀ (a : Addr) (o : Ob), ov = some (some (.ref a)) → s = .ow o → G a = none → Fr a = none → G' a = none ∧ H' a = H a) : SlOk K Fr G' H' s ov := by
  cases s with
  | no => trivial
  | sh d => obtain ⟨v, e, q⟩ := h; exact ⟨v, e, dp_mono su _ _ q⟩
  | fd o => obtain ⟨a, e, q⟩ := h; exact ⟨a, e, q.mono su⟩
  | ow o =>
    obtain ⟨a, e, g, f, c⟩ := h
    obtain ⟨n1, n2⟩ := hn a o e rfl g f
    exact ⟨a, e, n1, f, c.mono su n2⟩
/-- a new shared object -/
theorem RS.newG (R : RS K ix Fr FX G ρ σ H) {p : Addr} {o : HO} (h : H p = none) : RS K ix Fr FX (upd G p o) ρ σ (upd H p o) := by
  obtain ⟨hg, hf⟩ := R.none_of h
  refine ⟨fun a u e => ?_, fun a u e => ?_, fun a n => ?_, R.len, fun i s e => ?_, R.sep, R.fx⟩
  · by_cases ha : a = p
    · subst ha; rw [upd_same] at e ⊢; exact e
    · rw [upd_ne ha] at e ⊢; exact R.gh a u e
  · by_cases ha : a = p
    · subst ha; rw [hf] at e; cases e
    · rw [upd_ne ha]; exact R.fh a u e
  · by_cases ha : a = p
    · subst ha; exact absurd hf n
    · rw [upd_ne ha]; exact R.gf a n
  · refine (R.sl i s e).mono (sub_upd hg) fun a o' e1 e2 g f => ?_
    have ha : a ≠ p := fun z => by
      subst z; subst e2
      obtain ⟨b, eb, _, _, c⟩ := R.sl i _ e
      rw [e1] at eb
      cases eb
      obtain ⟨u, hu⟩ := c.some
      rw [h] at hu; cases hu
    rw [upd_ne ha, upd_ne ha]
    exact ⟨g, rfl⟩
/-- a new object that is not shared -/
theorem RS.newH (R : RS K ix Fr FX G ρ σ H) {p : Addr} {o : HO} (h : H p = none) : RS K ix Fr FX G ρ σ (upd H p o) := by
  obtain ⟨hg, hf⟩ := R.none_of h
  refine ⟨fun a u e => ?_, fun a u e => ?_, R.gf, R.len, fun i s e => ?_, R.sep, R.fx⟩
  · have ha : a ≠ p := fun z => by subst z; rw [hg] at e; cases e
    rw [upd_ne ha]; exact R.gh a u e
  · have ha : a ≠ p := fun z => by subst z; rw [hf] at e; cases e
    rw [upd_ne ha]; exact R.fh a u e
  · refine (R.sl i s e).mono (Sub.refl _) fun a o' e1 e2 g f => ?_
    have ha : a ≠ p := fun z => by
      subst z; subst e2
      obtain ⟨b, eb, _, _, c⟩ := R.sl i _ e
      rw [e1] at eb
      cases eb
      obtain ⟨u, hu⟩ := c.some
      rw [h] at hu; cases hu
    rw [upd_ne ha]
    exact ⟨g, rfl⟩
theorem RS.notIn (R : RS K ix Fr FX G ρ σ H) {p : Addr} (h : H p = none) : ∀ (i : Nat) (o : Ob), ρ[i]? = some (.ow o) → σ[i]? ≠ some (some (.ref p)) := fun i o e e1 => by
  obtain ⟨b, eb, _, _, c⟩ := R.sl i _ e
  rw [e1] at eb
  cases eb
  obtain ⟨u, hu⟩ := c.some
  rw [h] at hu; cases hu
/-- an object outside is shared from now on -/
theorem RS.share (R : RS K ix Fr FX G ρ σ H) {p : Addr} {o : HO} (h : H p = some o) (hg : G p = none) (hf : Fr p = none) (hn : ∀ (i : Nat) (o' : Ob), ρ[i]? = some (.ow o') → σ[i]? ≠ some (some (.ref p))) : RS K ix Fr FX (upd G p o) ρ σ H := by
  refine ⟨fun a u e => ?_, R.fh, fun a n => ?_, R.len, fun i s e => ?_, R.sep, R.fx⟩
  · by_cases ha : a = p
    · subst ha; rw [upd_same] at e; rw [h]; exact e
    · rw [upd_ne ha] at e; exact R.gh a u e
  · by_cases ha : a = p
    · subst ha; exact absurd hf n
    · rw [upd_ne ha]; exact R.gf a n
  · refine (R.sl i s e).mono (sub_upd hg) fun a o' e1 e2 g f => ?_
    have ha : a ≠ p := fun z => by
      subst z; subst e2
      exact hn i _ e e1
    rw [upd_ne ha]
    exact ⟨g, rfl⟩
/-- a slot is stored -/
theorem RS.set (R : RS K ix Fr FX G ρ σ H) {i : Nat} {s : Sl} {v : V} (hi : i ∉ ix) (hs : SlOk K Fr G H s (some (some v))) (hn : ∀ (o : Ob) (a : Addr), s = .ow o → v = .ref a → ∀ (j : Nat) (o' : Ob), ρ[j]? = some (.ow o') → σ[j]? ≠ some (some (.ref a))) :
    RS K ix Fr FX G (ρ.set i s) (σ.set i (some v)) H := by
  refine ⟨R.gh, R.fh, R.gf, by simp [R.len], fun j t e => ?_, fun j k a o o' ne e1 e2 e3 e4 => ?_, fun j w e => ?_⟩
  · by_cases hj : i = j
    · subst hj
      have hl : i < ρ.length := by
        have := (List.getElem?_eq_some_iff.mp e).1
        simpa using this
      rw [List.getElem?_set_self hl] at e
      cases e
      rw [List.getElem?_set_self (by rw [← R.len]; exact hl)]
      exact hs
    · rw [List.getElem?_set_ne hj] at e ⊢
      exact R.sl j t e
  · by_cases hj : i = j
    · subst hj
      have hl : i < ρ.length := by
        have := (List.getElem?_eq_some_iff.mp e1).1
        simpa using this
      have hk : i ≠ k := ne
      rw [List.getElem?_set_self hl] at e1
      rw [List.getElem?_set_ne hk] at e2
      rw [List.getElem?_set_self (by rw [← R.len]; exact hl)] at e3
      rw [List.getElem?_set_ne hk] at e4
      cases e1
      cases e3
      exact hn o a rfl rfl k o' e2 e4
    · rw [List.getElem?_set_ne hj] at e1 e3
      by_cases hk : i = k
      · subst hk
        have hl : i < ρ.length := by
          have := (List.getElem?_eq_some_iff.mp e2).1
          simpa using this
        rw [List.getElem?_set_self hl] at e2
        rw [List.getElem?_set_self (by rw [← R.len]; exact hl)] at e4
        cases e2
        cases e4
        exact hn o' a rfl rfl j o e1 e3
      · rw [List.getElem?_set_ne hk] at e2 e4
        exact R.sep j k a o o' ne e1 e2 e3 e4
  · obtain ⟨h1, h2⟩ := R.fx j w e
    have hj : i ≠ j := fun z => by subst z; exact hi h1
    exact ⟨h1, by rw [List.getElem?_set_ne hj]; exact h2⟩
/-- a slot's view is weakened: the same value, no longer owned -/
theorem RS.weak (R : RS K ix Fr FX G ρ σ H) {i : Nat} {s : Sl} (hs : SlOk K Fr G H s σ[i]?) (hn : ∀ o : Ob, s ≠ .ow o) : RS K ix Fr FX G (ρ.set i s) σ H := by
  refine ⟨R.gh, R.fh, R.gf, by simp [R.len], fun j t e => ?_, fun j k a o o' ne e1 e2 e3 e4 => ?_, R.fx⟩
  · by_cases hj : i = j
    · subst hj
      have hl : i < ρ.length := by
        have := (List.getElem?_eq_some_iff.mp e).1
        simpa using this
      rw [List.getElem?_set_self hl] at e
      cases e
      exact hs
    · rw [List.getElem?_set_ne hj] at e
      exact R.sl j t e
  · have un : ∀ {j : Nat} {o : Ob}, (ρ.set i s)[j]? = some (.ow o) → ρ[j]? = some (.ow o) := fun {j o} e => by
      by_cases hj : i = j
      · subst hj
        have hl : i < ρ.length := by
          have := (List.getElem?_eq_some_iff.mp e).1
          simpa using this
        rw [List.getElem?_set_self hl] at e
        exact absurd (Option.some.inj e) (hn o)
      · rw [List.getElem?_set_ne hj] at e
        exact e
    exact R.sep j k a o o' ne (un e1) (un e2) e3 e4
/-- the owned object of a slot changes -/
theorem RS.mut (R : RS K ix Fr FX G ρ σ H) {i : Nat} {o o' : Ob} {a : Addr} {u : HO} (h : ρ[i]? = some (.ow o)) (ha : σ[i]? = some (some (.ref a))) (hc : Ct K G (upd H a u) a o') :
    RS K ix Fr FX G (ρ.set i (.ow o')) σ (upd H a u) := by
  obtain ⟨b, eb, g, f, c⟩ := R.sl i _ h
  rw [ha] at eb
  cases eb
  have hl : i < ρ.length := (List.getElem?_eq_some_iff.mp h).1
  refine ⟨fun b x e => ?_, fun b x e => ?_, R.gf, by simp [R.len], fun j t e => ?_, fun j k b x x' ne e1 e2 e3 e4 => ?_, R.fx⟩
  · have hb : b ≠ a := fun z => by subst z; rw [g] at e; cases e
    rw [upd_ne hb]; exact R.gh b x e
  · have hb : b ≠ a := fun z => by subst z; rw [f] at e; cases e
    rw [upd_ne hb]; exact R.fh b x e
  · by_cases hj : i = j
    · subst hj
      rw [List.getElem?_set_self hl] at e
      cases e
      exact ⟨a, ha, g, f, hc⟩
    · rw [List.getElem?_set_ne hj] at e
      refine (R.sl j t e).mono (Sub.refl _) fun b x e1 e2 g' f' => ⟨g', ?_⟩
      subst e2
      exact upd_ne fun z => by
        subst z
        exact R.sep i j b o x hj h e ha e1
  · have un : ∀ {j : Nat} {x : Ob}, (ρ.set i (.ow o'))[j]? = some (.ow x) → ∃ y, ρ[j]? = some (.ow y) := fun {j x} e => by
      by_cases hj : i = j
      · subst hj; exact ⟨o, h⟩
      · rw [List.getElem?_set_ne hj] at e; exact ⟨x, e⟩
    obtain ⟨y, e1'⟩ := un e1
    obtain ⟨y', e2'⟩ := un e2
    exact R.sep j k b y y' ne e1' e2' e3 e4
end
end DL

set_option Elab.async false
set_option linter.all false
set_option autoImplicit false
set_option maxRecDepth 100000
namespace DL
open PySem PySem.Spec PyProof.Rows L2

inductive Rz where
  | sh (d : Dv) | ow (o : Ob)
def Rz.rv : Rz → Rv
  | .sh d => .sh d
  | .ow o => .ow o
abbrev MA := Rho → Option (List Rv × Rho)
abbrev ML := Rho → Option (List Dv × Rho)
def obD : Ob → Dv
  | .lst ds => .list ds
  | .dct kvs => .dict kvs
  | .dtn kvs => .dict ((.none, .none) :: kvs)
/-- the data that a value stands for -/
def dat (ρ : Rho) : Rv → Option Dv
  | .sh d => some d
  | .ow o => some (obD o)
  | .fd o => some (obD o)
  | .al i => match ρ[i]? with
    | some (.ow o) => some (obD o)
    | _ => none

def VOks (K : PySem.W.Frag) (Fr G H : Hp) (ρ : Rho) (σ : L2.St) : List Rv → List V → Prop
  | [], [] => True
  | r :: rs, v :: vs => VOk K Fr G H ρ σ r v ∧ (∀ (o : Ob) (a : Addr), r = .ow o → v = .ref a → ∀ (j : Nat) (o' : Ob), rs[j]? = some (.ow o') → vs[j]? ≠ some (.ref a)) ∧ VOks K Fr G H ρ σ rs vs
  | _, _ => False

/-! ### canonical readings -/
def TE' (K : PySem.W.Frag) (ix : List Nat) (f : M) : TE := fun σ H Q => ∃ Fr FX G ρ r ρ', RS K ix Fr FX G ρ σ H ∧ f ρ = some (r, ρ') ∧
  ∀ v G' H', Sub G G' → RS K ix Fr FX G' ρ' σ H' → VOk K Fr G' H' ρ' σ r v → Q v H'
def TT' (K : PySem.W.Frag) (ix : List Nat) (f : MB) : TT := fun σ H Q => ∃ Fr FX G ρ b ρ', RS K ix Fr FX G ρ σ H ∧ f ρ = some (b, ρ') ∧
  ∀ G' H', Sub G G' → RS K ix Fr FX G' ρ' σ H' → Q b H'
def TA' (K : PySem.W.Frag) (ix : List Nat) (f : MA) : TA := fun σ H Q => ∃ Fr FX G ρ rs ρ', RS K ix Fr FX G ρ σ H ∧ f ρ = some (rs, ρ') ∧
  ∀ vs G' H', Sub G G' → RS K ix Fr FX G' ρ' σ H' → VOks K Fr G' H' ρ' σ rs vs → Q vs H'
def FlP (K : PySem.W.Frag) (ix : List Nat) (Fr : Hp) (FX : Nat → Option V) (G : Hp) (fl : Fl) (D : Ends) : Prop := match fl with
  | .nx ρ' => ∀ G' σ' H', Sub G G' → RS K ix Fr FX G' ρ' σ' H' → D.nx σ' H'
  | .bk ρ' => ∀ G' σ' H', Sub G G' → RS K ix Fr FX G' ρ' σ' H' → D.bk σ' H'
  | .ct ρ' => ∀ G' σ' H', Sub G G' → RS K ix Fr FX G' ρ' σ' H' → D.ct σ' H'
  | .rt r ρ' => ∀ G' σ' H' v, Sub G G' → RS K ix Fr FX G' ρ' σ' H' → VOk K Fr G' H' ρ' σ' r v → D.rt v H'
theorem FlP.mono {K : PySem.W.Frag} {ix : List Nat} {Fr : Hp} {FX : Nat → Option V} {G G1 : Hp} {fl : Fl} {D : Ends} (h : FlP K ix Fr FX G fl D) (s : Sub G G1) : FlP K ix Fr FX G1 fl D := by
  cases fl with
  | nx ρ => exact fun G' σ' H' s' => h G' σ' H' (s.trans s')
  | bk ρ => exact fun G' σ' H' s' => h G' σ' H' (s.trans s')
  | ct ρ => exact fun G' σ' H' s' => h G' σ' H' (s.trans s')
  | rt r ρ => exact fun G' σ' H' v s' => h G' σ' H' v (s.trans s')
def TS' (K : PySem.W.Frag) (ix : List Nat) (g : MS) : TS := fun D σ H => ∃ Fr FX G ρ fl, RS K ix Fr FX G ρ σ H ∧ g ρ = some fl ∧ FlP K ix Fr FX G fl D
/-- a target takes a shared value; its slots are among tis -/
def TG' (K : PySem.W.Frag) (ix tis : List Nat) (t : Dv → Rho → Option Rho) : TG := fun v σ H Q => ∃ Fr FX G ρ d ρ', RS K ix Fr FX G ρ σ H ∧ Dp K G v d ∧ t d ρ = some ρ' ∧
  ∀ G' σ' H', Sub G G' → (σ'.length = σ.length ∧ ∀ j, j ∉ tis → σ'[j]? = σ[j]?) → RS K ix Fr FX G' ρ' σ' H' → Q σ' H'
/-- an iterator gives just these items -/
def Jok (K : PySem.W.Frag) (G : Hp) (J : It) (ds : List Dv) : Prop := ∀ (i : Nat) (G1 H1 : Hp), Sub G G1 → (∀ a o, G1 a = some o → H1 a = some o) →
  (∀ d, ds[i]? = some d → J.go i H1 ∧ ∀ x H2, J.yld i H1 x H2 → (H2 = H1 ∧ Dp K G1 x d) ∨ ∃ p o, H1 p = none ∧ H2 = upd H1 p o ∧ Dp K (upd G1 p o) x d) ∧ (ds.length ≤ i → J.stop i H1)
def TI' (K : PySem.W.Frag) (ix : List Nat) (f : ML) : TI := fun σ H R => ∃ Fr FX G ρ ds ρ', RS K ix Fr FX G ρ σ H ∧ f ρ = some (ds, ρ') ∧
  ∀ J G' H', Sub G G' → RS K ix Fr FX G' ρ' σ H' → Jok K G' J ds → R J H'

/-! ### weakening -/
section
variable {X : Cx}
theorem pe_imp {e : Expr} {t t' : TE} (h : PE X e t) (k : ∀ σ H Q, t' σ H Q → t σ H Q) : PE X e t' := ⟨fun pins s σ H Q I q => h.run pins s σ H Q I (k _ _ _ q)⟩
theorem pt_imp {e : Expr} {t t' : TT} (h : PT X e t) (k : ∀ σ H Q, t' σ H Q → t σ H Q) : PT X e t' := ⟨fun pins s σ H Q I q => h.run pins s σ H Q I (k _ _ _ q)⟩
theorem pw_imp {e : Expr} {t t' : TT} (h : PW X e t) (k : ∀ σ H Q, t' σ H Q → t σ H Q) : PW X e t' := ⟨fun wh pins s σ H Q I q => h.run wh pins s σ H Q I (k _ _ _ q)⟩
theorem pts_imp {e : List Expr} {t t' : TT} (h : PTs X e t) (k : ∀ σ H Q, t' σ H Q → t σ H Q) : PTs X e t' := ⟨fun pins s σ H Q I q => h.run pins s σ H Q I (k _ _ _ q)⟩
theorem pa_imp {e : List Expr} {t t' : TA} (h : PA X e t) (k : ∀ σ H Q, t' σ H Q → t σ H Q) : PA X e t' := ⟨fun pos pins s σ H Q I q => h.run pos pins s σ H Q I (k _ _ _ q)⟩
theorem ps_imp {e : Stmt} {t t' : TS} (h : PS X e t) (k : ∀ D σ H, t' D σ H → t D σ H) : PS X e t' := ⟨fun pins s σ H D I q => h.run pins s σ H D I (k _ _ _ q)⟩
theorem pss_imp {e : List Stmt} {t t' : TS} (h : PSs X e t) (k : ∀ D σ H, t' D σ H → t D σ H) : PSs X e t' := ⟨fun pins s σ H D I q => h.run pins s σ H D I (k _ _ _ q)⟩
theorem pg_imp {e : Expr} {t t' : TG} (h : PG X e t) (k : ∀ v σ H Q, t' v σ H Q → t v σ H Q) : PG X e t' := ⟨fun pins s σ H v u Q I r q => h.run pins s σ H v u Q I r (k _ _ _ _ q)⟩
theorem pi_imp {tg e : Expr} {t t' : TI} (h : PI X tg e t) (k : ∀ σ H Q, t' σ H Q → t σ H Q) : PI X tg e t' := ⟨fun pins s σ H Q I q => h.run pins s σ H Q I (k _ _ _ q)⟩
theorem op_imp {f : Value → Value → Sem Value} {r r' : R2} (h : OpR X f r) (k : ∀ x y H Q, r' x y H Q → r x y H Q) : OpR X f r' := fun pins s σ H x y v u Q I rx ry q => h pins s σ H x y v u Q I rx ry (k _ _ _ _ q)
end

/-! ### views -/
def VD (K : PySem.W.Frag) (G H : Hp) : Dv → V → Prop
  | .list ds, v => ∃ a vs, v = .ref a ∧ SqL K H a vs ∧ DpAll K G vs ds
  | .dict kvs, v => (∃ a ks, v = .ref a ∧ Rd H a (.dK ks) ∧ DKV K G ks kvs) ∨ ∃ a ps kvs', v = .ref a ∧ Rd H a (tkO a ps) ∧ TKV K G ps kvs' ∧ kvs = (.none, .none) :: kvs'
  | d, v => Dp K G v d
section
variable {K : PySem.W.Frag} {ix : List Nat} {Fr G G' H H' : Hp} {FX : Nat → Option V} {ρ ρ' : Rho} {σ : L2.St}
theorem ct_vd {a : Addr} {o : Ob} (c : Ct K G H a o) : VD K G H (obD o) (.ref a) := by
  cases o with
  | lst ds => obtain ⟨vs, e, q⟩ := c; exact ⟨a, vs, rfl, .inl (.inl e), q⟩
  | dct kvs => obtain ⟨ks, e, q⟩ := c; exact .inl ⟨a, ks, rfl, .inl e, q⟩
  | dtn kvs => obtain ⟨ks, e, q⟩ := c; exact .inr ⟨a, ks, kvs, rfl, .inl e, q, rfl⟩
theorem cf_vd (gh : ∀ a o, G a = some o → H a = some o) {a : Addr} {o : Ob} (c : Cf K G a o) : VD K G H (obD o) (.ref a) := by
  cases o with
  | lst ds => exact False.elim c
  | dct kvs => obtain ⟨o, ks, e, q⟩ := c; exact .inl ⟨a, ks, rfl, .inr ⟨o, gh _ _ e⟩, q⟩
  | dtn kvs => obtain ⟨o, ks, e, q⟩ := c; exact .inr ⟨a, ks, kvs, rfl, .inr ⟨o, gh _ _ e⟩, q, rfl⟩
theorem dp_vd {d : Dv} {v : V} (gh : ∀ a o, G a = some o → H a = some o) (h : Dp K G v d) : VD K G H d v := by
  cases d with
  | list ds => cases h with | lst hs ha => exact ⟨_, _, rfl, (sub_le gh).sqL hs, ha⟩
  | dict kvs => cases h
  | none => exact h
  | bool b => exact h
  | int i => exact h
  | str x => exact h
  | tuple ds => exact h
theorem dat_vd (R : RS K ix Fr FX G ρ σ H) {r : Rv} {v : V} {d : Dv} (h : VOk K Fr G H ρ σ r v) (e : dat ρ r = some d) : VD K G H d v := by
  cases r with
  | sh d' => cases e; exact dp_vd R.gh h
  | ow o =>
    cases e
    obtain ⟨a, rfl, _, _, c, _⟩ := h
    exact ct_vd c
  | fd o =>
    cases e
    obtain ⟨a, rfl, c⟩ := h
    exact cf_vd R.gh c
  | al i =>
    unfold dat at e
    simp only at e
    split at e
    · rename_i o ho
      cases e
      obtain ⟨a, ea, _, _, c⟩ := R.sl i _ ho
      have h' : σ[i]? = some (some v) := h
      rw [ea] at h'
      cases h'
      exact ct_vd c
    · cases e
/-- not one with tuple keys -/
def plD : List (Dv × Dv) → Bool
  | (.none, _) :: _ => false
  | _ => true
theorem vd_dk {kvs : List (Dv × Dv)} {v : V} (h : VD K G H (.dict kvs) v) (hp : plD kvs = true) : ∃ a ks, v = .ref a ∧ Rd H a (.dK ks) ∧ DKV K G ks kvs := by
  rcases h with h | ⟨a, ps, kvs', _, _, _, e⟩
  · exact h
  · subst e
    cases hp
theorem vd_dp {d : Dv} {v : V} (gh : ∀ a o, G a = some o → H a = some o) (h : VD K G H d v) (nd : ∀ kvs, d ≠ .dict kvs) : Dp K H v d := by
  cases d with
  | list ds => obtain ⟨a, vs, rfl, hs, ha⟩ := h; exact .lst hs (dpAll_mono (sub_le gh) _ _ ha)
  | dict kvs => exact absurd rfl (nd kvs)
  | none => exact dp_mono (sub_le gh) _ _ h
  | bool b => exact dp_mono (sub_le gh) _ _ h
  | int i => exact dp_mono (sub_le gh) _ _ h
  | str x => exact dp_mono (sub_le gh) _ _ h
  | tuple ds => exact dp_mono (sub_le gh) _ _ h

/-! ### results of one step -/
inductive Ext (G H : Hp) : Hp → Hp → Prop
  | same : Ext G H G H
  | shr (p : Addr) (o : HO) : H p = none → Ext G H (upd G p o) (upd H p o)
def Res (K : PySem.W.Frag) (G H : Hp) (Q : VK) : Rz → Prop
  | .sh d => ∀ v G' H', Ext G H G' H' → Dp K G' v d → Q v H'
  | .ow o => ∀ p u, H p = none → Ct K G (upd H p u) p o → Q (.ref p) (upd H p u)
theorem res_ok (R : RS K ix Fr FX G ρ σ H) {r : Rz} {Q : VK} (k : ∀ v G' H', Sub G G' → RS K ix Fr FX G' ρ σ H' → VOk K Fr G' H' ρ σ r.rv v → Q v H') : Res K G H Q r := by
  cases r with
  | sh d =>
    intro v G' H' x h
    cases x with
    | same => exact k v G H (Sub.refl _) R h
    | shr p o hp => exact k v _ _ (sub_upd (R.none_of hp).1) (R.newG hp) h
  | ow o =>
    intro p u hp c
    exact k _ G _ (Sub.refl _) (R.newH hp) ⟨p, rfl, (R.none_of hp).1, (R.none_of hp).2, c, R.notIn hp⟩
theorem res_int {Q : VK} {i : Int} (h : Res K G H Q (.sh (.int i))) : Q (.int i) H := h _ _ _ .same (.int i)
theorem res_bl {Q : VK} {i : Bool} (h : Res K G H Q (.sh (.bool i))) : Q (.bl i) H := h _ _ _ .same (.bl i)
theorem res_str {Q : VK} {i : Str} (h : Res K G H Q (.sh (.str i))) : Q (.str i) H := h _ _ _ .same (.str i)
theorem res_non {Q : VK} (h : Res K G H Q (.sh .none)) : Q .non H := h _ _ _ .same .non
theorem res_val {Q : VK} {d : Dv} {v : V} (h : Res K G H Q (.sh d)) (q : Dp K G v d) : Q v H := h _ _ _ .same q
theorem res_tup {Q : VK} {ds : List Dv} {vs : List V} {p : Addr} (h : Res K G H Q (.sh (.tuple ds))) (g : G p = none) (hp : H p = none) (q : DpAll K G vs ds) : Q (.ref p) (upd H p (.tup vs)) :=
  h _ _ _ (.shr p _ hp) (.tup (.inl (.inl upd_same)) (dpAll_mono (sub_upd g) _ _ q))
theorem res_lst {Q : VK} {ds : List Dv} {vs : List V} {p : Addr} (h : Res K G H Q (.ow (.lst ds))) (hp : H p = none) (q : DpAll K G vs ds) : Q (.ref p) (upd H p (.lst vs)) :=
  h p _ hp ⟨vs, upd_same, q⟩
theorem g_none (gh : ∀ a o, G a = some o → H a = some o) {p : Addr} (h : H p = none) : G p = none := by
  cases e : G p with
  | none => rfl
  | some o => have := gh p o e; rw [h] at this; cases this
end

/-! ### values of one, two, several operands, by data -/
/-- a two-place rule by data -/
def R2d (K : PySem.W.Frag) (g : Dv → Dv → Option Rz) : R2 := fun x y H Q => ∃ G d e r, (∀ a o, G a = some o → H a = some o) ∧ VD K G H d x ∧ VD K G H e y ∧ g d e = some r ∧ Res K G H Q r
def OpD (X : Cx) (f : Value → Value → Sem Value) (g : Dv → Dv → Option Rz) : Prop := OpR X f (R2d X.K g)
inductive VDs (K : PySem.W.Frag) (G H : Hp) : List Dv → List V → Prop
  | nil : VDs K G H [] []
  | cons {d : Dv} {v : V} {ds : List Dv} {vs : List V} : VD K G H d v → VDs K G H ds vs → VDs K G H (d :: ds) (v :: vs)
def RCd (K : PySem.W.Frag) (g : List Dv → Option Rz) : List V → Hp → VK → Prop := fun xs H Q => ∃ G ds r, (∀ a o, G a = some o → H a = some o) ∧ VDs K G H ds xs ∧ g ds = some r ∧ Res K G H Q r
def CallD (X : Cx) (f : Value) (g : List Dv → Option Rz) : Prop := CallR X f (RCd X.K g)
def IxD (X : Cx) (g : Dv → Dv → Option Rz) : Prop := IxR X (R2d X.K g)

/-! ### expressions -/
def eVar (i : Nat) : M := fun ρ => match ρ[i]? with
  | some (.sh d) => some (.sh d, ρ)
  | some (.ow _) => some (.al i, ρ)
  | some (.fd o) => some (.fd o, ρ)
  | _ => none
def eC (d : Dv) : M := fun ρ => some (.sh d, ρ)
/-- a new list that nobody holds is shared -/
def pkM (f : M) : M := fun ρ => (f ρ).bind fun x => match x.1 with
  | .ow (.lst ds) => some (.sh (.list ds), x.2)
  | _ => some x
/-- whatever it is, it is shared -/
def frM (f : M) : M := fun ρ => (f ρ).bind fun x => match x.1 with
  | .sh d => some (.sh d, x.2)
  | .ow (.lst ds) => some (.sh (.list ds), x.2)
  | .ow _ => none
  | .al i => match x.2[i]? with
    | some (.ow (.lst ds)) => some (.sh (.list ds), x.2.set i (.sh (.list ds)))
    | _ => none
  | .fd _ => none
def binS (g : Dv → Dv → Option Rz) (fa fb : M) : M := fun ρ => (pkM fa ρ).bind fun x => (pkM fb x.2).bind fun y =>
  (dat y.2 x.1).bind fun d => (dat y.2 y.1).bind fun e => (g d e).bind fun r => some (r.rv, y.2)
def unS (g : Dv → Option Rz) (fa : M) : M := fun ρ => (fa ρ).bind fun x => (dat x.2 x.1).bind fun d => (g d).bind fun r => some (r.rv, x.2)
section
variable {X : Cx} {ix : List Nat} {e a b c : Expr} {f fa fb fc : M} {pos : Pos}
theorem de_var (i : Nat) {x : Str} (hN : X.N[i]? = some x := by rfl) (hv : Vis X.env.scope x := by first | exact Or.inl rfl | exact Or.inr (Or.inl rfl) | exact Or.inr (Or.inr rfl)) (hd : (x == ("__debug__" : Str)) = false := by decide)
    (hcd : (x == ("__classdict__" : Str)) = false := by decide) : PE X (.Name x pos) (TE' X.K ix (eVar i)) := by
  refine pe_imp (pe_var hN hv hd hcd) fun σ H Q ⟨Fr, FX, G, ρ, r, ρ', R, hf, k⟩ => ?_
  unfold eVar at hf
  split at hf
  · rename_i d hd'
    cases hf
    obtain ⟨v, ev, q⟩ := R.sl i _ hd'
    exact ⟨v, ev, k v G H (Sub.refl _) R q⟩
  · rename_i o ho
    cases hf
    obtain ⟨a, ev, _⟩ := R.sl i _ ho
    exact ⟨_, ev, k _ G H (Sub.refl _) R ev⟩
  · rename_i o ho
    cases hf
    obtain ⟨a, ev, c⟩ := R.sl i _ ho
    exact ⟨_, ev, k _ G H (Sub.refl _) R ⟨a, rfl, c⟩⟩
  · cases hf
theorem de_c {v : V} {d : Dv} (h : PE X e (tC v)) (q : ∀ G, Dp X.K G v d) : PE X e (TE' X.K ix (eC d)) :=
  pe_imp h fun σ H Q ⟨Fr, FX, G, ρ, r, ρ', R, hf, k⟩ => by
    unfold eC at hf
    cases hf
    exact k v G H (Sub.refl _) R (q G)
theorem de_int {i : Int} {j} : PE X (.Constant (.int i) j pos) (TE' X.K ix (eC (.int i))) := de_c pe_int fun _ => .int i
theorem de_bl {i : Bool} {j} : PE X (.Constant (.bool i) j pos) (TE' X.K ix (eC (.bool i))) := de_c pe_bl fun _ => .bl i
theorem de_non {j} : PE X (.Constant .none j pos) (TE' X.K ix (eC .none)) := de_c pe_non fun _ => .non
theorem de_str {x : Str} {j} : PE X (.Constant (.str x) j pos) (TE' X.K ix (eC (.str x))) := de_c pe_str fun _ => .str x
theorem vok_share {Fr G H : Hp} {FX : Nat → Option V} {ρ : Rho} {σ : L2.St} {K : PySem.W.Frag} {ds : List Dv} {v : V} (R : RS K ix Fr FX G ρ σ H) (h : VOk K Fr G H ρ σ (.ow (.lst ds)) v) :
    ∃ G', Sub G G' ∧ RS K ix Fr FX G' ρ σ H ∧ Dp K G' v (.list ds) := by
  obtain ⟨a, rfl, g, fr, ⟨vs, hv, q⟩, hn⟩ := h
  exact ⟨upd G a (.lst vs), sub_upd g, R.share hv g fr hn, .lst (.inl (.inl upd_same)) (dpAll_mono (sub_upd g) _ _ q)⟩
theorem pk_ok {σ : L2.St} {H : Hp} {Q : VK} (h : TE' X.K ix (pkM f) σ H Q) : TE' X.K ix f σ H Q := by
  obtain ⟨Fr, FX, G, ρ, r, ρ', R, hf, k⟩ := h
  unfold pkM at hf
  obtain ⟨⟨r0, ρ0⟩, h0, hf⟩ := Option.bind_eq_some_iff.mp hf
  refine ⟨Fr, FX, G, ρ, r0, ρ0, R, h0, fun v G' H' s R' q => ?_⟩
  simp only at hf
  split at hf
  · cases hf
    obtain ⟨G2, s2, R2, q2⟩ := vok_share R' q
    exact k v G2 H' (s.trans s2) R2 q2
  · cases hf
    exact k v G' H' s R' q
theorem de_pk (h : PE X e (TE' X.K ix f)) : PE X e (TE' X.K ix (pkM f)) := pe_imp h fun _ _ _ => pk_ok
theorem fr_ok {σ : L2.St} {H : Hp} {Q : VK} (h : TE' X.K ix (frM f) σ H Q) : TE' X.K ix f σ H Q := by
  obtain ⟨Fr, FX, G, ρ, r, ρ', R, hf, k⟩ := h
  unfold frM at hf
  obtain ⟨⟨r0, ρ0⟩, h0, hf⟩ := Option.bind_eq_some_iff.mp hf
  refine ⟨Fr, FX, G, ρ, r0, ρ0, R, h0, fun v G' H' s R' q => ?_⟩
  simp only at hf
  split at hf
  · cases hf
    exact k v G' H' s R' q
  · cases hf
    obtain ⟨G2, s2, R2, q2⟩ := vok_share R' q
    exact k v G2 H' (s.trans s2) R2 q2
  · cases hf
  · rename_i i
    split at hf
    · rename_i ds hi
      cases hf
      obtain ⟨a, ev, g, fr, ⟨vs, hv, qv⟩⟩ := R'.sl i _ hi
      have e' : σ[i]? = some (some v) := q
      rw [ev] at e'
      cases e'
      have hx : Dp X.K (upd G' a (.lst vs)) (.ref a) (.list ds) := .lst (.inl (.inl upd_same)) (dpAll_mono (sub_upd g) _ _ qv)
      have hl : i < ρ0.length := (List.getElem?_eq_some_iff.mp hi).1
      have W : RS X.K ix Fr FX G' (ρ0.set i .no) σ H' := R'.weak (i := i) (s := .no) trivial (fun o z => nomatch z)
      have S := W.share hv g fr fun j o' e1 e2 => by
        by_cases hj : i = j
        · subst hj
          rw [List.getElem?_set_self hl] at e1
          cases e1
        · rw [List.getElem?_set_ne hj] at e1
          exact R'.sep i j a _ o' hj hi e1 ev e2
      have S2 := S.weak (i := i) (s := .sh (.list ds)) ⟨_, ev, hx⟩ (fun o z => nomatch z)
      rw [List.set_set] at S2
      exact k _ _ H' (s.trans (sub_upd g)) S2 hx
    · cases hf
  · cases hf
theorem de_fr (h : PE X e (TE' X.K ix f)) : PE X e (TE' X.K ix (frM f)) := pe_imp h fun _ _ _ => fr_ok
theorem pk_noow {ρ ρ' : Rho} {r : Rv} (h : pkM f ρ = some (r, ρ')) : ∀ ds, r ≠ .ow (.lst ds) := fun ds e => by
  subst e
  unfold pkM at h
  obtain ⟨⟨r0, ρ0⟩, h0, hf⟩ := Option.bind_eq_some_iff.mp h
  simp only at hf
  split at hf
  · cases hf
  · rename_i hn
    cases hf
    exact hn ds rfl
/-- an operand's view stands while a later one is evaluated -/
theorem vok_keep {K : PySem.W.Frag} {Fr G H G' H' : Hp} {FX : Nat → Option V} {ρ ρ' : Rho} {σ : L2.St} {r : Rv} {v : V} (h : VOk K Fr G H ρ σ r v) (s : Sub G G') (n : ∀ o, r ≠ .ow o) : VOk K Fr G' H' ρ' σ r v := by
  cases r with
  | sh d => exact dp_mono s _ _ h
  | fd o => obtain ⟨a, e, c⟩ := h; exact ⟨a, e, c.mono s⟩
  | al i => exact h
  | ow o => exact absurd rfl (n o)
/-- .. if need be, framed -/
theorem RS.frame {K : PySem.W.Frag} {Fr G H : Hp} {FX : Nat → Option V} {ρ : Rho} {σ : L2.St} {p : Addr} {u : HO} (R : RS K ix Fr FX G ρ σ H) (g : G p = none) (hu : H p = some u) (hn : ∀ (i : Nat) (o' : Ob), ρ[i]? = some (.ow o') → σ[i]? ≠ some (some (.ref p))) :
    RS K ix (upd Fr p u) FX G ρ σ H := by
  refine ⟨R.gh, fun a o e => ?_, fun a n => ?_, R.len, fun i s e => ?_, R.sep, R.fx⟩
  · by_cases ha : a = p
    · subst ha; rw [upd_same] at e; rw [hu]; exact e
    · rw [upd_ne ha] at e; exact R.fh a o e
  · by_cases ha : a = p
    · subst ha; exact g
    · rw [upd_ne ha] at n; exact R.gf a n
  · have h := R.sl i s e
    cases s with
    | no => trivial
    | sh d => exact h
    | fd o => exact h
    | ow o =>
      obtain ⟨a, e1, g1, f1, c1⟩ := h
      have ha : a ≠ p := fun z => by subst z; exact hn i o e e1
      exact ⟨a, e1, g1, by rw [upd_ne ha]; exact f1, c1⟩
theorem RS.unframe {K : PySem.W.Frag} {Fr G H : Hp} {FX : Nat → Option V} {ρ : Rho} {σ : L2.St} {p : Addr} {u : HO} (R : RS K ix (upd Fr p u) FX G ρ σ H) (f0 : Fr p = none) : RS K ix Fr FX G ρ σ H := by
  have le : ∀ a o, Fr a = some o → (upd Fr p u) a = some o := fun a o e => by
    have ha : a ≠ p := fun z => by subst z; rw [f0] at e; cases e
    rw [upd_ne ha]; exact e
  refine ⟨R.gh, fun a o e => R.fh a o (le a o e), fun a n => ?_, R.len, fun i s e => ?_, R.sep, R.fx⟩
  · refine R.gf a fun z => ?_
    cases e : Fr a with
    | none => exact n e
    | some o => rw [le a o e] at z; cases z
  · have h := R.sl i s e
    cases s with
    | no => trivial
    | sh d => exact h
    | fd o => exact h
    | ow o =>
      obtain ⟨a, e1, g1, f1, c1⟩ := h
      refine ⟨a, e1, g1, ?_, c1⟩
      cases e : Fr a with
      | none => rfl
      | some o => rw [le a o e] at f1; cases f1
/-- one operand, then another: an owned new object waits in the frame -/
theorem hold2 {tb : TE} {σ : L2.St} {H : Hp} {K : PySem.W.Frag} {Fr G : Hp} {FX : Nat → Option V} {ρ ρ1 : Rho} {r s : Rv} {x : V} {R : V → Hp → Prop}
    (R1 : RS K ix Fr FX G ρ σ H) (v1 : VOk K Fr G H ρ σ r x) (hb : fb ρ = some (s, ρ1))
    (k : ∀ y G2 H2, Sub G G2 → RS K ix Fr FX G2 ρ1 σ H2 → VOk K Fr G2 H2 ρ1 σ r x → VOk K Fr G2 H2 ρ1 σ s y → (∀ o o' a, r = .ow o → x = .ref a → s = .ow o' → y ≠ .ref a) → R y H2) :
    TE' K ix fb σ H R := by
  cases r with
  | sh d => exact ⟨Fr, FX, G, ρ, s, ρ1, R1, hb, fun y G2 H2 su R2 v2 => k y G2 H2 su R2 (dp_mono su _ _ v1) v2 (fun o o' a z => nomatch z)⟩
  | al i => exact ⟨Fr, FX, G, ρ, s, ρ1, R1, hb, fun y G2 H2 su R2 v2 => k y G2 H2 su R2 v1 v2 (fun o o' a z => nomatch z)⟩
  | fd o => exact ⟨Fr, FX, G, ρ, s, ρ1, R1, hb, fun y G2 H2 su R2 v2 => k y G2 H2 su R2 (let ⟨a, e, c⟩ := v1; ⟨a, e, c.mono su⟩) v2 (fun o o' a z => nomatch z)⟩
  | ow o =>
    obtain ⟨p, rfl, g, f0, c, hn⟩ := v1
    obtain ⟨u, hu⟩ := c.some
    refine ⟨upd Fr p u, FX, G, ρ, s, ρ1, R1.frame g hu hn, hb, fun y G2 H2 su R2 v2 => ?_⟩
    have g2 : G2 p = none := R2.gf p (by rw [upd_same]; simp)
    have h2 : H2 p = H p := (R2.fh p u upd_same).trans hu.symm
    refine k y G2 H2 su (R2.unframe f0) ⟨p, rfl, g2, f0, c.mono su h2, fun i o' e e1 => ?_⟩ ?_ ?_
    · obtain ⟨a, e2, _, f2, _⟩ := R2.sl i _ e
      rw [e1] at e2
      cases e2
      rw [upd_same] at f2
      cases f2
    · cases s with
      | sh d => exact v2
      | fd d => exact v2
      | al i => exact v2
      | ow o' =>
        obtain ⟨q, rfl, g', f', c', hn'⟩ := v2
        have hq : q ≠ p := fun z => by subst z; rw [upd_same] at f'; cases f'
        rw [upd_ne hq] at f'
        exact ⟨q, rfl, g', f', c', hn'⟩
    · intro o1 o2 a e1 e2 e3 e4
      cases e2
      subst e3
      obtain ⟨q, e5, g', f', _⟩ := v2
      rw [e4] at e5
      cases e5
      rw [upd_same] at f'
      cases f'
theorem bin_ok {tr : R2} {g : Dv → Dv → Option Rz} {σ : L2.St} {H : Hp} {Q : VK} (h : TE' X.K ix (binS g fa fb) σ H Q) (k : ∀ x y H2, R2d X.K g x y H2 Q → tr x y H2 Q) :
    tOp tr (TE' X.K ix (pkM fa)) (TE' X.K ix (pkM fb)) σ H Q := by
  obtain ⟨Fr, FX, G, ρ, r, ρ', R, hf, kk⟩ := h
  unfold binS at hf
  obtain ⟨⟨r1, ρ1⟩, h1, hf⟩ := Option.bind_eq_some_iff.mp hf
  obtain ⟨⟨r2, ρ2⟩, h2, hf⟩ := Option.bind_eq_some_iff.mp hf
  obtain ⟨d, h3, hf⟩ := Option.bind_eq_some_iff.mp hf
  obtain ⟨e, h4, hf⟩ := Option.bind_eq_some_iff.mp hf
  obtain ⟨rr, h5, hf⟩ := Option.bind_eq_some_iff.mp hf
  cases hf
  refine ⟨Fr, FX, G, ρ, r1, ρ1, R, h1, fun x G1 H1 s1 R1 v1 => ?_⟩
  refine hold2 (tb := TE' X.K ix (pkM fb)) R1 v1 h2 fun y G2 H2 s2 R2 w1 w2 _ => ?_
  exact k x y H2 ⟨G2, d, e, rr, R2.gh, dat_vd R2 w1 h3, dat_vd R2 w2 h4, h5, res_ok R2 fun v G' H' s3 R3 v3 => kk v G' H' ((s1.trans s2).trans s3) R3 v3⟩
theorem de_bin {op : Operator} {g : Dv → Dv → Option Rz} (ho : OpD X (binaryOp op) g) (ha : PE X a (TE' X.K ix fa)) (hb : PE X b (TE' X.K ix fb)) : PE X (.BinOp a op b pos) (TE' X.K ix (binS g fa fb)) :=
  pe_imp (pe_op ho (de_pk ha) (de_pk hb)) fun σ H Q h => bin_ok h fun _ _ _ q => q
theorem de_cmp {op : CmpOp} {g : Dv → Dv → Option Rz} (ho : OpD X (compareOp op) g) (ha : PE X a (TE' X.K ix fa)) (hb : PE X b (TE' X.K ix fb)) (hm : behindInMarks op b = false := by first | exact nomark _ | rfl) : PE X (.Compare a [op] [b] pos) (TE' X.K ix (binS g fa fb)) :=
  pe_imp (pe_cmpR ho (de_pk ha) (de_pk hb) hm) fun σ H Q h => bin_ok h fun _ _ _ q => q
theorem de_ix {g : Dv → Dv → Option Rz} (hr : IxD X g) (ha : PE X a (TE' X.K ix fa)) (hb : PE X b (TE' X.K ix fb)) (hs : PlainIx b := by exact fun _ _ => rfl) : PE X (.Subscript a b pos) (TE' X.K ix (binS g fa fb)) :=
  pe_imp (pe_ix hr (de_pk ha) (de_pk hb) hs) fun σ H Q h => bin_ok h fun _ _ _ q => q
end
end DL

set_option Elab.async false
set_option linter.all false
set_option autoImplicit false
set_option maxRecDepth 100000
namespace DL
open PySem PySem.Spec PyProof.Rows L2

/-! ### operators by data -/
def addD : Dv → Dv → Option Rz
  | .int i, .int j => some (.sh (.int (i + j)))
  | .str x, .str y => if x.length + y.length ≤ sizeLine then some (.sh (.str (x ++ y))) else none
  | .tuple xs, .tuple ys => if xs.length + ys.length ≤ sizeLine then some (.sh (.tuple (xs ++ ys))) else none
  | .list xs, .list ys => if xs.length + ys.length ≤ sizeLine then some (.ow (.lst (xs ++ ys))) else none
  | _, _ => none
def subD : Dv → Dv → Option Rz
  | .int i, .int j => some (.sh (.int (i - j)))
  | _, _ => none
def mulD : Dv → Dv → Option Rz
  | .int i, .int j => if (-(18446744073709551616) < i ∧ i < 18446744073709551616) ∨ (-(18446744073709551616) < j ∧ j < 18446744073709551616) then some (.sh (.int (i * j))) else none
  | .list xs, .int k => if -(9223372036854775808) ≤ k ∧ k < 9223372036854775808 ∧ xs.length * k.toNat ≤ sizeLine then some (.ow (.lst (List.replicate k.toNat xs).flatten)) else none
  | .tuple xs, .int k => if xs ≠ [] ∧ 2 ≤ k ∧ k ≤ 1000 ∧ xs.length ≤ 1000 then some (.sh (.tuple (List.replicate k.toNat xs).flatten)) else none
  | _, _ => none
def divD : Dv → Dv → Option Rz
  | .int i, .int j => if 0 < j ∧ j < 1073741824 then some (.sh (.int (i / j))) else none
  | _, _ => none
def modD : Dv → Dv → Option Rz
  | .int i, .int j => if 0 < j then some (.sh (.int (i % j))) else none
  | _, _ => none
def powD : Dv → Dv → Option Rz
  | .int i, .int j => if 0 ≤ j ∧ j ≤ 1000000 ∧ i.natAbs < 2 ^ 64 then some (.sh (.int (i ^ j.toNat))) else none
  | _, _ => none
def shlD : Dv → Dv → Option Rz
  | .int i, .int j => if 0 ≤ j ∧ j ≤ 1000000 ∧ i.natAbs < 2 ^ 64 then some (.sh (.int (i * 2 ^ j.toNat))) else none
  | _, _ => none
def shrD : Dv → Dv → Option Rz
  | .int i, .int j => if 0 ≤ j then some (.sh (.int (i / 2 ^ j.toNat))) else none
  | _, _ => none
def bitD (g : Int → Int → Int) : Dv → Dv → Option Rz
  | .int i, .int j => some (.sh (.int (g i j)))
  | _, _ => none
def cmpD (g : Int → Int → Bool) : Dv → Dv → Option Rz
  | .int i, .int j => some (.sh (.bool (g i j)))
  | _, _ => none
def eqD : Dv → Dv → Option Bool
  | .int i, .int j => some (decide (i = j))
  | .str i, .str j => some (decide (i = j))
  | d, e => if SeqAt.shaped d = true ∧ SeqAt.shaped e = true then some (PyData.eqv d e) else none
def eqqD (d e : Dv) : Option Rz := (eqD d e).map fun b => .sh (.bool b)
def neqD (d e : Dv) : Option Rz := (eqD d e).map fun b => .sh (.bool (!b))
def isNone : Dv → Bool
  | .none => true
  | _ => false
def isND (d e : Dv) : Option Rz := if isNone e = true then some (.sh (.bool (isNone d))) else none
def notND (d e : Dv) : Option Rz := if isNone e = true then some (.sh (.bool (!isNone d))) else none
/-- x in c, c a list or a tuple -/
def inSeq (d : Dv) : Dv → Option Bool
  | .list ds => if SeqAt.shaped d = true ∧ SeqAt.shaped (.list ds) = true then some (ds.any fun z => PyData.eqv z d) else none
  | .tuple ds => if SeqAt.shaped d = true ∧ SeqAt.shaped (.tuple ds) = true then some (ds.any fun z => PyData.eqv z d) else none
  | _ => none
def inSD (d e : Dv) : Option Rz := (inSeq d e).map fun b => .sh (.bool b)
def ninSD (d e : Dv) : Option Rz := (inSeq d e).map fun b => .sh (.bool (!b))
def ixD : Dv → Dv → Option Rz
  | .list ds, .int i => (atI ds i).map .sh
  | .tuple ds, .int i => (atI ds i).map .sh
  | .str z, .int i => if z.length ≤ sizeLine then (atI z.cps.toList i).map fun c => .sh (.str ⟨#[c]⟩) else none
  | _, _ => none

section
variable {X : Cx}
theorem vd_int {K : PySem.W.Frag} {G H : Hp} {i : Int} {v : V} (h : VD K G H (.int i) v) : v = .int i := by
  have h' : Dp K G v (.int i) := h
  cases h'
  rfl
theorem vd_bool {K : PySem.W.Frag} {G H : Hp} {i : Bool} {v : V} (h : VD K G H (.bool i) v) : v = .bl i := by
  have h' : Dp K G v (.bool i) := h
  cases h'
  rfl
theorem vd_str {K : PySem.W.Frag} {G H : Hp} {i : Str} {v : V} (h : VD K G H (.str i) v) : v = .str i := by
  have h' : Dp K G v (.str i) := h
  cases h'
  rfl
theorem vd_none {K : PySem.W.Frag} {G H : Hp} {v : V} (h : VD K G H .none v) : v = .non := by
  have h' : Dp K G v .none := h
  cases h'
  rfl
theorem vd_list {K : PySem.W.Frag} {G H : Hp} {ds : List Dv} {v : V} (h : VD K G H (.list ds) v) : ∃ a vs, v = .ref a ∧ SqL K H a vs ∧ DpAll K G vs ds := h
theorem vd_tup {K : PySem.W.Frag} {G H : Hp} {ds : List Dv} {v : V} (gh : ∀ a o, G a = some o → H a = some o) (h : VD K G H (.tuple ds) v) : ∃ a vs, v = .ref a ∧ SqT K G a vs ∧ SqT K H a vs ∧ DpAll K G vs ds := by
  have h' : Dp K G v (.tuple ds) := h
  cases h' with
  | tup hs ha => exact ⟨_, _, rfl, hs, (sub_le gh).sqT hs, ha⟩
/-- ints -/
theorem opd_int {f : Value → Value → Sem Value} {r : R2} {g : Dv → Dv → Option Rz} (ho : OpR X f r) (hg : ∀ d e z, g d e = some z → ∃ i j, d = .int i ∧ e = .int j)
    (k : ∀ i j z G H Q, g (.int i) (.int j) = some z → Res X.K G H Q z → r (.int i) (.int j) H Q) : OpD X f g := by
  refine op_imp ho fun x y H Q ⟨G, d, e, z, gh, vx, vy, hz, q⟩ => ?_
  obtain ⟨i, j, rfl, rfl⟩ := hg d e z hz
  rw [vd_int vx, vd_int vy]
  exact k i j z G H Q hz q
theorem sub_d : OpD X (binaryOp .Sub) subD := opd_int op_sub (fun d e z h => by unfold subD at h; split at h <;> first | exact ⟨_, _, rfl, rfl⟩ | cases h) fun i j z G H Q hz q => by
  simp only [subD, Option.some.injEq] at hz; subst hz; exact ⟨i, j, rfl, rfl, res_int q⟩
theorem isub_d : OpD X (inplaceOp .Sub) subD := opd_int iop_sub (fun d e z h => by unfold subD at h; split at h <;> first | exact ⟨_, _, rfl, rfl⟩ | cases h) fun i j z G H Q hz q => by
  simp only [subD, Option.some.injEq] at hz; subst hz; exact ⟨i, j, rfl, rfl, res_int q⟩
theorem div_d : OpD X (binaryOp .FloorDiv) divD := opd_int op_fdiv (fun d e z h => by unfold divD at h; split at h <;> first | exact ⟨_, _, rfl, rfl⟩ | cases h) fun i j z G H Q hz q => by
  unfold divD at hz
  simp only at hz
  split at hz
  · rename_i hc; cases hz; exact ⟨i, j, rfl, rfl, hc, res_int q⟩
  · cases hz
theorem mod_d : OpD X (binaryOp .Mod) modD := opd_int op_mod (fun d e z h => by unfold modD at h; split at h <;> first | exact ⟨_, _, rfl, rfl⟩ | cases h) fun i j z G H Q hz q => by
  unfold modD at hz
  simp only at hz
  split at hz
  · rename_i hc; cases hz; exact ⟨i, j, rfl, rfl, hc, res_int q⟩
  · cases hz
theorem pow_d : OpD X (binaryOp .Pow) powD := opd_int op_pow (fun d e z h => by unfold powD at h; split at h <;> first | exact ⟨_, _, rfl, rfl⟩ | cases h) fun i j z G H Q hz q => by
  unfold powD at hz
  simp only at hz
  split at hz
  · rename_i hc; cases hz; exact ⟨i, j, rfl, rfl, hc, res_int q⟩
  · cases hz
theorem shl_d : OpD X (binaryOp .LShift) shlD := opd_int op_shl (fun d e z h => by unfold shlD at h; split at h <;> first | exact ⟨_, _, rfl, rfl⟩ | cases h) fun i j z G H Q hz q => by
  unfold shlD at hz
  simp only at hz
  split at hz
  · rename_i hc; cases hz; exact ⟨i, j, rfl, rfl, hc, res_int q⟩
  · cases hz
theorem shr_d : OpD X (binaryOp .RShift) shrD := opd_int op_shr (fun d e z h => by unfold shrD at h; split at h <;> first | exact ⟨_, _, rfl, rfl⟩ | cases h) fun i j z G H Q hz q => by
  unfold shrD at hz
  simp only at hz
  split at hz
  · rename_i hc; cases hz; exact ⟨i, j, rfl, rfl, hc, res_int q⟩
  · cases hz
theorem bitD_inv {g : Int → Int → Int} : ∀ d e z, bitD g d e = some z → ∃ i j, d = .int i ∧ e = .int j := fun d e z h => by unfold bitD at h; split at h <;> first | exact ⟨_, _, rfl, rfl⟩ | cases h
theorem cmpD_inv {g : Int → Int → Bool} : ∀ d e z, cmpD g d e = some z → ∃ i j, d = .int i ∧ e = .int j := fun d e z h => by unfold cmpD at h; split at h <;> first | exact ⟨_, _, rfl, rfl⟩ | cases h
theorem and_d : OpD X (binaryOp .BitAnd) (bitD Builtin.bitAnd) := opd_int op_and bitD_inv fun i j z G H Q hz q => by cases hz; exact ⟨i, j, rfl, rfl, res_int q⟩
theorem or_d : OpD X (binaryOp .BitOr) (bitD Builtin.bitOr) := opd_int op_or bitD_inv fun i j z G H Q hz q => by cases hz; exact ⟨i, j, rfl, rfl, res_int q⟩
theorem xor_d : OpD X (binaryOp .BitXor) (bitD Builtin.bitXor) := opd_int op_xor bitD_inv fun i j z G H Q hz q => by cases hz; exact ⟨i, j, rfl, rfl, res_int q⟩
theorem ior_d : OpD X (inplaceOp .BitOr) (bitD Builtin.bitOr) := opd_int iop_or bitD_inv fun i j z G H Q hz q => by cases hz; exact ⟨i, j, rfl, rfl, res_int q⟩
theorem lt_d : OpD X (compareOp .Lt) (cmpD fun i j => decide (i < j)) := opd_int op_lt cmpD_inv fun i j z G H Q hz q => by cases hz; exact ⟨i, j, rfl, rfl, res_bl q⟩
theorem le_d : OpD X (compareOp .LtE) (cmpD fun i j => decide (i ≤ j)) := opd_int op_le cmpD_inv fun i j z G H Q hz q => by cases hz; exact ⟨i, j, rfl, rfl, res_bl q⟩
theorem gt_d : OpD X (compareOp .Gt) (cmpD fun i j => decide (j < i)) := opd_int op_gt cmpD_inv fun i j z G H Q hz q => by cases hz; exact ⟨i, j, rfl, rfl, res_bl q⟩
theorem ge_d : OpD X (compareOp .GtE) (cmpD fun i j => decide (j ≤ i)) := opd_int op_ge cmpD_inv fun i j z G H Q hz q => by cases hz; exact ⟨i, j, rfl, rfl, res_bl q⟩
/-- list + list, whatever list -/
def rCatS (K : PySem.W.Frag) : R2 := fun x y H Q => ∃ l b xs zs, x = .ref l ∧ y = .ref b ∧ SqL K H l xs ∧ SqL K H b zs ∧ xs.length + zs.length ≤ sizeLine ∧ ∀ p, H p = none → Q (.ref p) (upd H p (.lst (xs ++ zs)))
theorem inv_lst {pins : List (Addr × Obj)} {σ : L2.St} {H : Hp} {s : Shared} {l : Addr} {xs : List V} (I : Inv X pins σ H s) (h : SqL X.K H l xs) :
    ∃ (its : List Value) (n : Nat) (sl : Array (Option Value)), Vals xs its ∧ xs.length = its.length ∧ xs.length ≤ sizeLine ∧ s.heap.get? l = some { cls := .type "list", data := .seq its.toArray n, slots := sl } := by
  obtain ⟨its, r, ⟨o, n, e, hc, hd, hda⟩, hz⟩ := I.list h
  obtain ⟨cls, dd, data, sl⟩ := o
  simp only at hc hd hda
  subst hc hd hda
  exact ⟨its, n, sl, r, r.length, hz, e⟩
end
end DL

set_option Elab.async false
set_option linter.all false
set_option autoImplicit false
set_option maxRecDepth 100000
set_option maxHeartbeats 1000000
namespace DL
open PySem PySem.Spec PyProof.Rows L2

section
variable {X : Cx}
theorem op_catS : OpR X (binaryOp .Add) (rCatS X.K) := by
  intro pins s σ H x y v u Q I rx ry h
  obtain ⟨l, b, xs, zs, rfl, rfl, hH, hB, hz, q⟩ := h
  cases rx
  cases ry
  obtain ⟨its, n, sl, r, hl, z, e⟩ := inv_lst I hH
  obtain ⟨its2, n2, sl2, r2, hl2, z2, e2⟩ := inv_lst I hB
  have fits : (xs ++ zs).length ≤ sizeLine := by rw [List.length_append]; exact hz
  have got : Q (.ref s.heap.objs.size) (upd H s.heap.objs.size (.lst (xs ++ zs))) := q _ I.fresh
  have small : its.toArray.size + its2.toArray.size ≤ sizeLine := by simpa [hl, hl2] using hz
  have fin : EP X pins σ Q (.ref s.heap.objs.size) { s with heap := s.heap.push { cls := Value.type "list", data := Data.seq (its.toArray ++ its2.toArray) } } := by
    rw [show its.toArray ++ its2.toArray = (its ++ its2).toArray from List.append_toArray ..]
    exact ⟨.ref s.heap.objs.size, _, I.lnew (t' := s.toks) (r.append r2) fits, rfl, got⟩
  exact concat_meets ⟨_, e, rfl⟩ ⟨_, e2, rfl⟩ noFill_list_add seq_list_add PySem.F.slot_list_add PySem.F.entry_list_add (PySem.F.args_list_add_2 _ _) (list_addW l b its.toArray its2.toArray n n2 none none sl sl2 small) ⟨e, e2, fin⟩
theorem add_d : OpD X (binaryOp .Add) addD := by
  intro pins s σ H x y v u Q I rx ry h
  obtain ⟨G, d, e, z, gh, vx, vy, hz, q⟩ := h
  unfold addD at hz
  split at hz
  · cases hz
    rw [vd_int vx] at rx
    rw [vd_int vy] at ry
    exact op_add pins s σ H _ _ v u Q I rx ry ⟨_, _, rfl, rfl, res_int q⟩
  · rename_i x' y'
    split at hz
    · rename_i hc
      cases hz
      rw [vd_str vx] at rx
      rw [vd_str vy] at ry
      exact op_add_str pins s σ H _ _ v u Q I rx ry ⟨_, _, rfl, rfl, hc, res_str q⟩
    · cases hz
  · rename_i xs ys
    split at hz
    · rename_i hc
      cases hz
      obtain ⟨a, vs, rfl, g1, h1, p1⟩ := vd_tup gh vx
      obtain ⟨b, ws, rfl, g2, h2, p2⟩ := vd_tup gh vy
      have l1 := dpAll_length p1
      have l2 := dpAll_length p2
      refine op_catA pins s σ H _ _ v u Q I rx ry ⟨a, b, vs, ws, rfl, rfl, h1, h2, by omega, fun e0 => ?_, fun _ e0 => ?_, fun _ _ p hp => ?_⟩
      · subst e0
        have : xs = [] := List.eq_nil_of_length_eq_zero (by simpa using l1.symm)
        subst this
        exact res_val q (.tup g2 p2)
      · subst e0
        have : ys = [] := List.eq_nil_of_length_eq_zero (by simpa using l2.symm)
        subst this
        rw [List.append_nil] at q
        exact res_val q (.tup g1 p1)
      · exact res_tup q (g_none gh hp) hp (dpAll_append p1 p2)
    · cases hz
  · rename_i xs ys
    split at hz
    · rename_i hc
      cases hz
      obtain ⟨a, vs, rfl, h1, p1⟩ := vd_list vx
      obtain ⟨b, ws, rfl, h2, p2⟩ := vd_list vy
      have l1 := dpAll_length p1
      have l2 := dpAll_length p2
      exact op_catS pins s σ H _ _ v u Q I rx ry ⟨a, b, vs, ws, rfl, rfl, h1, h2, by omega, fun p hp => res_lst q hp (dpAll_append p1 p2)⟩
    · cases hz
  · cases hz
def iaddD : Dv → Dv → Option Rz
  | .int i, .int j => some (.sh (.int (i + j)))
  | _, _ => none
theorem iadd_d : OpD X (inplaceOp .Add) iaddD := opd_int iop_add (fun d e z h => by unfold iaddD at h; split at h <;> first | exact ⟨_, _, rfl, rfl⟩ | cases h) fun i j z G H Q hz q => by
  simp only [iaddD, Option.some.injEq] at hz; subst hz; exact ⟨i, j, rfl, rfl, res_int q⟩
def rRepS (K : PySem.W.Frag) : R2 := fun x y H Q => ∃ l k xs, x = .ref l ∧ y = .int k ∧ SqL K H l xs ∧ -(2 ^ 63) ≤ k ∧ k < 2 ^ 63 ∧ xs.length * k.toNat ≤ sizeLine ∧
  ∀ p, H p = none → Q (.ref p) (upd H p (.lst (List.replicate k.toNat xs).flatten))
theorem op_repS : OpR X (binaryOp .Mult) (rRepS X.K) := by
  intro pins s σ H x y v u Q I rx ry h
  obtain ⟨l, k, xs, rfl, rfl, hH, h1, h2, hz, q⟩ := h
  cases rx
  obtain ⟨t, rfl⟩ := ry
  obtain ⟨its, n, sl, r, hl, z, e⟩ := inv_lst I hH
  have cnt : its.toArray.size * k.toNat ≤ sizeLine := by
    rw [List.size_toArray, ← hl]
    exact hz
  have isL : s.TypeIs (.ref l) "list" := ⟨_, e, rfl⟩
  have isI := fun s' : Shared => typeIs_int s' k t
  have fin : EP X pins σ Q (.ref s.heap.objs.size) { s with heap := s.heap.push { cls := Value.type "list", data := Data.seq (List.foldl (fun x1 x2 => x1 ++ x2) #[] (List.replicate (if its.toArray.isEmpty = true then 0 else k.toNat) its.toArray)) }, toks := s.toks } := by
    rw [listMul_foldl_if]
    exact ⟨.ref s.heap.objs.size, _, I.lnew (t' := s.toks) (r.rep k.toNat) (by rw [lm_len_rep_flat, Nat.mul_comm]; exact hz), rfl, q _ I.fresh⟩
  have times := lm_list_mul_any l its.toArray n none sl k t (ne_true_of_eq_false (by rw [fitsIndex_both h1 h2]; rfl)) (Nat.not_lt.mpr (Nat.le_trans cnt (by decide))) (ne_true_of_eq_false (notLongL cnt))
  exact wpAny_binaryOp_repeat_ref (T := "list") (U := "int") (by decide) isL isI noFill_list_mul F.fills_int_mul F.slot_int_rmul repeat_list F.slot_int_index.lookup
    (call_meets F.slot_int_rmul (isI s) F.entry_int_rmul (F.args_int_rmul_2 _ _) (lm_int_rmul_list_any k t l its.toArray n none sl) ⟨e, rfl, isL, call_meets F.slot_list_mul isL F.entry_list_mul (F.args_list_mul_2 _ _) times ⟨e, fin⟩⟩)
theorem dpAll_rep {K : PySem.W.Frag} {G : Hp} {ds : List Dv} {vs : List V} (h : DpAll K G vs ds) : ∀ n : Nat, DpAll K G (List.replicate n vs).flatten (List.replicate n ds).flatten
  | 0 => by simp; exact .nil
  | n + 1 => by
    simp only [List.replicate_succ, List.flatten_cons]
    exact dpAll_append h (dpAll_rep h n)
theorem mul_d : OpD X (binaryOp .Mult) mulD := by
  intro pins s σ H x y v u Q I rx ry h
  obtain ⟨G, d, e, z, gh, vx, vy, hz, q⟩ := h
  unfold mulD at hz
  split at hz
  · split at hz
    · rename_i hc
      cases hz
      rw [vd_int vx] at rx
      rw [vd_int vy] at ry
      exact op_mul pins s σ H _ _ v u Q I rx ry ⟨_, _, rfl, rfl, hc, res_int q⟩
    · cases hz
  · split at hz
    · rename_i hc
      cases hz
      obtain ⟨a, vs, rfl, h1, p1⟩ := vd_list vx
      have l1 := dpAll_length p1
      rw [vd_int vy] at ry
      exact op_repS pins s σ H _ _ v u Q I rx ry ⟨a, _, vs, rfl, rfl, h1, hc.1, hc.2.1, by rw [l1]; exact hc.2.2, fun p hp => res_lst q hp (dpAll_rep p1 _)⟩
    · cases hz
  · split at hz
    · rename_i xs k hc
      cases hz
      obtain ⟨a, vs, rfl, g1, h1, p1⟩ := vd_tup gh vx
      have l1 := dpAll_length p1
      rw [vd_int vy] at ry
      refine op_repT pins s σ H _ _ v u Q I rx ry ⟨a, _, vs, rfl, rfl, h1, fun e0 => hc.1 ?_, hc.2.1, hc.2.2.1, by rw [l1]; exact hc.2.2.2, fun p hp => res_tup q (g_none gh hp) hp (dpAll_rep p1 _)⟩
      subst e0
      exact List.eq_nil_of_length_eq_zero (by simpa using l1.symm)
    · cases hz
  · cases hz
/-! ### == and != -/
theorem eqD_bool {d e : Dv} {b : Bool} (h : eqD d e = some b) : (∃ i j, d = .int i ∧ e = .int j ∧ b = decide (i = j)) ∨ (∃ i j, d = .str i ∧ e = .str j ∧ b = decide (i = j)) ∨ (SeqAt.shaped d = true ∧ SeqAt.shaped e = true ∧ b = PyData.eqv d e) := by
  unfold eqD at h
  split at h
  · exact .inl ⟨_, _, rfl, rfl, (Option.some.inj h).symm⟩
  · exact .inr (.inl ⟨_, _, rfl, rfl, (Option.some.inj h).symm⟩)
  · split at h
    · rename_i hc; exact .inr (.inr ⟨hc.1, hc.2, (Option.some.inj h).symm⟩)
    · cases h
theorem shaped_nodict {kvs : List (PyData × PyData)} : SeqAt.shaped (.dict kvs) = false := by
  unfold SeqAt.shaped
  simp [PyData.canLay0]
theorem nodict_of {d : Dv} (h : SeqAt.shaped d = true) : ∀ kvs, d ≠ .dict kvs := fun kvs e => by
  subst e
  rw [shaped_nodict] at h
  cases h
theorem eq_d (hu : X.A.units + 64 < cLine) : OpD X (compareOp .Eq) eqqD := by
  intro pins s σ H x y v u Q I rx ry h
  obtain ⟨G, d, e, z, gh, vx, vy, hz, q⟩ := h
  obtain ⟨b, hb, rfl⟩ := Option.map_eq_some_iff.mp hz
  rcases eqD_bool hb with ⟨i, j, rfl, rfl, rfl⟩ | ⟨i, j, rfl, rfl, rfl⟩ | ⟨h1, h2, rfl⟩
  · rw [vd_int vx] at rx
    rw [vd_int vy] at ry
    refine op_eq pins s σ H _ _ v u Q I rx ry ⟨rfl, ?_⟩
    have := res_bl q
    rw [dec_int, Bool.beq_eq_decide_eq]
    exact this
  · rw [vd_str vx] at rx
    rw [vd_str vy] at ry
    refine op_eq pins s σ H _ _ v u Q I rx ry ⟨rfl, ?_⟩
    have := res_bl q
    rw [dec_str]
    rw [show (i == j) = decide (i = j) by rw [Bool.eq_iff_iff]; simp]
    exact this
  · exact op_eqD hu pins s σ H _ _ v u Q I rx ry ⟨d, e, vd_dp gh vx (nodict_of h1), vd_dp gh vy (nodict_of h2), h1, h2, res_bl q⟩
theorem ne_d (hu : X.A.units + 64 < cLine) : OpD X (compareOp .NotEq) neqD := by
  intro pins s σ H x y v u Q I rx ry h
  obtain ⟨G, d, e, z, gh, vx, vy, hz, q⟩ := h
  obtain ⟨b, hb, rfl⟩ := Option.map_eq_some_iff.mp hz
  rcases eqD_bool hb with ⟨i, j, rfl, rfl, rfl⟩ | ⟨i, j, rfl, rfl, rfl⟩ | ⟨h1, h2, rfl⟩
  · rw [vd_int vx] at rx
    rw [vd_int vy] at ry
    refine op_ne pins s σ H _ _ v u Q I rx ry ⟨rfl, ?_⟩
    have := res_bl q
    rw [dec_int, Bool.beq_eq_decide_eq]
    exact this
  · rw [vd_str vx] at rx
    rw [vd_str vy] at ry
    refine op_ne pins s σ H _ _ v u Q I rx ry ⟨rfl, ?_⟩
    have := res_bl q
    rw [dec_str]
    rw [show (i == j) = decide (i = j) by rw [Bool.eq_iff_iff]; simp]
    exact this
  · exact op_neD hu pins s σ H _ _ v u Q I rx ry ⟨d, e, vd_dp gh vx (nodict_of h1), vd_dp gh vy (nodict_of h2), h1, h2, res_bl q⟩
theorem non_vd {K : PySem.W.Frag} {G H : Hp} {d : Dv} {v : V} (h : VD K G H d v) : decide (v = .non) = isNone d := by
  cases d with
  | none => rw [vd_none h]; rfl
  | bool b => rw [vd_bool h]; rfl
  | int b => rw [vd_int h]; rfl
  | str b => rw [vd_str h]; rfl
  | list b => obtain ⟨a, vs, rfl, _⟩ := vd_list h; rfl
  | tuple b =>
    have h' : Dp K G v (.tuple b) := h
    cases h' with | tup _ _ => rfl
  | dict b =>
    rcases h with ⟨a, vs, rfl, _⟩ | ⟨a, ps, kvs', rfl, _⟩ <;> rfl
theorem isNone_eq {d : Dv} (h : isNone d = true) : d = .none := by
  cases d <;> first | rfl | cases h
theorem is_d : OpD X (compareOp .Is) isND := by
  refine op_imp op_isN fun x y H Q ⟨G, d, e, z, gh, vx, vy, hz, q⟩ => ?_
  unfold isND at hz
  split at hz
  · rename_i hn
    cases hz
    rw [isNone_eq hn] at vy
    refine ⟨vd_none vy, ?_⟩
    rw [non_vd vx]
    exact res_bl q
  · cases hz
theorem isnot_d : OpD X (compareOp .IsNot) notND := by
  refine op_imp op_notN fun x y H Q ⟨G, d, e, z, gh, vx, vy, hz, q⟩ => ?_
  unfold notND at hz
  split at hz
  · rename_i hn
    cases hz
    rw [isNone_eq hn] at vy
    refine ⟨vd_none vy, ?_⟩
    rw [non_vd vx]
    exact res_bl q
  · cases hz
/-! ### in -/
def rInT (K : PySem.W.Frag) : R2 := fun x y H Q => ∃ d ds, Dp K H x d ∧ Dp K H y (.tuple ds) ∧ SeqAt.shaped d = true ∧ SeqAt.shaped (.tuple ds) = true ∧ Q (.bl (ds.any fun z => PyData.eqv z d)) H
def rNotInT (K : PySem.W.Frag) : R2 := fun x y H Q => ∃ d ds, Dp K H x d ∧ Dp K H y (.tuple ds) ∧ SeqAt.shaped d = true ∧ SeqAt.shaped (.tuple ds) = true ∧ Q (.bl (!ds.any fun z => PyData.eqv z d)) H
theorem op_inT (hu : X.A.units + 65 < cLine) : OpR X (compareOp .In) (rInT X.K) := by
  intro pins s σ H x y v u Q I rx ry h
  obtain ⟨d, ds, hd, he, sd, se, q⟩ := h
  obtain ⟨as, r1⟩ := Dp.reads I d x v hd rx
  obtain ⟨bs, r2⟩ := Dp.reads I (.tuple ds) y u he ry
  exact SeqAt.in_tuple_reads r2 r1 (SeqAt.canLay_of_shaped se) (SeqAt.canLay_of_shaped sd) (room_in_shaped sd hu) ⟨.bl _, H, I, rfl, q⟩
theorem op_notInT (hu : X.A.units + 65 < cLine) : OpR X (compareOp .NotIn) (rNotInT X.K) := by
  intro pins s σ H x y v u Q I rx ry h
  obtain ⟨d, ds, hd, he, sd, se, q⟩ := h
  obtain ⟨as, r1⟩ := Dp.reads I d x v hd rx
  obtain ⟨bs, r2⟩ := Dp.reads I (.tuple ds) y u he ry
  exact SeqAt.notIn_tuple_reads r2 r1 (SeqAt.canLay_of_shaped se) (SeqAt.canLay_of_shaped sd) (room_in_shaped sd hu) ⟨.bl _, H, I, rfl, q⟩
theorem inSeq_inv {d e : Dv} {b : Bool} (h : inSeq d e = some b) : (∃ ds, e = .list ds ∧ SeqAt.shaped d = true ∧ SeqAt.shaped (.list ds) = true ∧ b = ds.any fun z => PyData.eqv z d) ∨ (∃ ds, e = .tuple ds ∧ SeqAt.shaped d = true ∧ SeqAt.shaped (.tuple ds) = true ∧ b = ds.any fun z => PyData.eqv z d) := by
  unfold inSeq at h
  split at h
  · split at h
    · rename_i hc; exact .inl ⟨_, rfl, hc.1, hc.2, (Option.some.inj h).symm⟩
    · cases h
  · split at h
    · rename_i hc; exact .inr ⟨_, rfl, hc.1, hc.2, (Option.some.inj h).symm⟩
    · cases h
  · cases h
theorem in_d (hu : X.A.units + 65 < cLine) : OpD X (compareOp .In) inSD := by
  intro pins s σ H x y v u Q I rx ry h
  obtain ⟨G, d, e, z, gh, vx, vy, hz, q⟩ := h
  obtain ⟨b, hb, rfl⟩ := Option.map_eq_some_iff.mp hz
  rcases inSeq_inv hb with ⟨ds, rfl, h1, h2, rfl⟩ | ⟨ds, rfl, h1, h2, rfl⟩
  · exact op_inD hu pins s σ H _ _ v u Q I rx ry ⟨d, ds, vd_dp gh vx (nodict_of h1), vd_dp gh vy (nodict_of h2), h1, h2, res_bl q⟩
  · exact op_inT hu pins s σ H _ _ v u Q I rx ry ⟨d, ds, vd_dp gh vx (nodict_of h1), vd_dp gh vy (nodict_of h2), h1, h2, res_bl q⟩
theorem nin_d (hu : X.A.units + 65 < cLine) : OpD X (compareOp .NotIn) ninSD := by
  intro pins s σ H x y v u Q I rx ry h
  obtain ⟨G, d, e, z, gh, vx, vy, hz, q⟩ := h
  obtain ⟨b, hb, rfl⟩ := Option.map_eq_some_iff.mp hz
  rcases inSeq_inv hb with ⟨ds, rfl, h1, h2, rfl⟩ | ⟨ds, rfl, h1, h2, rfl⟩
  · exact op_notInD hu pins s σ H _ _ v u Q I rx ry ⟨d, ds, vd_dp gh vx (nodict_of h1), vd_dp gh vy (nodict_of h2), h1, h2, res_bl q⟩
  · exact op_notInT hu pins s σ H _ _ v u Q I rx ry ⟨d, ds, vd_dp gh vx (nodict_of h1), vd_dp gh vy (nodict_of h2), h1, h2, res_bl q⟩
/-! ### subscripts -/
theorem atI_dp {K : PySem.W.Frag} {G : Hp} {ds : List Dv} {vs : List V} {i : Int} {d : Dv} (p : DpAll K G vs ds) (h : atI ds i = some d) : ∃ v, atI vs i = some v ∧ Dp K G v d := by
  unfold atI at h ⊢
  rw [dpAll_length p]
  obtain ⟨j, hj, hd⟩ := Option.bind_eq_some_iff.mp h
  obtain ⟨v, hv, q⟩ := dpAll_get p hd
  exact ⟨v, by rw [hj]; exact hv, q⟩
theorem ix_d : IxD X ixD := by
  intro value slice pins s σ H x y v u Q I rx ry h hs
  obtain ⟨G, d, e, z, gh, vx, vy, hz, q⟩ := h
  unfold ixD at hz
  split at hz
  · obtain ⟨d', hd', rfl⟩ := Option.map_eq_some_iff.mp hz
    obtain ⟨a, vs, rfl, h1, p1⟩ := vd_list vx
    rw [vd_int vy] at ry
    obtain ⟨w, hw, qw⟩ := atI_dp p1 hd'
    exact ix_list value slice pins s σ H _ _ v u Q I rx ry ⟨a, vs, _, w, rfl, rfl, h1, hw, res_val q qw⟩ hs
  · obtain ⟨d', hd', rfl⟩ := Option.map_eq_some_iff.mp hz
    obtain ⟨a, vs, rfl, g1, h1, p1⟩ := vd_tup gh vx
    rw [vd_int vy] at ry
    obtain ⟨w, hw, qw⟩ := atI_dp p1 hd'
    exact ix_tup value slice pins s σ H _ _ v u Q I rx ry ⟨a, vs, _, w, rfl, rfl, h1, hw, res_val q qw⟩ hs
  · split at hz
    · rename_i hc
      obtain ⟨c, hc', rfl⟩ := Option.map_eq_some_iff.mp hz
      rw [vd_str vx] at rx
      rw [vd_int vy] at ry
      exact ix_str value slice pins s σ H _ _ v u Q I rx ry ⟨_, _, c, rfl, rfl, hc, hc', res_str q⟩ hs
    · cases hz
  · cases hz
end
end DL

set_option Elab.async false
set_option linter.all false
set_option autoImplicit false
set_option maxRecDepth 100000
set_option maxHeartbeats 1000000
namespace DL
open PySem PySem.Spec PyProof.Rows L2

/-! ### argument lists, displays -/
def aNil : MA := fun ρ => some ([], ρ)
def aCons (f : M) (g : MA) : MA := fun ρ => (f ρ).bind fun x => (g x.2).bind fun y => some (x.1 :: y.1, y.2)
def shs : List Rv → Option (List Dv)
  | [] => some []
  | .sh d :: rs => (shs rs).map (d :: ·)
  | _ :: _ => none
def eTup (g : MA) : M := fun ρ => (g ρ).bind fun x => (shs x.1).bind fun ds => if ds.length ≤ sizeLine then some (.sh (.tuple ds), x.2) else none
def eLst (g : MA) : M := fun ρ => (g ρ).bind fun x => (shs x.1).bind fun ds => if ds.length ≤ sizeLine then some (.ow (.lst ds), x.2) else none
def eDct : M := fun ρ => some (.ow (.dct []), ρ)
section
variable {X : Cx} {ix : List Nat} {e a b c : Expr} {es : List Expr} {f fa fb fc : M} {g : MA} {pos : Pos}
theorem da_nil : PA X [] (TA' X.K ix aNil) := pa_imp pa_nil fun σ H Q ⟨Fr, FX, G, ρ, rs, ρ', R, hf, k⟩ => by
  cases hf
  exact k [] G H (Sub.refl _) R trivial
theorem hold_list {ta : TA} {σ : L2.St} {H : Hp} {K : PySem.W.Frag} {Fr G : Hp} {FX : Nat → Option V} {ρ ρ1 : Rho} {r : Rv} {ss : List Rv} {x : V} {R : List V → Hp → Prop}
    (R1 : RS K ix Fr FX G ρ σ H) (v1 : VOk K Fr G H ρ σ r x) (hb : g ρ = some (ss, ρ1))
    (k : ∀ ys G2 H2, Sub G G2 → RS K ix Fr FX G2 ρ1 σ H2 → VOks K Fr G2 H2 ρ1 σ (r :: ss) (x :: ys) → R ys H2) :
    TA' K ix g σ H R := by
  cases r with
  | sh d => exact ⟨Fr, FX, G, ρ, ss, ρ1, R1, hb, fun y G2 H2 su R2 v2 => k y G2 H2 su R2 ⟨dp_mono su _ _ v1, (fun o a z => nomatch z), v2⟩⟩
  | al i => exact ⟨Fr, FX, G, ρ, ss, ρ1, R1, hb, fun y G2 H2 su R2 v2 => k y G2 H2 su R2 ⟨v1, (fun o a z => nomatch z), v2⟩⟩
  | fd o => exact ⟨Fr, FX, G, ρ, ss, ρ1, R1, hb, fun y G2 H2 su R2 v2 => k y G2 H2 su R2 ⟨(let ⟨a, e, c⟩ := v1; ⟨a, e, c.mono su⟩), (fun o a z => nomatch z), v2⟩⟩
  | ow o =>
    obtain ⟨p, rfl, g0, f0, c, hn⟩ := v1
    obtain ⟨u, hu⟩ := c.some
    refine ⟨upd Fr p u, FX, G, ρ, ss, ρ1, R1.frame g0 hu hn, hb, fun y G2 H2 su R2 v2 => ?_⟩
    have g2 : G2 p = none := R2.gf p (by rw [upd_same]; simp)
    have h2 : H2 p = H p := (R2.fh p u upd_same).trans hu.symm
    have un : ∀ (rs : List Rv) (vs : List V), VOks K (upd Fr p u) G2 H2 ρ1 σ rs vs → VOks K Fr G2 H2 ρ1 σ rs vs ∧ ∀ (j : Nat) (o' : Ob), rs[j]? = some (.ow o') → vs[j]? ≠ some (.ref p) := by
      intro rs
      induction rs with
      | nil =>
        intro vs h
        cases vs with
        | nil => exact ⟨trivial, fun j o' e => by simp at e⟩
        | cons v vs => exact False.elim h
      | cons r rs ih =>
        intro vs h
        cases vs with
        | nil => exact False.elim h
        | cons v vs =>
          obtain ⟨h1, h2', h3⟩ := h
          obtain ⟨i1, i2⟩ := ih vs h3
          have q1 : VOk K Fr G2 H2 ρ1 σ r v ∧ ∀ o', r = .ow o' → v ≠ .ref p := by
            cases r with
            | sh d => exact ⟨h1, fun o' z => nomatch z⟩
            | al i => exact ⟨h1, fun o' z => nomatch z⟩
            | fd i => exact ⟨h1, fun o' z => nomatch z⟩
            | ow o' =>
              obtain ⟨q, rfl, g', f', c', hn'⟩ := h1
              have hq : q ≠ p := fun z => by subst z; rw [upd_same] at f'; cases f'
              rw [upd_ne hq] at f'
              exact ⟨⟨q, rfl, g', f', c', hn'⟩, fun o2 _ z => hq (V.ref.inj z)⟩
          refine ⟨⟨q1.1, h2', i1⟩, fun j o' e => ?_⟩
          cases j with
          | zero =>
            simp only [List.getElem?_cons_zero, Option.some.injEq] at e ⊢
            exact fun z => q1.2 o' e (Option.some.inj z)
          | succ j =>
            simp only [List.getElem?_cons_succ] at e ⊢
            exact i2 j o' e
    obtain ⟨u1, u2⟩ := un ss y v2
    refine k y G2 H2 su (R2.unframe f0) ⟨⟨p, rfl, g2, f0, c.mono su h2, fun i o' e e1 => ?_⟩, fun o1 a1 _ z j o' e => ?_, u1⟩
    · obtain ⟨a, e2, _, f2, _⟩ := R2.sl i _ e
      rw [e1] at e2
      cases e2
      rw [upd_same] at f2
      cases f2
    · cases z
      exact u2 j o' e
theorem da_cons (ha : PE X e (TE' X.K ix f)) (hr : PA X es (TA' X.K ix g)) (hs : starEach (e :: es) X.env = (false, eval e X.env) :: starEach es X.env := by rfl) : PA X (e :: es) (TA' X.K ix (aCons f g)) :=
  pa_imp (pa_cons ha hr hs) fun σ H Q ⟨Fr, FX, G, ρ, rs, ρ', R, hf, k⟩ => by
    unfold aCons at hf
    obtain ⟨⟨r1, ρ1⟩, h1, hf⟩ := Option.bind_eq_some_iff.mp hf
    obtain ⟨⟨ss, ρ2⟩, h2, hf⟩ := Option.bind_eq_some_iff.mp hf
    cases hf
    refine ⟨Fr, FX, G, ρ, r1, ρ1, R, h1, fun x G1 H1 s1 R1 v1 => ?_⟩
    exact hold_list (ta := TA' X.K ix g) R1 v1 h2 fun ys G2 H2 s2 R2 v2 => k _ G2 H2 (s1.trans s2) R2 v2
theorem shs_dp {K : PySem.W.Frag} {Fr G H : Hp} {ρ : Rho} {σ : L2.St} : ∀ {rs : List Rv} {ds : List Dv} {vs : List V}, VOks K Fr G H ρ σ rs vs → shs rs = some ds → DpAll K G vs ds
  | [], _, [], _, h => by cases h; exact .nil
  | [], _, _ :: _, h, _ => False.elim h
  | .sh d :: rs, _, [], h, _ => False.elim h
  | .sh d :: rs, _, v :: vs, ⟨h1, _, h3⟩, h => by
    obtain ⟨es, he, rfl⟩ := Option.map_eq_some_iff.mp h
    exact .cons h1 (shs_dp h3 he)
  | .ow _ :: rs, _, _, _, h => by cases h
  | .al _ :: rs, _, _, _, h => by cases h
theorem de_tup {x1} (h : PA X es (TA' X.K ix g)) : PE X (.Tuple es x1 pos) (TE' X.K ix (eTup g)) :=
  pe_imp (pe_tup h) fun σ H Q ⟨Fr, FX, G, ρ, r, ρ', R, hf, k⟩ => by
    unfold eTup at hf
    obtain ⟨⟨rs, ρ1⟩, h1, hf⟩ := Option.bind_eq_some_iff.mp hf
    obtain ⟨ds, h2, hf⟩ := Option.bind_eq_some_iff.mp hf
    simp only at hf
    split at hf
    · rename_i hc
      cases hf
      refine ⟨Fr, FX, G, ρ, rs, _, R, h1, fun vs G1 H1 s1 R1 v1 => ?_⟩
      have q := shs_dp v1 h2
      refine ⟨by rw [dpAll_length q]; exact hc, fun p hp => ?_⟩
      have s2 := sub_upd (o := HO.tup vs) (R1.none_of hp).1
      exact k (.ref p) _ _ (s1.trans s2) (R1.newG hp) (Dp.tup (.inl (.inl upd_same)) (dpAll_mono s2 _ _ q))
    · cases hf
theorem de_lst (h : PA X es (TA' X.K ix g)) : PE X (.List es pos) (TE' X.K ix (eLst g)) :=
  pe_imp (pe_lst h) fun σ H Q ⟨Fr, FX, G, ρ, r, ρ', R, hf, k⟩ => by
    unfold eLst at hf
    obtain ⟨⟨rs, ρ1⟩, h1, hf⟩ := Option.bind_eq_some_iff.mp hf
    obtain ⟨ds, h2, hf⟩ := Option.bind_eq_some_iff.mp hf
    simp only at hf
    split at hf
    · rename_i hc
      cases hf
      refine ⟨Fr, FX, G, ρ, rs, _, R, h1, fun vs G1 H1 s1 R1 v1 => ?_⟩
      have q := shs_dp v1 h2
      refine ⟨by rw [dpAll_length q]; exact hc, fun p hp => ?_⟩
      exact k (.ref p) G1 _ s1 (R1.newH hp) ⟨p, rfl, (R1.none_of hp).1, (R1.none_of hp).2, ⟨vs, upd_same, q⟩, R1.notIn hp⟩
    · cases hf
theorem de_dnew : PE X (.Dict [] [] pos) (TE' X.K ix eDct) :=
  pe_imp pe_dnewK fun σ H Q ⟨Fr, FX, G, ρ, r, ρ', R, hf, k⟩ => by
    cases hf
    intro p hp
    exact k (.ref p) G _ (Sub.refl _) (R.newH hp) ⟨p, rfl, (R.none_of hp).1, (R.none_of hp).2, ⟨[], upd_same, .nil⟩, R.notIn hp⟩

/-! ### truth, tests -/
def truD : Dv → Option Bool
  | .none => some false
  | .bool b => some b
  | .int i => some (i != 0)
  | .str y => if y.length ≤ sizeLine then some ((y.length : Int) != 0) else none
  | .list xs => some (!xs.isEmpty)
  | .tuple xs => some (!xs.isEmpty)
  | .dict _ => none
theorem isEmpty_dp {K : PySem.W.Frag} {G : Hp} {ds : List Dv} {vs : List V} (h : DpAll K G vs ds) : vs.isEmpty = ds.isEmpty := by
  cases h <;> rfl
theorem tru_vd {K : PySem.W.Frag} {G H : Hp} {d : Dv} {v : V} {k : Bool} (gh : ∀ a o, G a = some o → H a = some o) (h : VD K G H d v) (e : truD d = some k) : TruV K v H k := by
  cases d with
  | none => rw [vd_none h]; cases e; rfl
  | bool b => rw [vd_bool h]; cases e; rfl
  | int b => rw [vd_int h]; cases e; rfl
  | str b =>
    rw [vd_str h]
    unfold truD at e
    simp only at e
    split at e
    · rename_i hc; cases e; exact ⟨hc, rfl⟩
    · cases e
  | list b =>
    obtain ⟨a, vs, rfl, h1, h2⟩ := vd_list h
    cases e
    exact .inl ⟨vs, h1, by rw [isEmpty_dp h2]⟩
  | tuple b =>
    obtain ⟨a, vs, rfl, _, h1, h2⟩ := vd_tup gh h
    cases e
    exact .inr (.inl ⟨vs, h1, by rw [isEmpty_dp h2]⟩)
  | dict b =>
    cases e
/-- an expression as a test -/
def tV (f : M) : MB := fun ρ => (pkM f ρ).bind fun x => (dat x.2 x.1).bind fun d => (truD d).bind fun k => some (k, x.2)
def tNo (t : MB) : MB := fun ρ => (t ρ).bind fun x => some (!x.1, x.2)
def tAn (t u : MB) : MB := fun ρ => (t ρ).bind fun x => if x.1 = true then u x.2 else some (false, x.2)
def tOr' (t u : MB) : MB := fun ρ => (t ρ).bind fun x => if x.1 = true then some (true, x.2) else u x.2
def eIf (t : MB) (fa fb : M) : M := fun ρ => (t ρ).bind fun x => if x.1 = true then fa x.2 else fb x.2
def eNot (f : M) : M := fun ρ => (tV f ρ).bind fun x => some (.sh (.bool (!x.1)), x.2)
/-- x and y, x or y as values -/
def eAnd (fa fb : M) : M := fun ρ => (pkM fa ρ).bind fun x => (dat x.2 x.1).bind fun d => (truD d).bind fun k => if k = true then fb x.2 else some x
def eOr (fa fb : M) : M := fun ρ => (pkM fa ρ).bind fun x => (dat x.2 x.1).bind fun d => (truD d).bind fun k => if k = true then some x else fb x.2
variable {t u : MB}
theorem dt_truth (ha : PE X a (TE' X.K ix f)) (he : ∀ whole, isTrue a X.env whole = (do let v ← whole; standAt a.pos; holding [v] (truthy v)) := by intro _; rfl) : PT X a (TT' X.K ix (tV f)) :=
  pt_imp (pt_truth (de_pk ha) he) fun σ H Q ⟨Fr, FX, G, ρ, r, ρ', R, hf, k⟩ => by
    unfold tV at hf
    obtain ⟨⟨r1, ρ1⟩, h1, hf⟩ := Option.bind_eq_some_iff.mp hf
    obtain ⟨d, h2, hf⟩ := Option.bind_eq_some_iff.mp hf
    obtain ⟨kk, h3, hf⟩ := Option.bind_eq_some_iff.mp hf
    cases hf
    refine ⟨Fr, FX, G, ρ, r1, _, R, h1, fun x G1 H1 s1 R1 v1 => ?_⟩
    exact ⟨_, tru_vd R1.gh (dat_vd R1 v1 h2) h3, k G1 H1 s1 R1⟩
/-- an expression that is a truth, as a test -/
def tB (f : M) : MB := fun ρ => (f ρ).bind fun x => match x.1 with
  | .sh (.bool k) => some (k, x.2)
  | _ => none
theorem tB_inv {f : M} {ρ ρ' : Rho} {b : Bool} (h : tB f ρ = some (b, ρ')) : f ρ = some (.sh (.bool b), ρ') := by
  unfold tB at h
  obtain ⟨⟨r, ρ1⟩, h1, h⟩ := Option.bind_eq_some_iff.mp h
  simp only at h
  split at h
  · cases h; exact h1
  · cases h
theorem tb_ok {σ : L2.St} {H : Hp} {Q : Bool → Hp → Prop} (h : TT' X.K ix (tB f) σ H Q) : TE' X.K ix f σ H fun x H' => ∃ k, x = .bl k ∧ Q k H' := by
  obtain ⟨Fr, FX, G, ρ, r, ρ', R, hf, k⟩ := h
  refine ⟨Fr, FX, G, ρ, _, _, R, tB_inv hf, fun v G1 H1 s1 R1 v1 => ?_⟩
  have v1' : Dp X.K G1 v (.bool r) := v1
  cases v1'
  exact ⟨r, rfl, k G1 H1 s1 R1⟩
theorem dt_cmp {op : CmpOp} {g : Dv → Dv → Option Rz} (ho : OpD X (compareOp op) g) (ha : PE X a (TE' X.K ix fa)) (hb : PE X b (TE' X.K ix fb)) (hm : behindInMarks op b = false := by first | exact nomark _ | rfl) :
    PT X (.Compare a [op] [b] pos) (TT' X.K ix (tB (binS g fa fb))) :=
  pt_imp (pt_cmpR ho (de_pk ha) (de_pk hb) hm) fun σ H Q h => bin_ok (tb_ok h) fun _ _ _ q => q
theorem dt_not (h : PT X a (TT' X.K ix t)) : PT X (.UnaryOp .Not a pos) (TT' X.K ix (tNo t)) :=
  pt_imp (pt_not h) fun σ H Q ⟨Fr, FX, G, ρ, r, ρ', R, hf, k⟩ => by
    unfold tNo at hf
    obtain ⟨⟨b1, ρ1⟩, h1, hf⟩ := Option.bind_eq_some_iff.mp hf
    cases hf
    exact ⟨Fr, FX, G, ρ, b1, _, R, h1, fun G1 H1 s1 R1 => k G1 H1 s1 R1⟩
variable {rest : List Expr}
theorem dw_and1 (h : PT X a (TT' X.K ix t)) : PW X (.BoolOp .And [a] pos) (TT' X.K ix t) := pw_and1 h
theorem dw_or1 (h : PT X a (TT' X.K ix t)) : PW X (.BoolOp .Or [a] pos) (TT' X.K ix t) := pw_or1 h
theorem dw_and (ha : PT X a (TT' X.K ix t)) (hb : PW X (.BoolOp .And (b :: rest) pos) (TT' X.K ix u)) : PW X (.BoolOp .And (a :: b :: rest) pos) (TT' X.K ix (tAn t u)) :=
  pw_imp (pw_and ha hb) fun σ H Q ⟨Fr, FX, G, ρ, r, ρ', R, hf, k⟩ => by
    unfold tAn at hf
    obtain ⟨⟨b1, ρ1⟩, h1, hf⟩ := Option.bind_eq_some_iff.mp hf
    refine ⟨Fr, FX, G, ρ, b1, ρ1, R, h1, fun G1 H1 s1 R1 => ?_⟩
    cases b1 with
    | true => exact ⟨Fr, FX, G1, ρ1, r, ρ', R1, hf, fun G2 H2 s2 R2 => k G2 H2 (s1.trans s2) R2⟩
    | false => cases hf; exact k G1 H1 s1 R1
theorem dw_or (ha : PT X a (TT' X.K ix t)) (hb : PW X (.BoolOp .Or (b :: rest) pos) (TT' X.K ix u)) : PW X (.BoolOp .Or (a :: b :: rest) pos) (TT' X.K ix (tOr' t u)) :=
  pw_imp (pw_or ha hb) fun σ H Q ⟨Fr, FX, G, ρ, r, ρ', R, hf, k⟩ => by
    unfold tOr' at hf
    obtain ⟨⟨b1, ρ1⟩, h1, hf⟩ := Option.bind_eq_some_iff.mp hf
    refine ⟨Fr, FX, G, ρ, b1, ρ1, R, h1, fun G1 H1 s1 R1 => ?_⟩
    cases b1 with
    | false => exact ⟨Fr, FX, G1, ρ1, r, ρ', R1, hf, fun G2 H2 s2 R2 => k G2 H2 (s1.trans s2) R2⟩
    | true => cases hf; exact k G1 H1 s1 R1
theorem de_ifExp (hc : PT X c (TT' X.K ix t)) (ha : PE X a (TE' X.K ix fa)) (hb : PE X b (TE' X.K ix fb)) : PE X (.IfExp c a b pos) (TE' X.K ix (eIf t fa fb)) :=
  pe_imp (pe_ifExp hc ha hb) fun σ H Q ⟨Fr, FX, G, ρ, r, ρ', R, hf, k⟩ => by
    unfold eIf at hf
    obtain ⟨⟨b1, ρ1⟩, h1, hf⟩ := Option.bind_eq_some_iff.mp hf
    refine ⟨Fr, FX, G, ρ, b1, ρ1, R, h1, fun G1 H1 s1 R1 => ?_⟩
    cases b1 with
    | true => exact ⟨Fr, FX, G1, ρ1, r, ρ', R1, hf, fun v G2 H2 s2 R2 => k v G2 H2 (s1.trans s2) R2⟩
    | false => exact ⟨Fr, FX, G1, ρ1, r, ρ', R1, hf, fun v G2 H2 s2 R2 => k v G2 H2 (s1.trans s2) R2⟩
theorem de_not (ha : PE X a (TE' X.K ix f)) : PE X (.UnaryOp .Not a pos) (TE' X.K ix (eNot f)) :=
  pe_imp (pe_notT (de_pk ha)) fun σ H Q ⟨Fr, FX, G, ρ, r, ρ', R, hf, k⟩ => by
    unfold eNot tV at hf
    obtain ⟨⟨b1, ρ1⟩, h0, hf⟩ := Option.bind_eq_some_iff.mp hf
    cases hf
    obtain ⟨⟨r1, ρ2⟩, h1, h0⟩ := Option.bind_eq_some_iff.mp h0
    obtain ⟨d, h2, h0⟩ := Option.bind_eq_some_iff.mp h0
    obtain ⟨kk, h3, h0⟩ := Option.bind_eq_some_iff.mp h0
    cases h0
    refine ⟨Fr, FX, G, ρ, r1, _, R, h1, fun x G1 H1 s1 R1 v1 => ?_⟩
    exact ⟨_, tru_vd R1.gh (dat_vd R1 v1 h2) h3, k _ G1 H1 s1 R1 (.bl _)⟩
theorem de_one {op} (h : PE X a (TE' X.K ix f)) : PE X (.BoolOp op [a] pos) (TE' X.K ix f) := pe_one h
theorem de_and (ha : PE X a (TE' X.K ix fa)) (hb : PE X (.BoolOp .And (b :: rest) pos) (TE' X.K ix fb)) : PE X (.BoolOp .And (a :: b :: rest) pos) (TE' X.K ix (eAnd fa fb)) :=
  pe_imp (pe_andT (de_pk ha) hb) fun σ H Q ⟨Fr, FX, G, ρ, r, ρ', R, hf, k⟩ => by
    unfold eAnd at hf
    obtain ⟨⟨r1, ρ1⟩, h1, hf⟩ := Option.bind_eq_some_iff.mp hf
    obtain ⟨d, h2, hf⟩ := Option.bind_eq_some_iff.mp hf
    obtain ⟨kk, h3, hf⟩ := Option.bind_eq_some_iff.mp hf
    refine ⟨Fr, FX, G, ρ, r1, ρ1, R, h1, fun x G1 H1 s1 R1 v1 => ⟨kk, tru_vd R1.gh (dat_vd R1 v1 h2) h3, ?_⟩⟩
    cases kk with
    | true => exact ⟨Fr, FX, G1, ρ1, r, ρ', R1, hf, fun v G2 H2 s2 R2 => k v G2 H2 (s1.trans s2) R2⟩
    | false => cases hf; exact k x G1 H1 s1 R1 v1
theorem de_or (ha : PE X a (TE' X.K ix fa)) (hb : PE X (.BoolOp .Or (b :: rest) pos) (TE' X.K ix fb)) : PE X (.BoolOp .Or (a :: b :: rest) pos) (TE' X.K ix (eOr fa fb)) :=
  pe_imp (pe_orT (de_pk ha) hb) fun σ H Q ⟨Fr, FX, G, ρ, r, ρ', R, hf, k⟩ => by
    unfold eOr at hf
    obtain ⟨⟨r1, ρ1⟩, h1, hf⟩ := Option.bind_eq_some_iff.mp hf
    obtain ⟨d, h2, hf⟩ := Option.bind_eq_some_iff.mp hf
    obtain ⟨kk, h3, hf⟩ := Option.bind_eq_some_iff.mp hf
    refine ⟨Fr, FX, G, ρ, r1, ρ1, R, h1, fun x G1 H1 s1 R1 v1 => ⟨kk, tru_vd R1.gh (dat_vd R1 v1 h2) h3, ?_⟩⟩
    cases kk with
    | false => exact ⟨Fr, FX, G1, ρ1, r, ρ', R1, hf, fun v G2 H2 s2 R2 => k v G2 H2 (s1.trans s2) R2⟩
    | true => cases hf; exact k x G1 H1 s1 R1 v1
/-! ### chains: a < b < c -/
def eChain (g g' : Dv → Dv → Option Rz) (fa fb fc : M) : M := fun ρ => (pkM fa ρ).bind fun x => (pkM fb x.2).bind fun y => match y.1 with
  | .sh e => (dat y.2 x.1).bind fun d => (g d e).bind fun r => (match r with
    | .sh (.bool true) => (pkM fc y.2).bind fun z => (dat z.2 z.1).bind fun e2 => (g' e e2).bind fun r' => some (r'.rv, z.2)
    | .sh (.bool false) => some (.sh (.bool false), y.2)
    | _ => none)
  | _ => none
theorem chain_ok {g g' : Dv → Dv → Option Rz} {σ : L2.St} {H : Hp} {Q : VK} (h : TE' X.K ix (eChain g g' fa fb fc) σ H Q) :
    tChain (R2d X.K g) (R2d X.K g') (TE' X.K ix (pkM fa)) (TE' X.K ix (pkM fb)) (TE' X.K ix (pkM fc)) σ H Q := by
  obtain ⟨Fr, FX, G, ρ, r, ρ', R, hf, kk⟩ := h
  unfold eChain at hf
  obtain ⟨⟨r1, ρ1⟩, h1, hf⟩ := Option.bind_eq_some_iff.mp hf
  obtain ⟨⟨r2, ρ2⟩, h2, hf⟩ := Option.bind_eq_some_iff.mp hf
  cases r2 with
  | ow o => cases hf
  | al i => cases hf
  | fd i => cases hf
  | sh e =>
  simp only at hf
  obtain ⟨d, h3, hf⟩ := Option.bind_eq_some_iff.mp hf
  obtain ⟨rr, h5, hf⟩ := Option.bind_eq_some_iff.mp hf
  refine ⟨Fr, FX, G, ρ, r1, ρ1, R, h1, fun x G1 H1 s1 R1 v1 => ?_⟩
  refine hold2 (tb := TE' X.K ix (pkM fb)) R1 v1 h2 fun y G2 H2 s2 R2 w1 w2 _ => ?_
  refine ⟨G2, d, e, rr, R2.gh, dat_vd R2 w1 h3, dp_vd R2.gh w2, h5, ?_⟩
  split at hf
  · obtain ⟨⟨r3, ρ3⟩, h6, hf⟩ := Option.bind_eq_some_iff.mp hf
    obtain ⟨e2, h8, hf⟩ := Option.bind_eq_some_iff.mp hf
    obtain ⟨r', h9, hf⟩ := Option.bind_eq_some_iff.mp hf
    cases hf
    refine res_ok R2 fun v G3 H3 s3 R3 v3 => ?_
    have v3' : Dp X.K G3 v (.bool true) := v3
    cases v3'
    refine ⟨true, rfl, ?_⟩
    rw [if_pos rfl]
    refine ⟨Fr, FX, G3, ρ2, r3, _, R3, h6, fun z G4 H4 s4 R4 u2 => ?_⟩
    exact ⟨G4, e, e2, r', R4.gh, dp_vd R4.gh (dp_mono (s3.trans s4) _ _ w2), dat_vd R4 u2 h8, h9, res_ok R4 fun v G' H' s5 R5 v5 => kk v G' H' ((((s1.trans s2).trans s3).trans s4).trans s5) R5 v5⟩
  · cases hf
    refine res_ok R2 fun v G3 H3 s3 R3 v3 => ?_
    have v3' : Dp X.K G3 v (.bool false) := v3
    cases v3'
    refine ⟨false, rfl, ?_⟩
    rw [if_neg Bool.false_ne_true]
    exact kk _ G3 H3 ((s1.trans s2).trans s3) R3 (.bl false)
  · cases hf
theorem de_chain {op op' : CmpOp} {g g' : Dv → Dv → Option Rz} (ho : OpD X (compareOp op) g) (ho' : OpD X (compareOp op') g') (ha : PE X a (TE' X.K ix fa)) (hb : PE X b (TE' X.K ix fb)) (hc : PE X c (TE' X.K ix fc))
    (hm : lastMarks [op, op'] [b, c] = false := by with_unfolding_all rfl) : PE X (.Compare a [op, op'] [b, c] pos) (TE' X.K ix (eChain g g' fa fb fc)) :=
  pe_imp (pe_chain ho ho' (de_pk ha) (de_pk hb) (de_pk hc) hm) fun _ _ _ h => chain_ok h
theorem dt_chain {op op' : CmpOp} {g g' : Dv → Dv → Option Rz} (ho : OpD X (compareOp op) g) (ho' : OpD X (compareOp op') g') (ha : PE X a (TE' X.K ix fa)) (hb : PE X b (TE' X.K ix fb)) (hc : PE X c (TE' X.K ix fc))
    (hm : lastMarks [op, op'] [b, c] = false := by with_unfolding_all rfl) : PT X (.Compare a [op, op'] [b, c] pos) (TT' X.K ix (tB (eChain g g' fa fb fc))) :=
  pt_imp (pt_chain ho ho' (de_pk ha) (de_pk hb) (de_pk hc) hm) fun _ _ _ h => chain_ok (tb_ok h)
end
end DL

set_option Elab.async false
set_option linter.all false
set_option autoImplicit false
set_option maxRecDepth 100000
set_option maxHeartbeats 1000000
namespace DL
open PySem PySem.Spec PyProof.Rows L2

/-! ### calls of built-ins by data -/
def dats (ρ : Rho) : List Rv → Option (List Dv)
  | [] => some []
  | r :: rs => (dat ρ r).bind fun d => (dats ρ rs).bind fun ds => some (d :: ds)
def eCall (g : List Dv → Option Rz) (fa : MA) : M := fun ρ => (fa ρ).bind fun x => (dats x.2 x.1).bind fun ds => (g ds).bind fun r => some (r.rv, x.2)
section
variable {X : Cx} {ix : List Nat} {e a b c : Expr} {es : List Expr} {f fa fb fc : M} {ga : MA} {pos p : Pos}
theorem dats_vd {K : PySem.W.Frag} {Fr G H : Hp} {FX : Nat → Option V} {ρ : Rho} {σ : L2.St} (R : RS K ix Fr FX G ρ σ H) : ∀ {rs : List Rv} {ds : List Dv} {vs : List V}, VOks K Fr G H ρ σ rs vs → dats ρ rs = some ds → VDs K G H ds vs
  | [], _, [], _, h => by cases h; exact .nil
  | [], _, _ :: _, h, _ => False.elim h
  | _ :: _, _, [], h, _ => False.elim h
  | r :: rs, _, v :: vs, ⟨h1, _, h3⟩, h => by
    obtain ⟨d, h4, h⟩ := Option.bind_eq_some_iff.mp h
    obtain ⟨ds, h5, h⟩ := Option.bind_eq_some_iff.mp h
    cases h
    exact .cons (dat_vd R h1 h4) (dats_vd R h3 h5)
theorem call_ok {g : List Dv → Option Rz} {σ : L2.St} {H : Hp} {Q : VK} (h : TE' X.K ix (eCall g ga) σ H Q) : tCB (RCd X.K g) (TA' X.K ix ga) σ H Q := by
  obtain ⟨Fr, FX, G, ρ, r, ρ', R, hf, k⟩ := h
  unfold eCall at hf
  obtain ⟨⟨rs, ρ1⟩, h1, hf⟩ := Option.bind_eq_some_iff.mp hf
  obtain ⟨ds, h2, hf⟩ := Option.bind_eq_some_iff.mp hf
  obtain ⟨rr, h3, hf⟩ := Option.bind_eq_some_iff.mp hf
  cases hf
  refine ⟨Fr, FX, G, ρ, rs, _, R, h1, fun vs G1 H1 s1 R1 v1 => ?_⟩
  exact ⟨G1, ds, rr, R1.gh, dats_vd R1 v1 h2, h3, res_ok R1 fun v G' H' s2 R2 v2 => k v G' H' (s1.trans s2) R2 v2⟩
theorem de_callB {id : String} {x : Str} {g : List Dv → Option Rz} (hc : CallD X (.builtin id) g) (hg : Gl X x) (hm : X.mg x = none) (hv : bootBuiltins x = some (.builtin id)) (ha : PA X (e :: es) (TA' X.K ix ga)) (hn : x ≠ "__name__" := by decide) (hdb : (x == ("__debug__" : Str)) = false := by decide)
    (he : starEach (e :: es) X.env = (false, eval e X.env) :: starEach es X.env := by rfl) (hpl : (backTo pos (starEach es X.env)).any (·.1) = false := by rfl) : PE X (.Call (.Name x p) (e :: es) [] pos) (TE' X.K ix (eCall g ga)) :=
  pe_imp (pe_callB hc hg hm hv ha hn hdb he hpl) fun _ _ _ h => call_ok h
theorem de_callTy {T : String} {x : Str} {g : List Dv → Option Rz} (hc : CallD X (.type T) g) (hg : Gl X x) (hm : X.mg x = none) (hv : bootBuiltins x = some (.type T)) (ha : PA X (e :: es) (TA' X.K ix ga)) (hn : x ≠ "__name__" := by decide) (hdb : (x == ("__debug__" : Str)) = false := by decide)
    (he : starEach (e :: es) X.env = (false, eval e X.env) :: starEach es X.env := by rfl) (hpl : (backTo pos (starEach es X.env)).any (·.1) = false := by rfl) : PE X (.Call (.Name x p) (e :: es) [] pos) (TE' X.K ix (eCall g ga)) :=
  pe_imp (pe_callTy hc hg hm hv ha hn hdb he hpl) fun _ _ _ h => call_ok h
theorem vds1 {K : PySem.W.Frag} {G H : Hp} {d : Dv} {xs : List V} (h : VDs K G H [d] xs) : ∃ v, xs = [v] ∧ VD K G H d v := by
  cases h with | cons h1 h2 => cases h2; exact ⟨_, rfl, h1⟩
theorem vds2 {K : PySem.W.Frag} {G H : Hp} {d d' : Dv} {xs : List V} (h : VDs K G H [d, d'] xs) : ∃ v v', xs = [v, v'] ∧ VD K G H d v ∧ VD K G H d' v' := by
  cases h with | cons h1 h2 => cases h2 with | cons h3 h4 => cases h4; exact ⟨_, _, rfl, h1, h3⟩
/-! abs, int, len, min, max of two -/
def absG : List Dv → Option Rz
  | [.int i] => some (.sh (.int (if i < 0 then -i else i)))
  | _ => none
def intG : List Dv → Option Rz
  | [.int i] => some (.sh (.int i))
  | [.bool k] => some (.sh (.int (if k then 1 else 0)))
  | _ => none
def lenG : List Dv → Option Rz
  | [.list ds] => some (.sh (.int ds.length))
  | [.tuple ds] => some (.sh (.int ds.length))
  | [.str z] => if z.length ≤ sizeLine then some (.sh (.int z.length)) else none
  | [.dict ds] => if plD ds = true then some (.sh (.int ds.length)) else none
  | _ => none
def max2G : List Dv → Option Rz
  | [.int i, .int j] => some (.sh (.int (if j > i then j else i)))
  | _ => none
def min2G : List Dv → Option Rz
  | [.int i, .int j] => some (.sh (.int (if j < i then j else i)))
  | _ => none
def tupleG : List Dv → Option Rz
  | [.list ds] => some (.sh (.tuple ds))
  | [.tuple ds] => some (.sh (.tuple ds))
  | _ => none
def listG : List Dv → Option Rz
  | [.list ds] => some (.ow (.lst ds))
  | [.tuple ds] => some (.ow (.lst ds))
  | _ => none
theorem abs_d : CallD X (.builtin "abs") absG := by
  intro pins s σ H xs us Q I r h
  obtain ⟨G, ds, z, gh, vd, hz, q⟩ := h
  unfold absG at hz
  split at hz
  · cases hz
    obtain ⟨v, rfl, h1⟩ := vds1 vd
    rw [vd_int h1] at r
    exact call_abs pins s σ H _ us Q I r ⟨_, rfl, res_int q⟩
  · cases hz
theorem int_d : CallD X (.type "int") intG := by
  intro pins s σ H xs us Q I r h
  obtain ⟨G, ds, z, gh, vd, hz, q⟩ := h
  unfold intG at hz
  split at hz
  · cases hz
    obtain ⟨v, rfl, h1⟩ := vds1 vd
    rw [vd_int h1] at r
    exact call_int1 pins s σ H _ us Q I r (.inl ⟨_, rfl, res_int q⟩)
  · cases hz
    obtain ⟨v, rfl, h1⟩ := vds1 vd
    rw [vd_bool h1] at r
    exact call_int1 pins s σ H _ us Q I r (.inr ⟨_, rfl, res_int q⟩)
  · cases hz
theorem dkv_length {K : PySem.W.Frag} {G : Hp} : ∀ {ks : List (Key × V)} {kvs : List (Dv × Dv)}, DKV K G ks kvs → ks.length = kvs.length
  | _, _, .nil => rfl
  | _, _, .cons _ t => by simp [dkv_length t]
theorem len_d : CallD X (.builtin "len") lenG := by
  intro pins s σ H xs us Q I r h
  obtain ⟨G, ds, z, gh, vd, hz, q⟩ := h
  unfold lenG at hz
  split at hz
  · cases hz
    obtain ⟨v, rfl, h1⟩ := vds1 vd
    obtain ⟨a, vs, rfl, h2, p1⟩ := vd_list h1
    have l1 := dpAll_length p1
    rw [← l1] at q
    exact call_len_seq pins s σ H _ us Q I r ⟨a, vs, rfl, .inl h2, res_int q⟩
  · cases hz
    obtain ⟨v, rfl, h1⟩ := vds1 vd
    obtain ⟨a, vs, rfl, _, h2, p1⟩ := vd_tup gh h1
    have l1 := dpAll_length p1
    rw [← l1] at q
    exact call_len_seq pins s σ H _ us Q I r ⟨a, vs, rfl, .inr h2, res_int q⟩
  · split at hz
    · rename_i hc
      cases hz
      obtain ⟨v, rfl, h1⟩ := vds1 vd
      rw [vd_str h1] at r
      exact call_len_str pins s σ H _ us Q I r ⟨_, rfl, hc, res_int q⟩
    · cases hz
  · split at hz
    · rename_i hp
      cases hz
      obtain ⟨v, rfl, h1⟩ := vds1 vd
      obtain ⟨a, ks, rfl, h2, p1⟩ := vd_dk h1 hp
      rw [← dkv_length p1] at q
      rw [Vals.ref1 r]
      exact d_len I h2 fun t s' I' => ⟨.int ks.length, H, I', ⟨t, rfl⟩, res_int q⟩
    · cases hz
  · cases hz
theorem max2_d (hc : X.calm = true) : CallD X (.builtin "max") max2G := by
  intro pins s σ H xs us Q I r h
  obtain ⟨G, ds, z, gh, vd, hz, q⟩ := h
  unfold max2G at hz
  split at hz
  · cases hz
    obtain ⟨v, v', rfl, h1, h2⟩ := vds2 vd
    rw [vd_int h1, vd_int h2] at r
    exact call_max2 hc pins s σ H _ us Q I r ⟨_, _, rfl, res_int q⟩
  · cases hz
theorem min2_d (hc : X.calm = true) : CallD X (.builtin "min") min2G := by
  intro pins s σ H xs us Q I r h
  obtain ⟨G, ds, z, gh, vd, hz, q⟩ := h
  unfold min2G at hz
  split at hz
  · cases hz
    obtain ⟨v, v', rfl, h1, h2⟩ := vds2 vd
    rw [vd_int h1, vd_int h2] at r
    exact call_min2 hc pins s σ H _ us Q I r ⟨_, _, rfl, res_int q⟩
  · cases hz
theorem tuple_d : CallD X (.type "tuple") tupleG := by
  intro pins s σ H xs us Q I r h
  obtain ⟨G, ds, z, gh, vd, hz, q⟩ := h
  unfold tupleG at hz
  split at hz
  · cases hz
    obtain ⟨v, rfl, h1⟩ := vds1 vd
    obtain ⟨a, vs, rfl, h2, p1⟩ := vd_list h1
    exact call_tuple_of pins s σ H _ us Q I r ⟨a, vs, rfl, .inl ⟨h2, fun l hl => res_tup q (g_none gh hl) hl p1⟩⟩
  · cases hz
    obtain ⟨v, rfl, h1⟩ := vds1 vd
    obtain ⟨a, vs, rfl, g1, h2, p1⟩ := vd_tup gh h1
    exact call_tuple_of pins s σ H _ us Q I r ⟨a, vs, rfl, .inr ⟨h2, res_val q (.tup g1 p1)⟩⟩
  · cases hz
theorem list_d : CallD X (.type "list") listG := by
  intro pins s σ H xs us Q I r h
  obtain ⟨G, ds, z, gh, vd, hz, q⟩ := h
  unfold listG at hz
  split at hz
  · cases hz
    obtain ⟨v, rfl, h1⟩ := vds1 vd
    obtain ⟨a, vs, rfl, h2, p1⟩ := vd_list h1
    exact call_list_of pins s σ H _ us Q I r ⟨a, vs, rfl, .inl h2, fun l hl => res_lst q hl p1⟩
  · cases hz
    obtain ⟨v, rfl, h1⟩ := vds1 vd
    obtain ⟨a, vs, rfl, g1, h2, p1⟩ := vd_tup gh h1
    exact call_list_of pins s σ H _ us Q I r ⟨a, vs, rfl, .inr h2, fun l hl => res_lst q hl p1⟩
  · cases hz
/-! min, max of data -/
def okAl (ds : List Dv) : Bool := (ds.all fun d => ds.all fun e => PySem.W.alike d e) && (ds.all fun d => !isNone d) && decide (PyData.depthAll ds ≤ 64)
theorem okAl_all {ds : List Dv} (h : okAl ds = true) : PySem.W.AlikeAll ds ∧ PyData.depthAll ds ≤ 64 := by
  unfold okAl at h
  simp only [Bool.and_eq_true, List.all_eq_true, decide_eq_true_eq] at h
  obtain ⟨⟨h1, h2⟩, h3⟩ := h
  refine ⟨⟨fun x hx y hy => h1 x hx y hy, fun x hx e => ?_⟩, h3⟩
  have := h2 x hx
  subst e
  cases this
def minG : List Dv → Option Rz
  | [.list (x :: xs)] => if okAl (x :: xs) = true then some (.sh (PySem.W.minD x xs)) else none
  | [.tuple (x :: xs)] => if okAl (x :: xs) = true then some (.sh (PySem.W.minD x xs)) else none
  | _ => none
def maxG : List Dv → Option Rz
  | [.list (x :: xs)] => if okAl (x :: xs) = true then some (.sh (PySem.W.maxD x xs)) else none
  | [.tuple (x :: xs)] => if okAl (x :: xs) = true then some (.sh (PySem.W.maxD x xs)) else none
  | _ => none
section
open PySem.W
variable {prog : Program} {w : World} {A : Around} {E : Value → Shared → Prop} {s : Shared}
theorem best_at {f : PyData → PyData → Bool} {x : PyData} {xs : List PyData} {n : Nat} (hn : n = xs.length + 1) :
    (x :: xs)[argBest (fun i j => f ((x :: xs).getD i PyData.none) ((x :: xs).getD j PyData.none)) (n - 1)]? = some (xs.foldl (fun a y => if f y a then y else a) x) := by
  subst hn
  obtain ⟨h1, h2⟩ := argBest_fold f PyData.none x xs xs.length (Nat.le_refl _)
  rw [List.take_length] at h2
  rw [← h2, Nat.add_sub_cancel]
  have hl : argBest (fun i j => f ((x :: xs).getD i PyData.none) ((x :: xs).getD j PyData.none)) xs.length < (x :: xs).length := by
    rw [List.length_cons]; omega
  rw [List.getD_eq_getElem?_getD, List.getElem?_eq_getElem hl]
  rfl
/-- l walks the values vs, one after the other -/
def Walker (prog : Program) (w : World) (A : Around) (s : Shared) (l : Addr) (vs : Array Value) : Prop := ∀ {Q E : Value → Shared → Prop},
  (∀ (s₂ : Shared) (o : Obj) (St : Nat → Shared → Prop), s₂ = { s with heap := s.heap.push o } → WalksS prog w A s.heap.objs.size [s.heap.objs.size, l] [s.heap.objs.size] (fun a b => b = a) vs.size (fun i v => vs[i]? = some v) St → St 0 s₂ →
    (∀ b ∈ [s.heap.objs.size, l], b < s₂.heap.objs.size) → (∀ b o, s.heap.get? b = some o → b ∉ [s.heap.objs.size]) → (∀ b o, s.heap.get? b = some o → s₂.heap.get? b = some o) → Q (.ref s.heap.objs.size) s₂) →
  wpAny (model prog w) A (pyIter (.ref l)) Q E s
theorem rows_list {l : Addr} {vs : Array Value} (hh : A.handled = none) (hl : s.heap.IsList l vs) : Walker prog w A s l vs := fun k => iter_listW hh hl fun s₂ e W st a b c => k s₂ _ _ e W st a b c
theorem rows_tuple {l : Addr} {vs : Array Value} (hh : A.handled = none) (hl : s.heap.IsTuple l vs) : Walker prog w A s l vs := fun k => iter_tupleW hh hl fun s₂ e W st a b c => k s₂ _ _ e W st a b c
/-- the call of id picks what m names -/
def Picks (prog : Program) (w : World) (A : Around) (E : Value → Shared → Prop) (id : String) (m : PyData → List PyData → PyData) : Prop :=
  ∀ {s : Shared} {l : Addr} {vs : Array Value} {x : PyData} {xs : List PyData} {as : List Addr} {Q : Value → Shared → Prop}, Walker prog w A.in1 s l vs → ReadsAll s.heap vs.toList (x :: xs) as → AlikeAll (x :: xs) → A.units + 1 + PyData.depthAll (x :: xs) < cLine →
    (∀ (i : Nat) v h' tk, vs[i]? = some v → (x :: xs)[i]? = some (m x xs) → (∀ b o, s.heap.get? b = some o → h'.get? b = some o) → Q v { s with heap := h', toks := tk }) → wpAny (model prog w) A (call (.builtin id) [.ref l]) Q E s
theorem min_picks : Picks prog w A E "min" minD := fun {s l vs x xs as Q} rw_ hr ha hu k => call_min_walkH (rw_ fun s₂ o St e W st lo nw kp => ⟨_, _, _, _, vs.size, _, _, _, _, rfl, W, st, lo, (by rw [readsAll_len hr]; exact Nat.succ_pos _), nw, kp, cmpIn_lt (A := A.in1) hr ha hu, fun v s' hP m => by
  obtain ⟨h', tk, rfl, old⟩ := moved_old e rfl m
  exact k _ v h' tk hP (best_at (readsAll_len hr)) old⟩)
theorem max_picks : Picks prog w A E "max" maxD := fun {s l vs x xs as Q} rw_ hr ha hu k => call_max_walkH (rw_ fun s₂ o St e W st lo nw kp => ⟨_, _, _, _, vs.size, _, _, _, _, rfl, W, st, lo, (by rw [readsAll_len hr]; exact Nat.succ_pos _), nw, kp, cmpIn_gt (A := A.in1) hr ha hu, fun v s' hP m => by
  obtain ⟨h', tk, rfl, old⟩ := moved_old e rfl m
  exact k _ v h' tk hP (best_at (f := fun y a => dataLt a y) (readsAll_len hr)) old⟩)
end
theorem vals_get' {xs : List V} {us : List Value} (h : Vals xs us) : ∀ {i : Nat} {u : Value}, us[i]? = some u → ∃ x, xs[i]? = some x ∧ RelV x u := by
  induction h with
  | nil => intro i u e; simp at e
  | @cons a b l l' r t ih =>
    intro i u e
    cases i with
    | zero => simp at e; subst e; exact ⟨_, rfl, r⟩
    | succ i =>
      simp at e
      obtain ⟨x, h1, h2⟩ := ih e
      exact ⟨x, by simpa using h1, h2⟩
/-- one argument, a list or a tuple: the call gives one of its items -/
theorem pick_d {id : String} {g : List Dv → Option Rz} {m : PyData → List PyData → PyData} (hc : X.calm = true) (hh : X.A.handled = none) (hu : X.A.units + 200 < cLine)
    (gi : ∀ ds z, g ds = some z → ∃ x xs, (ds = [.list (x :: xs)] ∨ ds = [.tuple (x :: xs)]) ∧ okAl (x :: xs) = true ∧ z = .sh (m x xs))
    (hp : Picks X.prog X.w X.A X.xe id m) :
    CallD X (.builtin id) g := by
  intro pins s σ H xs us Q I r h
  obtain ⟨G, ds, z, gh, vd, hz, q⟩ := h
  obtain ⟨y, ys, hd, hok, rfl⟩ := gi ds z hz
  obtain ⟨hal, hdep⟩ := okAl_all hok
  have fin : ∀ {vs : List V} {its : List Value} {i : Nat} {v : Value} {h' : Heap} {tk : Nat}, DpAll X.K G vs (y :: ys) → Vals vs its → its[i]? = some v → (y :: ys)[i]? = some (m y ys) → (∀ b o, s.heap.get? b = some o → h'.get? b = some o) → EP X pins σ Q v { s with heap := h', toks := tk } := by
    intro vs its i v h' tk p1 rv hv hi hk
    obtain ⟨w1, hw1, rw1⟩ := vals_get' rv hv
    obtain ⟨w2, hw2, d2⟩ := dpAll_get p1 hi
    rw [hw1] at hw2
    cases hw2
    exact ⟨w1, H, I.kept (t' := tk) hk, rw1, res_val q d2⟩
  rcases hd with rfl | rfl
  · obtain ⟨v, rfl, h1⟩ := vds1 vd
    obtain ⟨a, vs, rfl, h2, p1⟩ := vd_list h1
    rw [Vals.ref1 r]
    obtain ⟨its, rv, pl, hz'⟩ := I.list h2
    obtain ⟨as, hr⟩ := Dp.readsAll I (y :: ys) vs its (dpAll_mono (sub_le gh) _ _ p1) rv
    exact hp (rows_list (by simp [hh]) pl.isList) hr hal (by omega) fun i v h' tk hv hi hk => fin p1 rv (by simpa using hv) hi hk
  · obtain ⟨v, rfl, h1⟩ := vds1 vd
    obtain ⟨a, vs, rfl, _, h2, p1⟩ := vd_tup gh h1
    rw [Vals.ref1 r]
    obtain ⟨its, rv, pl, hz'⟩ := I.tuple h2
    obtain ⟨as, hr⟩ := Dp.readsAll I (y :: ys) vs its (dpAll_mono (sub_le gh) _ _ p1) rv
    exact hp (rows_tuple (by simp [hh]) pl) hr hal (by omega) fun i v h' tk hv hi hk => fin p1 rv (by simpa using hv) hi hk
theorem min_d (hc : X.calm = true) (hh : X.A.handled = none) (hu : X.A.units + 200 < cLine) : CallD X (.builtin "min") minG :=
  pick_d hc hh hu (fun ds z h => by
    unfold minG at h
    split at h <;> first
      | (split at h <;> first | (rename_i hk; cases h; first | exact ⟨_, _, .inl rfl, hk, rfl⟩ | exact ⟨_, _, .inr rfl, hk, rfl⟩) | cases h)
      | cases h) min_picks
theorem max_d (hc : X.calm = true) (hh : X.A.handled = none) (hu : X.A.units + 200 < cLine) : CallD X (.builtin "max") maxG :=
  pick_d hc hh hu (fun ds z h => by
    unfold maxG at h
    split at h <;> first
      | (split at h <;> first | (rename_i hk; cases h; first | exact ⟨_, _, .inl rfl, hk, rfl⟩ | exact ⟨_, _, .inr rfl, hk, rfl⟩) | cases h)
      | cases h) max_picks
/-! sum of ints -/
def intsOf : List Dv → Option (List Int)
  | [] => some []
  | .int i :: ds => (intsOf ds).map (i :: ·)
  | _ :: _ => none
theorem intsOf_eq : ∀ {ds : List Dv} {ns : List Int}, intsOf ds = some ns → ds = ns.map PyData.int
  | [], _, h => by cases h; rfl
  | .int i :: ds, _, h => by
    obtain ⟨ms, hm, rfl⟩ := Option.map_eq_some_iff.mp h
    rw [intsOf_eq hm]
    rfl
  | .none :: _, _, h => by cases h
  | .bool _ :: _, _, h => by cases h
  | .str _ :: _, _, h => by cases h
  | .list _ :: _, _, h => by cases h
  | .tuple _ :: _, _, h => by cases h
  | .dict _ :: _, _, h => by cases h
theorem intsOf_map : ∀ ns : List Int, intsOf (ns.map PyData.int) = some ns
  | [] => rfl
  | n :: ns => by simp [intsOf, intsOf_map ns]
def sumG : List Dv → Option Rz
  | [.list ds] => (intsOf ds).map fun ns => .sh (.int ns.sum)
  | [.tuple ds] => (intsOf ds).map fun ns => .sh (.int ns.sum)
  | _ => none
theorem sum_d (hc : X.calm = true) (hh : X.A.handled = none) : CallD X (.builtin "sum") sumG := by
  intro pins s σ H xs us Q I r h
  obtain ⟨G, ds, z, gh, vd, hz, q⟩ := h
  unfold sumG at hz
  split at hz
  · obtain ⟨ns, hn, rfl⟩ := Option.map_eq_some_iff.mp hz
    obtain ⟨v, rfl, h1⟩ := vds1 vd
    rw [intsOf_eq hn] at h1
    obtain ⟨a, vs, rfl, h2, p1⟩ := vd_list h1
    rw [ints_of_dpAll p1] at h2
    exact cr_sum hc pins s σ H _ us Q I r ⟨a, ns, rfl, h2, res_int q⟩
  · obtain ⟨ns, hn, rfl⟩ := Option.map_eq_some_iff.mp hz
    obtain ⟨v, rfl, h1⟩ := vds1 vd
    rw [intsOf_eq hn] at h1
    obtain ⟨a, vs, rfl, _, h2, p1⟩ := vd_tup gh h1
    rw [ints_of_dpAll p1] at h2
    rw [Vals.ref1 r]
    obtain ⟨its, rv, pl, hz'⟩ := I.tuple h2
    have hi : IntsAre its ns := rv.ints
    obtain ⟨ys, e⟩ := hi.allInts.items
    have hnn : numsOf (intItems ys).toList = ns := by rw [← e]; exact hi.numsOf
    rw [nums_intItems] at hnn
    have hl : s.heap.IsTuple a its.toArray := pl
    rw [e] at hl
    refine PySem.W.ktm_sumG hh hl fun h' tk t' hk => ?_
    rw [preSum_eq, List.take_of_length_le (by simp), hnn]
    exact ⟨.int ns.sum, H, I.kept (t' := tk) hk, ⟨t', rfl⟩, res_int q⟩
  · cases hz
end
end DL

set_option Elab.async false
set_option linter.all false
set_option autoImplicit false
set_option maxRecDepth 100000
set_option maxHeartbeats 1000000
namespace DL
open PySem PySem.Spec PyProof.Rows L2

/-! ### what a def does with its arguments' slots -/
abbrev FnS := List Sl → Option (Rv × List Sl)
def spD (K : PySem.W.Frag) (np : Nat) (F : FnS) : Sp := fun vs H Q _ => ∃ Fr G as r as', vs.length = np ∧ RS K [] Fr (fun _ => none) G as (vs.map some) H ∧ F as = some (r, as') ∧
  ∀ v G' H', Sub G G' → RS K [] Fr (fun _ => none) G' as' (vs.map some) H' → VOk K Fr G' H' as' (vs.map some) r v → Q v H'
def toSl (ρ : Rho) : Rv → Option Sl
  | .sh d => some (.sh d)
  | .ow o => some (.ow o)
  | .fd o => some (.fd o)
  | .al i => match ρ[i]? with
    | some (.ow o) => some (.ow o)
    | _ => none
def toSls (ρ : Rho) : List Rv → Option (List Sl)
  | [] => some []
  | r :: rs => (toSl ρ r).bind fun s => (toSls ρ rs).bind fun ss => some (s :: ss)
def wback : Rho → List Rv → List Sl → Rho
  | ρ, .al i :: rs, s :: as => wback (ρ.set i s) rs as
  | ρ, _ :: rs, _ :: as => wback ρ rs as
  | ρ, _, _ => ρ
def als : List Rv → List Nat
  | [] => []
  | .al i :: rs => i :: als rs
  | .sh _ :: rs => als rs
  | .ow _ :: rs => als rs
  | .fd _ :: rs => als rs
def alsOk (rs : List Rv) : Bool := decide (als rs).Nodup
def eFn (F : FnS) (ga : MA) : M := fun ρ => (ga ρ).bind fun x => (toSls x.2 x.1).bind fun as => if alsOk x.1 = true then (F as).bind fun y => (match y.1 with
  | .al _ => none
  | r => some (r, wback x.2 x.1 y.2)) else none

theorem toSls_get {ρ : Rho} : ∀ {rs : List Rv} {as : List Sl}, toSls ρ rs = some as → ∀ {j : Nat} {s : Sl}, as[j]? = some s → ∃ r, rs[j]? = some r ∧ toSl ρ r = some s
  | [], _, h, j, s, e => by cases h; simp at e
  | r :: rs, _, h, j, s, e => by
    obtain ⟨s0, h1, h⟩ := Option.bind_eq_some_iff.mp h
    obtain ⟨ss, h2, h⟩ := Option.bind_eq_some_iff.mp h
    cases h
    cases j with
    | zero => simp at e; subst e; exact ⟨r, rfl, h1⟩
    | succ j =>
      simp at e
      obtain ⟨r', h3, h4⟩ := toSls_get h2 e
      exact ⟨r', by simpa using h3, h4⟩
theorem toSls_of {ρ : Rho} : ∀ {rs : List Rv} {as : List Sl}, toSls ρ rs = some as → ∀ {j : Nat} {r : Rv}, rs[j]? = some r → ∃ s, as[j]? = some s ∧ toSl ρ r = some s
  | [], _, h, j, s, e => by simp at e
  | r :: rs, _, h, j, s, e => by
    obtain ⟨s0, h1, h⟩ := Option.bind_eq_some_iff.mp h
    obtain ⟨ss, h2, h⟩ := Option.bind_eq_some_iff.mp h
    cases h
    cases j with
    | zero => simp at e; subst e; exact ⟨s0, rfl, h1⟩
    | succ j =>
      simp at e
      obtain ⟨r', h3, h4⟩ := toSls_of h2 e
      exact ⟨r', by simpa using h3, h4⟩
theorem toSls_length {ρ : Rho} : ∀ {rs : List Rv} {as : List Sl}, toSls ρ rs = some as → as.length = rs.length
  | [], _, h => by cases h; rfl
  | r :: rs, _, h => by
    obtain ⟨s0, h1, h⟩ := Option.bind_eq_some_iff.mp h
    obtain ⟨ss, h2, h⟩ := Option.bind_eq_some_iff.mp h
    cases h
    simp [toSls_length h2]
section
variable {K : PySem.W.Frag} {ix : List Nat} {Fr G H : Hp} {FX : Nat → Option V} {ρ : Rho} {σ : L2.St}
theorem voks_length : ∀ {rs : List Rv} {vs : List V}, VOks K Fr G H ρ σ rs vs → vs.length = rs.length
  | [], [], _ => rfl
  | [], _ :: _, h => False.elim h
  | _ :: _, [], h => False.elim h
  | _ :: rs, _ :: vs, ⟨_, _, h⟩ => by simp [voks_length h]
theorem voks_get : ∀ {rs : List Rv} {vs : List V}, VOks K Fr G H ρ σ rs vs → ∀ {j : Nat} {r : Rv}, rs[j]? = some r → ∃ v, vs[j]? = some v ∧ VOk K Fr G H ρ σ r v
  | [], [], _, j, r, e => by simp at e
  | [], _ :: _, h, _, _, _ => False.elim h
  | _ :: _, [], h, _, _, _ => False.elim h
  | r0 :: rs, v :: vs, ⟨h1, _, h⟩, j, r, e => by
    cases j with
    | zero => simp at e; subst e; exact ⟨v, rfl, h1⟩
    | succ j =>
      simp at e
      obtain ⟨w, h2, h3⟩ := voks_get h e
      exact ⟨w, by simpa using h2, h3⟩
theorem voks_apart : ∀ {rs : List Rv} {vs : List V}, VOks K Fr G H ρ σ rs vs → ∀ {i j : Nat} {o o' : Ob} {a : Addr}, i < j → rs[i]? = some (.ow o) → rs[j]? = some (.ow o') → vs[i]? = some (.ref a) → vs[j]? ≠ some (.ref a)
  | [], _, _, i, j, o, o', a, l, e, _, _ => by simp at e
  | _ :: _, [], h, _, _, _, _, _, _, _, _, _ => False.elim h
  | r0 :: rs, v :: vs, ⟨_, h2, h⟩, i, j, o, o', a, l, e1, e2, e3 => by
    cases j with
    | zero => omega
    | succ j =>
      simp at e2
      cases i with
      | zero =>
        simp at e1 e3
        simpa using h2 o a e1 e3 j o' e2
      | succ i =>
        simp at e1 e3
        simpa using voks_apart h (by omega) e1 e2 e3
end
theorem wback_length : ∀ (rs : List Rv) (as : List Sl) (ρ : Rho), (wback ρ rs as).length = ρ.length
  | .al i :: rs, s :: as, ρ => by unfold wback; rw [wback_length rs as]; simp
  | .sh _ :: rs, s :: as, ρ => by unfold wback; exact wback_length rs as ρ
  | .ow _ :: rs, s :: as, ρ => by unfold wback; exact wback_length rs as ρ
  | .fd _ :: rs, s :: as, ρ => by unfold wback; exact wback_length rs as ρ
  | [], _, ρ => by unfold wback; rfl
  | .al _ :: _, [], ρ => rfl
  | .sh _ :: _, [], ρ => rfl
  | .ow _ :: _, [], ρ => rfl
  | .fd _ :: _, [], ρ => rfl
theorem wback_get : ∀ (rs : List Rv) (as : List Sl) (ρ : Rho) (k : Nat) (s : Sl), as.length = rs.length → (als rs).Nodup → (wback ρ rs as)[k]? = some s →
    (∃ j : Nat, rs[j]? = some (Rv.al k) ∧ as[j]? = some s) ∨ ((∀ j : Nat, rs[j]? ≠ some (Rv.al k)) ∧ ρ[k]? = some s)
  | [], [], ρ, k, s, _, _, e => .inr ⟨fun j => by simp, by unfold wback at e; exact e⟩
  | r :: rs, [], ρ, k, s, h, _, _ => by simp at h
  | [], a :: as, ρ, k, s, h, _, _ => by simp at h
  | r :: rs, a :: as, ρ, k, s, h, nd, e => by
    have hl : as.length = rs.length := by simpa using h
    cases r with
    | sh d =>
      have e' : (wback ρ rs as)[k]? = some s := e
      rcases wback_get rs as ρ k s hl nd e' with ⟨j, h1, h2⟩ | ⟨h1, h2⟩
      · exact .inl ⟨j + 1, by simpa using h1, by simpa using h2⟩
      · refine .inr ⟨fun j => ?_, h2⟩
        cases j with
        | zero => simp
        | succ j => simpa using h1 j
    | ow d =>
      have e' : (wback ρ rs as)[k]? = some s := e
      rcases wback_get rs as ρ k s hl nd e' with ⟨j, h1, h2⟩ | ⟨h1, h2⟩
      · exact .inl ⟨j + 1, by simpa using h1, by simpa using h2⟩
      · refine .inr ⟨fun j => ?_, h2⟩
        cases j with
        | zero => simp
        | succ j => simpa using h1 j
    | fd d =>
      have e' : (wback ρ rs as)[k]? = some s := e
      rcases wback_get rs as ρ k s hl nd e' with ⟨j, h1, h2⟩ | ⟨h1, h2⟩
      · exact .inl ⟨j + 1, by simpa using h1, by simpa using h2⟩
      · refine .inr ⟨fun j => ?_, h2⟩
        cases j with
        | zero => simp
        | succ j => simpa using h1 j
    | al i =>
      have nd' : i ∉ als rs ∧ (als rs).Nodup := List.nodup_cons.mp nd
      have e' : (wback (ρ.set i a) rs as)[k]? = some s := e
      rcases wback_get rs as (ρ.set i a) k s hl nd'.2 e' with ⟨j, h1, h2⟩ | ⟨h1, h2⟩
      · exact .inl ⟨j + 1, by simpa using h1, by simpa using h2⟩
      · by_cases hk : i = k
        · subst hk
          have hlt : i < ρ.length := by
            have := (List.getElem?_eq_some_iff.mp h2).1
            simpa using this
          rw [List.getElem?_set_self hlt] at h2
          exact .inl ⟨0, rfl, by simpa using h2⟩
        · rw [List.getElem?_set_ne hk] at h2
          refine .inr ⟨fun j => ?_, h2⟩
          cases j with
          | zero => simp; exact hk
          | succ j => simpa using h1 j
theorem mem_als {k : Nat} : ∀ {rs : List Rv} {j : Nat}, rs[j]? = some (.al k) → k ∈ als rs
  | [], j, e => by simp at e
  | .sh _ :: rs, 0, e => by simp at e
  | .ow _ :: rs, 0, e => by simp at e
  | .fd _ :: rs, 0, e => by simp at e
  | .al i :: rs, 0, e => by simp at e; subst e; exact List.mem_cons_self
  | .sh _ :: rs, j + 1, e => mem_als (rs := rs) (j := j) (by simpa using e)
  | .ow _ :: rs, j + 1, e => mem_als (rs := rs) (j := j) (by simpa using e)
  | .fd _ :: rs, j + 1, e => mem_als (rs := rs) (j := j) (by simpa using e)
  | .al i :: rs, j + 1, e => List.mem_cons_of_mem _ (mem_als (rs := rs) (j := j) (by simpa using e))
theorem al_unique {rs : List Rv} (nd : (als rs).Nodup) : ∀ {i j k : Nat}, rs[i]? = some (.al k) → rs[j]? = some (.al k) → i = j := by
  induction rs with
  | nil => intro i j k e; simp at e
  | cons r rs ih =>
    intro i j k e1 e2
    have ndr : (als rs).Nodup := by
      cases r with
      | sh d => exact nd
      | ow d => exact nd
      | fd d => exact nd
      | al i => exact (List.nodup_cons.mp nd).2
    have nin : r = .al k → ∀ j : Nat, rs[j]? ≠ some (.al k) := fun hr j e => by
      subst hr
      exact (List.nodup_cons.mp nd).1 (mem_als e)
    cases i with
    | zero =>
      cases j with
      | zero => rfl
      | succ j =>
        simp at e1 e2
        exact absurd e2 (nin e1 j)
    | succ i =>
      cases j with
      | zero =>
        simp at e1 e2
        exact absurd e1 (nin e2 i)
      | succ j =>
        simp at e1 e2
        rw [ih ndr e1 e2]

section
variable {X : Cx} {ix : List Nat} {e : Expr} {es : List Expr} {ga : MA} {pos p : Pos}
open Classical in
theorem fn_ok {F : FnS} {np : Nat} {σ : L2.St} {H : Hp} {Q : VK} (hnp : ∀ ρ rs ρ', ga ρ = some (rs, ρ') → rs.length = np) (h : TE' X.K ix (eFn F ga) σ H Q) : tCall (spD X.K np F) [] E0 (TA' X.K ix ga) σ H Q := by
  obtain ⟨Fr, FX, G, ρ, r, ρ', R, hf, k⟩ := h
  unfold eFn at hf
  obtain ⟨⟨rs, ρ1⟩, h1, hf⟩ := Option.bind_eq_some_iff.mp hf
  obtain ⟨as, h2, hf⟩ := Option.bind_eq_some_iff.mp hf
  simp only at hf
  split at hf
  rotate_left
  · cases hf
  rename_i hal
  obtain ⟨⟨r0, as'⟩, h3, hf⟩ := Option.bind_eq_some_iff.mp hf
  have nd : (als rs).Nodup := of_decide_eq_true hal
  have hr : r0 = r ∧ ρ' = wback ρ1 rs as' ∧ ∀ i, r0 ≠ .al i := by
    cases r0 with
    | sh d => cases hf; exact ⟨rfl, rfl, fun i z => nomatch z⟩
    | ow d => cases hf; exact ⟨rfl, rfl, fun i z => nomatch z⟩
    | fd d => cases hf; exact ⟨rfl, rfl, fun i z => nomatch z⟩
    | al i => cases hf
  obtain ⟨rfl, rfl, nal⟩ := hr
  refine ⟨Fr, FX, G, ρ, rs, ρ1, R, h1, fun vs G1 H1 s1 R1 v1 => ?_⟩
  show spD X.K np F (vs ++ []) H1 Q E0
  rw [List.append_nil]
  have lv := voks_length v1
  have la := toSls_length h2
  -- where an owned argument stands
  have own : ∀ {j : Nat} {o : Ob}, as[j]? = some (.ow o) → ∃ a, vs[j]? = some (.ref a) ∧ G1 a = none ∧ Fr a = none ∧ Ct X.K G1 H1 a o ∧ (rs[j]? = some (Rv.ow o) ∨ ∃ i : Nat, rs[j]? = some (Rv.al i) ∧ ρ1[i]? = some (Sl.ow o) ∧ σ[i]? = some (some (V.ref a))) := by
    intro j o e
    obtain ⟨r, er, hs⟩ := toSls_get h2 e
    obtain ⟨v, ev, hv⟩ := voks_get v1 er
    cases r with
    | sh d => cases hs
    | fd d => cases hs
    | ow o' =>
      cases hs
      obtain ⟨a, rfl, g, f, c, _⟩ := hv
      exact ⟨a, ev, g, f, c, .inl er⟩
    | al i =>
      unfold toSl at hs
      simp only at hs
      split at hs
      · rename_i o' ho
        cases hs
        obtain ⟨a, ea, g, f, c⟩ := R1.sl i _ ho
        have hv' : σ[i]? = some (some v) := hv
        rw [ea] at hv'
        cases hv'
        exact ⟨a, ev, g, f, c, .inr ⟨i, er, ho, ea⟩⟩
      · cases hs
  let passed : Addr → Prop := fun a => ∃ (j : Nat) (o : Ob), as[j]? = some (.ow o) ∧ vs[j]? = some (.ref a)
  let Fr' : Hp := fun a => if G1 a ≠ none ∨ passed a then none else H1 a
  have frP : ∀ a, passed a → Fr' a = none := fun a hp => if_pos (.inr hp)
  have frN : ∀ a, G1 a = none → ¬ passed a → Fr' a = H1 a := fun a g np => if_neg (fun z => z.elim (fun y => y g) np)
  have pFr : ∀ a, passed a → Fr a = none := fun a ⟨j, o, e1, e2⟩ => by
    obtain ⟨b, eb, _, f, _⟩ := own e1
    rw [e2] at eb
    cases eb
    exact f
  -- two owned arguments stand apart
  have apart : ∀ (i j : Nat) (a : Addr) (o o' : Ob), i ≠ j → as[i]? = some (.ow o) → as[j]? = some (.ow o') → vs[i]? = some (.ref a) → vs[j]? ≠ some (.ref a) := by
    intro i j a o o' ne e1 e2 e3 e4
    obtain ⟨b, eb, _, _, _, c1⟩ := own e1
    obtain ⟨b', eb', _, _, _, c2⟩ := own e2
    rw [e3] at eb; cases eb
    rw [e4] at eb'; cases eb'
    rcases c1 with c1 | ⟨i1, c1, c1', c1''⟩
    · rcases c2 with c2 | ⟨i2, c2, c2', c2''⟩
      · rcases Nat.lt_or_gt_of_ne ne with l | l
        · exact voks_apart v1 l c1 c2 e3 e4
        · exact voks_apart v1 l c2 c1 e4 e3
      · obtain ⟨v, ev, ⟨q, rfl, _, _, _, hn⟩⟩ := voks_get v1 c1
        rw [e3] at ev; cases ev
        exact hn i2 _ c2' c2''
    · rcases c2 with c2 | ⟨i2, c2, c2', c2''⟩
      · obtain ⟨v, ev, ⟨q, rfl, _, _, _, hn⟩⟩ := voks_get v1 c2
        rw [e4] at ev; cases ev
        exact hn i1 _ c1' c1''
      · by_cases hi : i1 = i2
        · subst hi
          exact ne (al_unique nd c1 c2)
        · exact R1.sep i1 i2 a _ _ hi c1' c2' c1'' c2''
  have getv : ∀ (j : Nat) (v : V), (vs.map some)[j]? = some (some v) ↔ vs[j]? = some v := fun j v => by
    rw [List.getElem?_map]
    cases vs[j]? <;> simp
  have RA : RS X.K [] Fr' (fun _ => none) G1 as (vs.map some) H1 := by
    refine ⟨R1.gh, fun a o e => ?_, fun a n => ?_, by rw [List.length_map, lv, la], fun i s e => ?_, fun i j a o o' ne e1 e2 e3 e4 => ?_, fun i v z => nomatch z⟩
    · by_cases hc : G1 a ≠ none ∨ passed a
      · have : Fr' a = none := if_pos hc
        rw [this] at e; cases e
      · have : Fr' a = H1 a := if_neg hc
        rw [this] at e; exact e
    · by_cases hc : G1 a ≠ none ∨ passed a
      · exact absurd (if_pos hc) n
      · exact Classical.not_not.mp fun z => hc (.inl z)
    · cases s with
      | no => trivial
      | sh d =>
        obtain ⟨r, er, hs⟩ := toSls_get h2 e
        obtain ⟨v, ev, hv⟩ := voks_get v1 er
        cases r with
        | sh d' => cases hs; exact ⟨v, (getv i v).mpr ev, hv⟩
        | ow o' => cases hs
        | fd o' => cases hs
        | al i' =>
          unfold toSl at hs
          simp only at hs
          split at hs <;> cases hs
      | fd d =>
        obtain ⟨r, er, hs⟩ := toSls_get h2 e
        obtain ⟨v, ev, hv⟩ := voks_get v1 er
        cases r with
        | fd d' =>
          cases hs
          obtain ⟨a, rfl, c⟩ := hv
          exact ⟨a, (getv i _).mpr ev, c⟩
        | ow o' => cases hs
        | sh o' => cases hs
        | al i' =>
          unfold toSl at hs
          simp only at hs
          split at hs <;> cases hs
      | ow o =>
        obtain ⟨a, ev, g, f, c, _⟩ := own e
        exact ⟨a, (getv i _).mpr ev, g, frP a ⟨i, o, e, ev⟩, c⟩
    · exact apart i j a o o' ne e1 e2 ((getv i _).mp e3) ((getv j _).mp e4)
  refine ⟨Fr', G1, as, r0, as', by rw [lv]; exact hnp _ _ _ h1, RA, h3, fun v G2 H2 s2 R2 v2 => ?_⟩
  have la' : as'.length = rs.length := by rw [R2.len, List.length_map, lv]
  have keepFr : ∀ a o, Fr a = some o → Fr' a = some o := fun a o e => by
    have g : G1 a = none := R1.gf a (by rw [e]; simp)
    have n : ¬ passed a := fun z => by rw [pFr a z] at e; cases e
    rw [frN a g n]; exact R1.fh a o e
  -- a slot that was not handed over
  have other : ∀ {i : Nat} {o : Ob} {a : Addr}, ρ1[i]? = some (.ow o) → (∀ j : Nat, rs[j]? ≠ some (Rv.al i)) → σ[i]? = some (some (.ref a)) → G1 a = none → Fr' a = H1 a := by
    intro i o a e1 e2 e3 g
    refine frN a g fun ⟨j, o', e4, e5⟩ => ?_
    obtain ⟨b, eb, _, _, _, c⟩ := own e4
    rw [e5] at eb; cases eb
    rcases c with c | ⟨i', c, c', c''⟩
    · obtain ⟨v, ev, ⟨q, rfl, _, _, _, hn⟩⟩ := voks_get v1 c
      rw [e5] at ev; cases ev
      exact hn i _ e1 e3
    · by_cases hi : i' = i
      · subst hi; exact e2 j c
      · exact R1.sep i' i _ _ _ hi c' e1 c'' e3
  -- a slot that was handed over
  have given : ∀ {i j : Nat} {s : Sl}, rs[j]? = some (.al i) → as'[j]? = some s → ∃ a, σ[i]? = some (some (.ref a)) ∧ vs[j]? = some (.ref a) ∧ passed a := by
    intro i j s e1 e2
    obtain ⟨s0, es, hs⟩ := toSls_of h2 e1
    unfold toSl at hs
    simp only at hs
    split at hs
    · rename_i o ho
      cases hs
      obtain ⟨a, ev, _, _, _, c⟩ := own es
      rcases c with c | ⟨i', c, c', c''⟩
      · rw [e1] at c; cases c
      · rw [e1] at c; cases c
        exact ⟨a, c'', ev, ⟨j, o, es, ev⟩⟩
    · cases hs
  have RZ : RS X.K ix Fr FX G2 (wback ρ1 rs as') σ H2 := by
    refine ⟨R2.gh, fun a o e => R2.fh a o (keepFr a o e), fun a n => ?_, by rw [wback_length]; exact R1.len, fun i s e => ?_, fun i j a o o' ne e1 e2 e3 e4 => ?_, R1.fx⟩
    · refine R2.gf a fun z => ?_
      cases e : Fr a with
      | none => exact n e
      | some o => rw [keepFr a o e] at z; cases z
    · rcases wback_get rs as' ρ1 i s la' nd e with ⟨j, e1, e2⟩ | ⟨e1, e2⟩
      · obtain ⟨a, ea, ev, pa⟩ := given e1 e2
        have q := R2.sl j s e2
        rw [(getv j _).mpr ev] at q
        rw [ea]
        cases s with
        | no => trivial
        | sh d => exact q
        | fd d => exact q
        | ow o =>
          obtain ⟨b, eb, g, _, c⟩ := q
          cases eb
          exact ⟨a, rfl, g, pFr a pa, c⟩
      · refine (R1.sl i s e2).mono s2 fun a o e3 e4 g f => ?_
        subst e4
        have q := other e2 e1 e3 g
        obtain ⟨b, eb, _, _, c⟩ := R1.sl i _ e2
        rw [e3] at eb; cases eb
        obtain ⟨u, hu⟩ := c.some
        rw [hu] at q
        exact ⟨R2.gf a (by rw [q]; simp), (R2.fh a u q).trans hu.symm⟩
    · rcases wback_get rs as' ρ1 i _ la' nd e1 with ⟨k1, f1, f2⟩ | ⟨f1, f2⟩
      · obtain ⟨b, eb, ev, pb⟩ := given f1 f2
        rw [e3] at eb; cases eb
        rcases wback_get rs as' ρ1 j _ la' nd e2 with ⟨k2, g1, g2⟩ | ⟨g1, g2⟩
        · obtain ⟨b', eb', ev', _⟩ := given g1 g2
          rw [e4] at eb'; cases eb'
          have nk : k1 ≠ k2 := fun z => by
            subst z
            rw [f1] at g1; cases g1
            exact ne rfl
          exact R2.sep k1 k2 _ _ _ nk f2 g2 ((getv _ _).mpr ev) ((getv _ _).mpr ev')
        · obtain ⟨b', eb', g, _, c⟩ := R1.sl j _ g2
          rw [e4] at eb'; cases eb'
          have q := other g2 g1 e4 g
          obtain ⟨u, hu⟩ := c.some
          rw [frP _ pb, hu] at q; cases q
      · rcases wback_get rs as' ρ1 j _ la' nd e2 with ⟨k2, g1, g2⟩ | ⟨g1, g2⟩
        · obtain ⟨b', eb', ev', pb'⟩ := given g1 g2
          rw [e4] at eb'; cases eb'
          obtain ⟨b, eb, g, _, c⟩ := R1.sl i _ f2
          rw [e3] at eb; cases eb
          have q := other f2 f1 e3 g
          obtain ⟨u, hu⟩ := c.some
          rw [frP _ pb', hu] at q; cases q
        · exact R1.sep i j a _ _ ne f2 g2 e3 e4
  refine k v G2 H2 (s1.trans s2) RZ ?_
  cases r0 with
  | sh d => exact v2
  | fd d => exact v2
  | al i => exact absurd rfl (nal i)
  | ow o =>
    obtain ⟨a, rfl, g, f, c, hn⟩ := v2
    refine ⟨a, rfl, g, ?_, c, fun i o' e1 e2 => ?_⟩
    · cases e : Fr a with
      | none => rfl
      | some u => rw [keepFr a u e] at f; cases f
    · rcases wback_get rs as' ρ1 i _ la' nd e1 with ⟨j, f1, f2⟩ | ⟨f1, f2⟩
      · obtain ⟨b, eb, ev, _⟩ := given f1 f2
        rw [e2] at eb; cases eb
        exact hn j _ f2 ((getv _ _).mpr ev)
      · obtain ⟨b, eb, g', _, c'⟩ := R1.sl i _ f2
        rw [e2] at eb; cases eb
        have q := other f2 f1 e2 g'
        obtain ⟨u, hu⟩ := c'.some
        rw [f, hu] at q; cases q
theorem de_fn {k np : Nat} {f : Addr} {fd : FuncData} {ps : List Str} {x : Str} {F : FnS} (G : FnOk X.prog X.w X.K X.mg X.base CX0 k f fd ps (spD X.K np F)) (hr : Room k X.A) (hg : Gl X x) (hm : X.mg x = some (.ref f)) (hk : PySem.W.keepIn X.K (.ref f) = true) (hb : Binds X.K fd ps [])
    (ha : PA X (e :: es) (TA' X.K ix ga)) (hnp : ∀ ρ rs ρ', ga ρ = some (rs, ρ') → rs.length = np) (hdb : (x == ("__debug__" : Str)) = false := by decide) (he : starEach (e :: es) X.env = (false, eval e X.env) :: starEach es X.env := by rfl) (hpl : (backTo pos (starEach es X.env)).any (·.1) = false := by rfl) :
    PE X (.Call (.Name x p) (e :: es) [] pos) (TE' X.K ix (eFn F ga)) :=
  pe_imp (pe_call G hr hg hm hk hb .nil pass0 ha hdb he hpl) fun _ _ _ h => fn_ok hnp h
theorem de_fn0 {k : Nat} {f : Addr} {fd : FuncData} {ps : List Str} {x : Str} {F : FnS} (G : FnOk X.prog X.w X.K X.mg X.base CX0 k f fd ps (spD X.K 0 F)) (hr : Room k X.A) (hg : Gl X x) (hm : X.mg x = some (.ref f)) (hk : PySem.W.keepIn X.K (.ref f) = true) (hb : Binds X.K fd ps [])
    (hdb : (x == ("__debug__" : Str)) = false := by decide) : PE X (.Call (.Name x p) [] [] pos) (TE' X.K ix (eFn F aNil)) :=
  pe_imp (pe_call0 G hr hg hm hk hb .nil pass0 hdb) fun σ H Q h => by
    have q := fn_ok (np := 0) (fun ρ rs ρ' e => by cases e; rfl) h
    obtain ⟨Fr, FX, G, ρ, rs, ρ', R, hf, k⟩ := q
    cases hf
    exact k [] G H (Sub.refl _) R trivial
theorem aLen_nil : ∀ (ρ : Rho) rs ρ', aNil ρ = some (rs, ρ') → rs.length = 0 := fun ρ rs ρ' e => by cases e; rfl
theorem aLen_cons {f : M} {g : MA} {n : Nat} (h : ∀ ρ rs ρ', g ρ = some (rs, ρ') → rs.length = n) : ∀ ρ rs ρ', aCons f g ρ = some (rs, ρ') → rs.length = n + 1 := fun ρ rs ρ' e => by
  unfold aCons at e
  obtain ⟨x, _, e⟩ := Option.bind_eq_some_iff.mp e
  obtain ⟨y, h2, e⟩ := Option.bind_eq_some_iff.mp e
  cases e
  simp [h _ _ _ h2]
end
end DL

set_option Elab.async false
set_option linter.all false
set_option autoImplicit false
set_option maxRecDepth 100000
set_option maxHeartbeats 1000000
namespace DL
open PySem PySem.Spec PyProof.Rows L2

/-! ### statements -/
def sNil : MS := fun ρ => some (.nx ρ)
def sSeq (g h : MS) : MS := fun ρ => (g ρ).bind fun fl => match fl with
  | .nx ρ1 => h ρ1
  | fl => some fl
def sBreak : MS := fun ρ => some (.bk ρ)
def sCont : MS := fun ρ => some (.ct ρ)
/-- a name of a slot as a value: a list is shared from then on, a dict goes over -/
def cpM (f : M) : M := fun ρ => (f ρ).bind fun x => match x.1 with
  | .al i => match x.2[i]? with
    | some (.ow (.lst ds)) => some (.sh (.list ds), x.2.set i (.sh (.list ds)))
    | some (.ow o) => some (.ow o, x.2.set i .no)
    | _ => none
  | _ => some x
def sSet (i : Nat) (f : M) : MS := fun ρ => (f ρ).bind fun x => match x.1 with
  | .sh d => some (.nx (x.2.set i (.sh d)))
  | .ow o => some (.nx (x.2.set i (.ow o)))
  | .al _ => none
  | .fd o => some (.nx (x.2.set i (.fd o)))
def sExpr (f : M) : MS := fun ρ => (f ρ).bind fun x => some (.nx x.2)
def sRet (ix : List Nat) (f : M) : MS := fun ρ => (f ρ).bind fun x => match x.1 with
  | .al i => match x.2[i]? with
    | some (.ow (.lst ds)) => if ix.contains i = true then some (.rt (.sh (.list ds)) (x.2.set i (.sh (.list ds)))) else some (.rt (.ow (.lst ds)) (x.2.set i .no))
    | some (.ow o) => some (.rt (.ow o) (x.2.set i .no))
    | _ => none
  | r => some (.rt r x.2)
def sRetN : MS := fun ρ => some (.rt (.sh .none) ρ)
def sIf (t : MB) (g h : MS) : MS := fun ρ => (t ρ).bind fun x => if x.1 = true then g x.2 else h x.2
def whileS (c : MB) (b : MS) : Nat → MS
  | 0 => fun _ => none
  | n + 1 => fun ρ => (c ρ).bind fun x => if x.1 = true then (b x.2).bind fun fl => (match fl with
    | .nx ρ2 => whileS c b n ρ2
    | .ct ρ2 => whileS c b n ρ2
    | .bk ρ2 => some (.nx ρ2)
    | .rt r ρ2 => some (.rt r ρ2)) else some (.nx x.2)
abbrev MT := Dv → Rho → Option Rho
def forS (t : MT) (b : MS) : List Dv → MS
  | [] => fun ρ => some (.nx ρ)
  | d :: ds => fun ρ => (t d ρ).bind fun ρ1 => (b ρ1).bind fun fl => match fl with
    | .nx ρ2 => forS t b ds ρ2
    | .ct ρ2 => forS t b ds ρ2
    | .bk ρ2 => some (.nx ρ2)
    | .rt r ρ2 => some (.rt r ρ2)
def sFor (f : ML) (t : MT) (b : MS) : MS := fun ρ => (f ρ).bind fun x => forS t b x.1 x.2
def tName (i : Nat) : MT := fun d ρ => some (ρ.set i (.sh d))
/-- several names -/
def tMany : List MT → List Dv → Rho → Option Rho
  | [], [], ρ => some ρ
  | t :: ts, d :: ds, ρ => (t d ρ).bind fun ρ1 => tMany ts ds ρ1
  | _, _, _ => none
def tTupT (ts : List MT) : MT := fun d ρ => match d with
  | .tuple ds => tMany ts ds ρ
  | _ => none
def sAsg (f : M) (t : MT) : MS := fun ρ => (frM f ρ).bind fun x => match x.1 with
  | .sh d => (t d x.2).bind fun ρ1 => some (.nx ρ1)
  | _ => none
def sAug (i : Nat) (g : Dv → Dv → Option Rz) (f : M) : MS := fun ρ => match ρ[i]? with
  | some (.sh d) => (pkM f ρ).bind fun x => (dat x.2 x.1).bind fun e => (g d e).bind fun r => (match r with
    | .sh z => some (.nx (x.2.set i (.sh z)))
    | .ow _ => none)
  | _ => none
section
variable {X : Cx} {ix : List Nat} {e : Expr} {es : List Expr} {f : M} {g h b : MS} {t : MB} {ga : MA} {pos p : Pos} {st : Stmt} {rest : List Stmt}
theorem ds_nil : PSs X [] (TS' X.K ix sNil) := pss_imp pss_nil fun D σ H ⟨Fr, FX, G, ρ, fl, R, hf, k⟩ => by
  cases hf
  exact k G σ H (Sub.refl _) R
theorem ds_pass : PS X (.Pass pos) (TS' X.K ix sNil) := ps_imp ps_pass fun D σ H ⟨Fr, FX, G, ρ, fl, R, hf, k⟩ => by
  cases hf
  exact k G σ H (Sub.refl _) R
theorem ds_break : PS X (.Break pos) (TS' X.K ix sBreak) := ps_imp ps_break fun D σ H ⟨Fr, FX, G, ρ, fl, R, hf, k⟩ => by
  cases hf
  exact k G σ H (Sub.refl _) R
theorem ds_cont : PS X (.Continue pos) (TS' X.K ix sCont) := ps_imp ps_continue fun D σ H ⟨Fr, FX, G, ρ, fl, R, hf, k⟩ => by
  cases hf
  exact k G σ H (Sub.refl _) R
/-- a flow's end behind a statement, D's next being h -/
theorem flp_seq {K : PySem.W.Frag} {Fr G : Hp} {FX : Nat → Option V} {fl : Fl} {D : Ends} {fl' : Fl} (h1 : (match fl with | .nx ρ1 => h ρ1 | fl => some fl) = some fl') (k : FlP K ix Fr FX G fl' D) : FlP K ix Fr FX G fl { D with nx := TS' K ix h D } := by
  cases fl with
  | nx ρ1 => exact fun G' σ' H' s R => ⟨Fr, FX, G', ρ1, fl', R, h1, k.mono s⟩
  | bk ρ1 => cases h1; exact k
  | ct ρ1 => cases h1; exact k
  | rt r ρ1 => cases h1; exact k
theorem ds_cons (h1 : PS X st (TS' X.K ix g)) (h2 : PSs X rest (TS' X.K ix h)) : PSs X (st :: rest) (TS' X.K ix (sSeq g h)) :=
  pss_imp (pss_cons h1 h2) fun D σ H ⟨Fr, FX, G, ρ, fl, R, hf, k⟩ => by
    unfold sSeq at hf
    obtain ⟨fl1, e1, hf⟩ := Option.bind_eq_some_iff.mp hf
    exact ⟨Fr, FX, G, ρ, fl1, R, e1, flp_seq hf k⟩
theorem ds_one (h1 : PS X st (TS' X.K ix g)) : PSs X [st] (TS' X.K ix g) := pss_one h1
theorem cp_ok {σ : L2.St} {H : Hp} {Q : VK} (h : TE' X.K ix (cpM f) σ H Q) : TE' X.K ix f σ H Q := by
  obtain ⟨Fr, FX, G, ρ, r, ρ', R, hf, k⟩ := h
  unfold cpM at hf
  obtain ⟨⟨r0, ρ0⟩, h0, hf⟩ := Option.bind_eq_some_iff.mp hf
  refine ⟨Fr, FX, G, ρ, r0, ρ0, R, h0, fun v G' H' s R' q => ?_⟩
  cases r0 with
  | sh d => cases hf; exact k v G' H' s R' q
  | fd d => cases hf; exact k v G' H' s R' q
  | ow o => cases hf; exact k v G' H' s R' q
  | al i =>
    simp only at hf
    split at hf
    · rename_i ds hi
      cases hf
      obtain ⟨Fr2, FX2, G2, ρ2, r2, ρ3, R2, hf2, k2⟩ := fr_ok (X := X) (ix := ix) (f := f) (Q := Q) ⟨Fr, FX, G, ρ, _, _, R, (show frM f ρ = some (.sh (.list ds), ρ0.set i (.sh (.list ds))) by unfold frM; rw [h0]; simp [hi]), k⟩
      obtain ⟨a, ev, g, fr, ⟨vs, hv, qv⟩⟩ := R'.sl i _ hi
      have e' : σ[i]? = some (some v) := q
      rw [ev] at e'
      cases e'
      have hx : Dp X.K (upd G' a (.lst vs)) (.ref a) (.list ds) := .lst (.inl (.inl upd_same)) (dpAll_mono (sub_upd g) _ _ qv)
      have hl : i < ρ0.length := (List.getElem?_eq_some_iff.mp hi).1
      have W : RS X.K ix Fr FX G' (ρ0.set i .no) σ H' := R'.weak (i := i) (s := .no) trivial (fun o z => nomatch z)
      have S := W.share hv g fr fun j o' e1 e2 => by
        by_cases hj : i = j
        · subst hj
          rw [List.getElem?_set_self hl] at e1
          cases e1
        · rw [List.getElem?_set_ne hj] at e1
          exact R'.sep i j a _ o' hj hi e1 ev e2
      have S2 := S.weak (i := i) (s := .sh (.list ds)) ⟨_, ev, hx⟩ (fun o z => nomatch z)
      rw [List.set_set] at S2
      exact k _ _ H' (s.trans (sub_upd g)) S2 hx
    · rename_i o hn hi
      cases hf
      obtain ⟨a, ev, g, fr, c⟩ := R'.sl i _ hi
      have e' : σ[i]? = some (some v) := q
      rw [ev] at e'
      cases e'
      have hl : i < ρ0.length := (List.getElem?_eq_some_iff.mp hi).1
      have W : RS X.K ix Fr FX G' (ρ0.set i .no) σ H' := R'.weak (i := i) (s := .no) trivial (fun o z => nomatch z)
      refine k _ G' H' s W ⟨a, rfl, g, fr, c, fun j o' e1 e2 => ?_⟩
      by_cases hj : i = j
      · subst hj
        rw [List.getElem?_set_self hl] at e1
        cases e1
      · rw [List.getElem?_set_ne hj] at e1
        exact R'.sep i j a _ o' hj hi e1 ev e2
    · cases hf
theorem de_cp (h : PE X e (TE' X.K ix f)) : PE X e (TE' X.K ix (cpM f)) := pe_imp h fun _ _ _ => cp_ok
theorem asg_ok {D : Ends} {σ : L2.St} {H : Hp} {i : Nat} (hi : i ∉ ix) (h : TS' X.K ix (sSet i f) D σ H) : tAsg (TE' X.K ix f) (gName i) D σ H := by
  obtain ⟨Fr, FX, G, ρ, fl, R, hf, k⟩ := h
  unfold sSet at hf
  obtain ⟨⟨r0, ρ0⟩, h0, hf⟩ := Option.bind_eq_some_iff.mp hf
  refine ⟨Fr, FX, G, ρ, r0, ρ0, R, h0, fun v G' H' s R' q => ?_⟩
  cases r0 with
  | al i => cases hf
  | sh d =>
    cases hf
    exact k G' _ H' s (R'.set hi ⟨v, rfl, q⟩ fun o a z => nomatch z)
  | fd d =>
    cases hf
    obtain ⟨a, rfl, c⟩ := q
    exact k G' _ H' s (R'.set hi ⟨a, rfl, c⟩ fun o a z => nomatch z)
  | ow o =>
    cases hf
    obtain ⟨a, rfl, g, fr, c, hn⟩ := q
    exact k G' _ H' s (R'.set hi ⟨a, rfl, g, fr, c⟩ fun o' a' z1 z2 j o2 e1 => by cases z2; exact hn j o2 e1)
theorem ds_set {i : Nat} {x : Str} {pos' : Pos} (hN : X.N.Nodup) (hi : X.N[i]? = some x) (hx : Loc X.env.scope x) (hix : i ∉ ix) (he : PE X e (TE' X.K ix f)) (hs : swapsWith e (some (.Name x pos')) pos.line X.env = pure false := by rfl) (hf : X.fn x = true ∨ X.env.scope.names.lookup x = some .local := by first | exact .inl rfl | exact .inr rfl | assumption) :
    PS X (.Assign [.Name x pos'] e pos) (TS' X.K ix (sSet i f)) := ps_imp (ps_set hN hi hx he hs hf) fun _ _ _ h => asg_ok hix h
theorem ds_expr (he : PE X e (TE' X.K ix f)) (hs : swapsWith e none pos.line X.env = pure false := by rfl) : PS X (.Expr e pos) (TS' X.K ix (sExpr f)) :=
  ps_imp (ps_expr he hs) fun D σ H ⟨Fr, FX, G, ρ, fl, R, hf, k⟩ => by
    unfold sExpr at hf
    obtain ⟨⟨r0, ρ0⟩, h0, hf⟩ := Option.bind_eq_some_iff.mp hf
    cases hf
    exact ⟨Fr, FX, G, ρ, r0, _, R, h0, fun v G' H' s R' q => k G' σ H' s R'⟩
theorem ds_retN : PS X (.Return none pos) (TS' X.K ix sRetN) := ps_imp ps_retN fun D σ H ⟨Fr, FX, G, ρ, fl, R, hf, k⟩ => by
  cases hf
  exact k G σ H .non (Sub.refl _) R .non
theorem ds_ret (he : PE X e (TE' X.K ix f)) : PS X (.Return (some e) pos) (TS' X.K ix (sRet ix f)) :=
  ps_imp (ps_ret he) fun D σ H ⟨Fr, FX, G, ρ, fl, R, hf, k⟩ => by
    unfold sRet at hf
    obtain ⟨⟨r0, ρ0⟩, h0, hf⟩ := Option.bind_eq_some_iff.mp hf
    refine ⟨Fr, FX, G, ρ, r0, ρ0, R, h0, fun v G' H' s R' q => ?_⟩
    cases r0 with
    | sh d => cases hf; exact k G' σ H' v s R' q
    | fd d => cases hf; exact k G' σ H' v s R' q
    | ow o => cases hf; exact k G' σ H' v s R' q
    | al i =>
      simp only at hf
      have e' : σ[i]? = some (some v) := q
      have move : ∀ {o : Ob}, ρ0[i]? = some (.ow o) → fl = .rt (.ow o) (ρ0.set i .no) → D.rt v H' := by
        intro o hi efl
        subst efl
        obtain ⟨a, ev, g, fr, c⟩ := R'.sl i _ hi
        rw [ev] at e'
        cases e'
        have hl : i < ρ0.length := (List.getElem?_eq_some_iff.mp hi).1
        have W : RS X.K ix Fr FX G' (ρ0.set i .no) σ H' := R'.weak (i := i) (s := .no) trivial (fun o z => nomatch z)
        refine k G' σ H' _ s W ⟨a, rfl, g, fr, c, fun j o' e1 e2 => ?_⟩
        by_cases hj : i = j
        · subst hj
          rw [List.getElem?_set_self hl] at e1
          cases e1
        · rw [List.getElem?_set_ne hj] at e1
          exact R'.sep i j a _ o' hj hi e1 ev e2
      split at hf
      · rename_i ds hi
        split at hf
        · cases hf
          obtain ⟨a, ev, g, fr, ⟨vs, hv, qv⟩⟩ := R'.sl i _ hi
          rw [ev] at e'
          cases e'
          have hx : Dp X.K (upd G' a (.lst vs)) (.ref a) (.list ds) := .lst (.inl (.inl upd_same)) (dpAll_mono (sub_upd g) _ _ qv)
          have hl : i < ρ0.length := (List.getElem?_eq_some_iff.mp hi).1
          have W : RS X.K ix Fr FX G' (ρ0.set i .no) σ H' := R'.weak (i := i) (s := .no) trivial (fun o z => nomatch z)
          have S := W.share hv g fr fun j o' e1 e2 => by
            by_cases hj : i = j
            · subst hj
              rw [List.getElem?_set_self hl] at e1
              cases e1
            · rw [List.getElem?_set_ne hj] at e1
              exact R'.sep i j a _ o' hj hi e1 ev e2
          have S2 := S.weak (i := i) (s := .sh (.list ds)) ⟨_, ev, hx⟩ (fun o z => nomatch z)
          rw [List.set_set] at S2
          exact k _ σ H' _ (s.trans (sub_upd g)) S2 hx
        · cases hf; exact move hi rfl
      · rename_i o hn hi
        cases hf; exact move hi rfl
      · cases hf
theorem ds_if {c : Expr} {b1 b2 : List Stmt} (hc : PT X c (TT' X.K ix t)) (h1 : PSs X b1 (TS' X.K ix g)) (h2 : PSs X b2 (TS' X.K ix h)) : PS X (.If c b1 b2 pos) (TS' X.K ix (sIf t g h)) :=
  ps_imp (ps_if hc h1 h2) fun D σ H ⟨Fr, FX, G, ρ, fl, R, hf, k⟩ => by
    unfold sIf at hf
    obtain ⟨⟨k1, ρ1⟩, e1, hf⟩ := Option.bind_eq_some_iff.mp hf
    refine ⟨Fr, FX, G, ρ, k1, ρ1, R, e1, fun G1 H1 s1 R1 => ?_⟩
    cases k1 with
    | true => exact ⟨Fr, FX, G1, ρ1, fl, R1, hf, k.mono s1⟩
    | false => exact ⟨Fr, FX, G1, ρ1, fl, R1, hf, k.mono s1⟩
/-- a turn's flow, for a loop that goes on by `go` -/
theorem flp_turn {K : PySem.W.Frag} {Fr G : Hp} {FX : Nat → Option V} {fl fl' : Fl} {D : Ends} {go : MS} {N : L2.St → Hp → Prop}
    (h1 : (match fl with | .nx ρ2 => go ρ2 | .ct ρ2 => go ρ2 | .bk ρ2 => some (Fl.nx ρ2) | .rt r ρ2 => some (Fl.rt r ρ2)) = some fl') (k : FlP K ix Fr FX G fl' D)
    (hN : ∀ ρ2 G' σ' H', go ρ2 = some fl' → Sub G G' → RS K ix Fr FX G' ρ2 σ' H' → N σ' H') : FlP K ix Fr FX G fl { D with nx := N, ct := N, bk := D.nx } := by
  cases fl with
  | nx ρ2 => exact fun G' σ' H' s R => hN ρ2 G' σ' H' h1 s R
  | ct ρ2 => exact fun G' σ' H' s R => hN ρ2 G' σ' H' h1 s R
  | bk ρ2 => cases h1; exact k
  | rt r ρ2 => cases h1; exact k
theorem ds_while {c : Expr} {body : List Stmt} (n : Nat) (hp : PassesOwn (model X.prog X.w) X.A X.env X.xe) (hc : PT X c (TT' X.K ix t)) (hb : PSs X body (TS' X.K ix b)) : PS X (.While c body [] pos) (TS' X.K ix (whileS t b n)) :=
  ps_imp (ps_while hp hc hb) fun D σ H ⟨Fr, FX, G, ρ, fl, R, hf, k⟩ => by
    refine ⟨fun m σ H => ∃ G1 ρ1, Sub G G1 ∧ RS X.K ix Fr FX G1 ρ1 σ H ∧ whileS t b m ρ1 = some fl, ⟨n, G, ρ, Sub.refl _, R, hf⟩, ?_⟩
    rintro m σ1 H1 ⟨G1, ρ1, s1, R1, e1⟩
    cases m with
    | zero => cases e1
    | succ m =>
      unfold whileS at e1
      obtain ⟨⟨k1, ρ2⟩, e2, e1⟩ := Option.bind_eq_some_iff.mp e1
      refine ⟨Fr, FX, G1, ρ1, k1, ρ2, R1, e2, fun G2 H2 s2 R2 => ?_⟩
      cases k1 with
      | false =>
        cases e1
        exact k G2 σ1 H2 (s1.trans s2) R2
      | true =>
        obtain ⟨fl1, e3, e1⟩ := Option.bind_eq_some_iff.mp e1
        rw [if_pos rfl]
        refine ⟨fun σ H => ∃ G1 ρ1, Sub G G1 ∧ RS X.K ix Fr FX G1 ρ1 σ H ∧ whileS t b m ρ1 = some fl, fun σ' H' w => ⟨m, Nat.lt_succ_self m, w⟩, ?_⟩
        exact ⟨Fr, FX, G2, ρ2, fl1, R2, e3, flp_turn e1 (k.mono (s1.trans s2)) fun ρ3 G' σ' H' e4 s R => ⟨G', ρ3, (s1.trans s2).trans s, R, e4⟩⟩
theorem ds_for {tg it : Expr} {body : List Stmt} {fi : ML} {tis : List Nat} {tt : MT} (hp : PassesOwn (model X.prog X.w) X.A X.env X.xe) (hc : X.calm = true) (hi : PI X tg it (TI' X.K ix fi)) (hg : PG X tg (TG' X.K ix tis tt)) (hb : PSs X body (TS' X.K ix b))
    (hs : ∀ x, foldedSetIterable it X.env x = pure x := by intro _; rfl) : PS X (.For tg it body [] pos) (TS' X.K ix (sFor fi tt b)) :=
  ps_imp (ps_for hp hc hi hg hb hs) fun D σ H ⟨Fr, FX, G, ρ, fl, R, hf, k⟩ => by
    unfold sFor at hf
    obtain ⟨⟨ds, ρ0⟩, e0, hf⟩ := Option.bind_eq_some_iff.mp hf
    refine ⟨Fr, FX, G, ρ, ds, ρ0, R, e0, fun J G0 H0 s0 R0 jk => ?_⟩
    refine ⟨fun i m σ H => m = ds.length - i ∧ i ≤ ds.length ∧ ∃ G1 ρ1, Sub G0 G1 ∧ RS X.K ix Fr FX G1 ρ1 σ H ∧ forS tt b (ds.drop i) ρ1 = some fl, ⟨ds.length, by simp, Nat.zero_le _, G0, ρ0, Sub.refl _, R0, hf⟩, ?_⟩
    rintro i m σ1 H1 ⟨rfl, hle, G1, ρ1, s1, R1, e1⟩
    obtain ⟨j1, j2⟩ := jk i G1 H1 s1 R1.gh
    by_cases hlt : i < ds.length
    · have hd : ds[i]? = some ds[i] := List.getElem?_eq_getElem hlt
      obtain ⟨j3, j4⟩ := j1 _ hd
      rw [List.drop_eq_getElem_cons hlt] at e1
      unfold forS at e1
      obtain ⟨ρ2, e2, e1⟩ := Option.bind_eq_some_iff.mp e1
      obtain ⟨fl1, e3, e1⟩ := Option.bind_eq_some_iff.mp e1
      refine .inr ⟨j3, fun σ H => ∃ G1 ρ1, Sub G0 G1 ∧ RS X.K ix Fr FX G1 ρ1 σ H ∧ forS tt b (ds.drop (i + 1)) ρ1 = some fl, fun σ' H' w => ⟨ds.length - (i + 1), by omega, rfl, hlt, w⟩, fun x H2 y => ?_⟩
      have key : ∃ G2, Sub G1 G2 ∧ RS X.K ix Fr FX G2 ρ1 σ1 H2 ∧ Dp X.K G2 x ds[i] := by
        rcases j4 x H2 y with ⟨rfl, q⟩ | ⟨p, o, hp, rfl, q⟩
        · exact ⟨G1, Sub.refl _, R1, q⟩
        · exact ⟨_, sub_upd (R1.none_of hp).1, R1.newG hp, q⟩
      obtain ⟨G2, s2, R2, q⟩ := key
      refine ⟨Fr, FX, G2, ρ1, _, ρ2, R2, q, e2, fun G3 σ3 H3 s3 _ R3 => ?_⟩
      refine ⟨Fr, FX, G3, ρ2, fl1, R3, e3, flp_turn e1 (k.mono (((s0.trans s1).trans s2).trans s3)) fun ρ4 G' σ' H' e4 s R => ⟨G', ρ4, ((s1.trans s2).trans s3).trans s, R, e4⟩⟩
    · have hi : i = ds.length := by omega
      subst hi
      rw [List.drop_length] at e1
      cases e1
      exact .inl ⟨j2 (Nat.le_refl _), k G1 σ1 H1 (s0.trans s1) R1⟩
/-! ### targets -/
theorem dg_name {i : Nat} {x : Str} (hN : X.N.Nodup) (hi : X.N[i]? = some x) (hx : Loc X.env.scope x) (hix : i ∉ ix) (hf : X.fn x = true ∨ X.env.scope.names.lookup x = some .local := by first | exact .inl rfl | exact .inr rfl | assumption) : PG X (.Name x pos) (TG' X.K ix [i] (tName i)) :=
  pg_imp (pg_name hN hi hx hf) fun v σ H Q ⟨Fr, FX, G, ρ, d, ρ', R, q, e, k⟩ => by
    cases e
    refine k G _ H (Sub.refl _) ⟨List.length_set, fun j hj => ?_⟩ (R.set hix ⟨v, rfl, q⟩ fun o a z => nomatch z)
    rw [List.getElem?_set_ne (fun z => hj (by rw [z]; exact List.mem_singleton_self _))]
inductive DGs (X : Cx) (ix : List Nat) : List Expr → List Nat → List MT → Prop
  | nil : DGs X ix [] [] []
  | cons {e : Expr} {es : List Expr} {tis tjs : List Nat} {t : MT} {ts : List MT} : PG X e (TG' X.K ix tis t) → DGs X ix es tjs ts → DGs X ix (e :: es) (tis ++ tjs) (t :: ts)
def TGs' (K : PySem.W.Frag) (ix tis : List Nat) (ts : List MT) : TGs := fun vs σ H Q => ∃ Fr FX G ρ ds ρ', RS K ix Fr FX G ρ σ H ∧ DpAll K G vs ds ∧ tMany ts ds ρ = some ρ' ∧
  ∀ G' σ' H', Sub G G' → (σ'.length = σ.length ∧ ∀ j, j ∉ tis → σ'[j]? = σ[j]?) → RS K ix Fr FX G' ρ' σ' H' → Q σ' H'
theorem pgs_imp {es : List Expr} {t t' : TGs} (h : PGs X es t) (k : ∀ v σ H Q, t' v σ H Q → t v σ H Q) : PGs X es t' := ⟨fun pins s σ H v u Q I r q => h.run pins s σ H v u Q I r (k _ _ _ _ q)⟩
theorem dgs_nil : PGs X [] (TGs' X.K ix [] []) := pgs_imp pgs_nil fun vs σ H Q ⟨Fr, FX, G, ρ, ds, ρ', R, q, e, k⟩ => by
  cases q with
  | nil => cases e; exact ⟨rfl, k G σ H (Sub.refl _) ⟨rfl, fun _ _ => rfl⟩ R⟩
  | cons _ _ => cases e
theorem dgs_cons {tis tjs : List Nat} {t : MT} {ts : List MT} (h1 : PG X e (TG' X.K ix tis t)) (h2 : PGs X es (TGs' X.K ix tjs ts)) (hs : (assignEach (e :: es) X.env).map (·.2) = assign e X.env :: (assignEach es X.env).map (·.2) := by rfl) :
    PGs X (e :: es) (TGs' X.K ix (tis ++ tjs) (t :: ts)) := pgs_imp (pgs_cons h1 h2 hs) fun vs σ H Q ⟨Fr, FX, G, ρ, ds, ρ', R, q, e, k⟩ => by
  cases q with
  | nil => cases e
  | @cons v vs d ds q1 q2 =>
    unfold tMany at e
    obtain ⟨ρ1, e1, e⟩ := Option.bind_eq_some_iff.mp e
    refine ⟨v, vs, rfl, Fr, FX, G, ρ, d, ρ1, R, q1, e1, fun G1 σ1 H1 s1 n1 R1 => ?_⟩
    refine ⟨Fr, FX, G1, ρ1, ds, ρ', R1, dpAll_mono s1 _ _ q2, e, fun G2 σ2 H2 s2 n2 R2 => k G2 σ2 H2 (s1.trans s2) ⟨n2.1.trans n1.1, fun j hj => ?_⟩ R2⟩
    rw [List.mem_append, not_or] at hj
    rw [n2.2 j hj.2, n1.2 j hj.1]
theorem tMany_length : ∀ {ts : List MT} {ds : List Dv} {ρ ρ' : Rho}, tMany ts ds ρ = some ρ' → ds.length = ts.length
  | [], [], _, _, _ => rfl
  | t :: ts, d :: ds, ρ, ρ', h => by
    unfold tMany at h
    obtain ⟨ρ1, _, h⟩ := Option.bind_eq_some_iff.mp h
    simp [tMany_length h]
  | [], _ :: _, _, _, h => by cases h
  | _ :: _, [], _, _, h => by cases h
theorem dg_tup {tis : List Nat} {ts : List MT} {k n : Nat} (hc : X.calm = true) (h : PGs X es (TGs' X.K ix tis ts)) (hl : ts.length = n := by rfl) (hn : (assignEach es X.env).length = n := by rfl) (hst : (assignEach es X.env).findIdx? (·.1) = none := by rfl) :
    PG X (.Tuple es k pos) (TG' X.K ix tis (tTupT ts)) := pg_imp (pg_tup hc h hn hst) fun v σ H Q ⟨Fr, FX, G, ρ, d, ρ', R, q, e, kk⟩ => by
  unfold tTupT at e
  split at e
  · rename_i ds
    cases q with
    | tup hs ha => exact ⟨_, _, rfl, R.sub.sqT hs, by rw [dpAll_length ha, tMany_length e]; exact hl, Fr, FX, G, ρ, ds, ρ', R, ha, e, kk⟩
  · cases e
theorem ds_asg {tg : Expr} {tis : List Nat} {tt : MT} (he : PE X e (TE' X.K ix f)) (hg : PG X tg (TG' X.K ix tis tt)) (hs : swapsWithSole [tg] e pos.line X.env = pure false := by rfl) (hw : swappedStores [tg] e X.env = pure none := by rfl)
    (h1 : (assignEach [tg] X.env).map (·.2) = [assign tg X.env] := by rfl) : PS X (.Assign [tg] e pos) (TS' X.K ix (sAsg f tt)) :=
  ps_imp (ps_asg (de_fr he) hg hs hw h1) fun D σ H ⟨Fr, FX, G, ρ, fl, R, hf, k⟩ => by
    unfold sAsg at hf
    obtain ⟨⟨r0, ρ0⟩, h0, hf⟩ := Option.bind_eq_some_iff.mp hf
    refine ⟨Fr, FX, G, ρ, r0, ρ0, R, h0, fun v G' H' s R' q => ?_⟩
    cases r0 with
    | ow o => cases hf
    | fd o => cases hf
    | al i => cases hf
    | sh d =>
      simp only at hf
      obtain ⟨ρ1, e1, hf⟩ := Option.bind_eq_some_iff.mp hf
      cases hf
      exact ⟨Fr, FX, G', ρ0, d, _, R', q, e1, fun G2 σ2 H2 s2 _ R2 => k G2 σ2 H2 (s.trans s2) R2⟩
theorem ds_aug {i : Nat} {x : Str} {op : Operator} {gg : Dv → Dv → Option Rz} {pos' : Pos} (hN : X.N.Nodup) (hi : X.N[i]? = some x) (hx : Loc X.env.scope x) (hix : i ∉ ix) (he : PE X e (TE' X.K ix f)) (ho : OpD X (inplaceOp op) gg) (hf : X.fn x = true ∨ X.env.scope.names.lookup x = some .local := by first | exact .inl rfl | exact .inr rfl | assumption) :
    PS X (.AugAssign (.Name x pos') op e pos) (TS' X.K ix (sAug i gg f)) :=
  ps_imp (ps_aug (ti := R2d X.K gg) hN hi hx (de_pk he) (fun pins s σ H x y v u Q I r1 r2 h => ho pins s σ H x y v u Q I r1 r2 h) hf) fun D σ H ⟨Fr, FX, G, ρ, fl, R, hf, k⟩ => by
    unfold sAug at hf
    split at hf
    · rename_i d hd
      obtain ⟨v, ev, q⟩ := R.sl i _ hd
      obtain ⟨⟨r0, ρ0⟩, h0, hf⟩ := Option.bind_eq_some_iff.mp hf
      obtain ⟨e', h1, hf⟩ := Option.bind_eq_some_iff.mp hf
      obtain ⟨r, h2, hf⟩ := Option.bind_eq_some_iff.mp hf
      cases r with
      | ow o => cases hf
      | sh z =>
        cases hf
        refine ⟨v, ev, Fr, FX, G, ρ, r0, ρ0, R, h0, fun y G1 H1 s1 R1 v1 => ?_⟩
        refine ⟨G1, d, e', .sh z, R1.gh, dp_vd R1.gh (dp_mono s1 _ _ q), dat_vd R1 v1 h1, h2, res_ok R1 fun w G2 H2 s2 R2 v2 => ?_⟩
        exact k G2 _ H2 (s1.trans s2) (R2.set hix ⟨w, rfl, v2⟩ fun o a z => nomatch z)
    · cases hf
end
end DL

set_option Elab.async false
set_option linter.all false
set_option autoImplicit false
set_option maxRecDepth 100000
set_option maxHeartbeats 1000000
namespace DL
open PySem PySem.Spec PyProof.Rows L2

/-! ### what loops walk -/
def itemsOf : Dv → Option (List Dv)
  | .list ds => some ds
  | .tuple ds => some ds
  | _ => none
def iSeq (f : M) : ML := fun ρ => (frM f ρ).bind fun x => match x.1 with
  | .sh d => (itemsOf d).bind fun ds => some (ds, x.2)
  | _ => none
def rangeD (lo : Int) (n : Nat) : List Dv := (List.range n).map fun i => .int (lo + (i : Nat))
def bnd62 (i : Int) : Bool := decide (-(4611686018427387904) ≤ i ∧ i < 4611686018427387904)
def rng1 : List Dv → Option (List Dv)
  | [.int j] => if bnd62 j = true then some (rangeD 0 j.toNat) else none
  | _ => none
def rng2 : List Dv → Option (List Dv)
  | [.int i, .int j] => if bnd62 i = true ∧ bnd62 j = true then some (rangeD i (j - i).toNat) else none
  | _ => none
def rangeDC (lo c : Int) (n : Nat) : List Dv := (List.range n).map fun i => .int (lo + (i : Nat) * c)
def rng3 : List Dv → Option (List Dv)
  | [.int i, .int j, .int c] => if bnd62 i = true ∧ bnd62 j = true ∧ c = -1 then some (rangeDC i (-1) (i - j).toNat) else none
  | _ => none
def iRng (r : List Dv → Option (List Dv)) (ga : MA) : ML := fun ρ => (ga ρ).bind fun x => (dats x.2 x.1).bind fun ds => (r ds).bind fun es => some (es, x.2)
section
variable {X : Cx} {ix : List Nat} {e a b : Expr} {f : M} {ga : MA} {tg : Expr} {pos p : Pos}
def tSeqI (K : PySem.W.Frag) (tl : TE) : TI := fun σ H R => tl σ H fun x H1 => ∃ a, x = .ref a ∧ ((∃ xs, SqL K H1 a xs ∧ R (Itl K a) H1) ∨ ∃ xs, SqT K H1 a xs ∧ R (Itt K a) H1)
theorem fp_new {pins : List (Addr × Obj)} {σ : L2.St} {H : Hp} {s : Shared} (I : Inv X pins σ H s) : ∀ b ∈ [s.heap.objs.size], FpOk X pins H b := fun b hb => by
  obtain rfl : b = s.heap.objs.size := by simpa using hb
  exact I.fpOk (Nat.le_refl _) I.fresh
theorem pi_seqI {tl : TE} (hl : PE X e tl) : PI X tg e (tSeqI X.K tl) := ⟨fun pins s σ H R I h => thn (hl.run pins s σ H _ I h) fun v s1 ⟨x, H1, I1, r1, a, ea, q⟩ => by
  subst ea
  cases r1
  rcases q with ⟨xs, hq, q⟩ | ⟨xs, hq, q⟩
  · obtain ⟨its, rv, pl, hz⟩ := I1.list hq
    exact wpAny_pyIter_list pl.isList ⟨_, [_], _, _, H1, rfl, I1.kept (t' := s1.toks) fun b o e => Heap.get?_push_of_some _ e, turn_list a _, ⟨_, Heap.get?_push_size _ rfl, rfl, rfl⟩, fp_new I1, q⟩
  · obtain ⟨its, rv, pl, hz⟩ := I1.tuple hq
    exact wpAny_pyIter_tuple (show s1.heap.IsTuple a its.toArray from pl) ⟨_, [_], _, _, H1, rfl, I1.kept (t' := s1.toks) fun b o e => Heap.get?_push_of_some _ e, turn_tuple a _, ⟨_, Heap.get?_push_size _ rfl, rfl, rfl⟩, fp_new I1, q⟩⟩
theorem jok_list {K : PySem.W.Frag} {G : Hp} {a : Addr} {ds : List Dv} {vs : List V} (h : SqL K G a vs) (q : DpAll K G vs ds) : Jok K G (Itl K a) ds := fun i G1 H1 s gh => by
  have hs : SqL K H1 a vs := (s.trans (sub_le gh)).sqL h
  have l := dpAll_length q
  refine ⟨fun d hd => ?_, fun hl => ⟨vs, hs, by omega⟩⟩
  obtain ⟨v, hv, qv⟩ := dpAll_get q hd
  refine ⟨⟨vs, v, hs, hv⟩, fun x H2 ⟨e1, e2⟩ => .inl ⟨e1, ?_⟩⟩
  have := e2 vs hs
  rw [hv] at this
  cases this
  exact dp_mono s _ _ qv
theorem jok_tup {K : PySem.W.Frag} {G : Hp} {a : Addr} {ds : List Dv} {vs : List V} (h : SqT K G a vs) (q : DpAll K G vs ds) : Jok K G (Itt K a) ds := fun i G1 H1 s gh => by
  have hs : SqT K H1 a vs := (s.trans (sub_le gh)).sqT h
  have l := dpAll_length q
  refine ⟨fun d hd => ?_, fun hl => ⟨vs, hs, by omega⟩⟩
  obtain ⟨v, hv, qv⟩ := dpAll_get q hd
  refine ⟨⟨vs, v, hs, hv⟩, fun x H2 ⟨e1, e2⟩ => .inl ⟨e1, ?_⟩⟩
  have := e2 vs hs
  rw [hv] at this
  cases this
  exact dp_mono s _ _ qv
theorem di_seq (h : PE X e (TE' X.K ix f)) : PI X tg e (TI' X.K ix (iSeq f)) :=
  pi_imp (pi_seqI (de_fr h)) fun σ H R ⟨Fr, FX, G, ρ, ds, ρ', R0, hf, k⟩ => by
    unfold iSeq at hf
    obtain ⟨⟨r0, ρ0⟩, h0, hf⟩ := Option.bind_eq_some_iff.mp hf
    refine ⟨Fr, FX, G, ρ, r0, ρ0, R0, h0, fun v G1 H1 s1 R1 q => ?_⟩
    cases r0 with
    | ow o => cases hf
    | fd o => cases hf
    | al i => cases hf
    | sh d =>
      simp only at hf
      obtain ⟨es, he, hf⟩ := Option.bind_eq_some_iff.mp hf
      cases hf
      have q' : Dp X.K G1 v d := q
      cases d with
      | list ds =>
        cases he
        cases q' with
        | lst hs ha => exact ⟨_, rfl, .inl ⟨_, R1.sub.sqL hs, k _ G1 H1 s1 R1 (jok_list hs ha)⟩⟩
      | tuple ds =>
        cases he
        cases q' with
        | tup hs ha => exact ⟨_, rfl, .inr ⟨_, R1.sub.sqT hs, k _ G1 H1 s1 R1 (jok_tup hs ha)⟩⟩
      | none => cases he
      | bool b => cases he
      | int b => cases he
      | str b => cases he
      | dict b => cases he
theorem rangeD_get {lo : Int} {n i : Nat} {d : Dv} (h : (rangeD lo n)[i]? = some d) : i < n ∧ d = .int (lo + (i : Nat)) := by
  unfold rangeD at h
  rw [List.getElem?_map] at h
  cases hr : (List.range n)[i]? with
  | none => rw [hr] at h; cases h
  | some j =>
    rw [hr] at h
    obtain ⟨hl, hj⟩ := List.getElem?_eq_some_iff.mp hr
    rw [List.getElem_range] at hj
    subst hj
    cases h
    exact ⟨by simpa using hl, rfl⟩
theorem jok_rng {K : PySem.W.Frag} {G : Hp} {lo : Int} {n : Nat} : Jok K G (Itr lo n) (rangeD lo n) := fun i G1 H1 s gh => by
  refine ⟨fun d hd => ?_, fun hl => (show n ≤ i by simpa [rangeD] using hl)⟩
  obtain ⟨hi, rfl⟩ := rangeD_get hd
  exact ⟨hi, fun x H2 ⟨e1, e2⟩ => .inl ⟨e1, by subst e2; exact .int _⟩⟩
theorem rng_open {r : List Dv → Option (List Dv)} {σ : L2.St} {H : Hp} {R : It → Hp → Prop} {Z : List V → Hp → Prop} (h : TI' X.K ix (iRng r ga) σ H R)
    (k : ∀ G1 H1 (vs : List V) (ds es : List Dv), (∀ a o, G1 a = some o → H1 a = some o) → VDs X.K G1 H1 ds vs → r ds = some es → (∀ J, Jok X.K G1 J es → R J H1) → Z vs H1) : TA' X.K ix ga σ H Z := by
  obtain ⟨Fr, FX, G, ρ, ds, ρ', R0, hf, kk⟩ := h
  unfold iRng at hf
  obtain ⟨⟨rs, ρ0⟩, h0, hf⟩ := Option.bind_eq_some_iff.mp hf
  obtain ⟨es, h1, hf⟩ := Option.bind_eq_some_iff.mp hf
  obtain ⟨fs, h2, hf⟩ := Option.bind_eq_some_iff.mp hf
  cases hf
  exact ⟨Fr, FX, G, ρ, rs, _, R0, h0, fun vs G1 H1 s1 R1 v1 => k G1 H1 vs es _ R1.gh (dats_vd R1 v1 h1) h2 fun J j => kk J G1 H1 s1 R1 j⟩
theorem di_range1 (hg : Gl X "range") (hm : X.mg "range" = none) (ha : PA X [a] (TA' X.K ix ga)) (hs : starEach [a] X.env = [(false, eval a X.env)] := by rfl) : PI X tg (.Call (.Name "range" p) [a] [] pos) (TI' X.K ix (iRng rng1 ga)) :=
  pi_imp (pi_range1 hg hm ha hs) fun σ H R h => rng_open h fun G1 H1 vs ds es gh vd hr k => by
    unfold rng1 at hr
    split at hr
    · split at hr
      · rename_i hb
        cases hr
        obtain ⟨v, rfl, hv⟩ := vds1 vd
        rw [vd_int hv]
        have hb' := of_decide_eq_true hb
        exact ⟨_, rfl, hb'.1, hb'.2, k _ jok_rng⟩
      · cases hr
    · cases hr
theorem di_range2 (hg : Gl X "range") (hm : X.mg "range" = none) (ha : PA X [a, b] (TA' X.K ix ga)) (hs : starEach [a, b] X.env = [(false, eval a X.env), (false, eval b X.env)] := by rfl) (hs2 : starEach [b] X.env = [(false, eval b X.env)] := by rfl) : PI X tg (.Call (.Name "range" p) [a, b] [] pos) (TI' X.K ix (iRng rng2 ga)) :=
  pi_imp (pi_range2 hg hm ha hs hs2) fun σ H R h => rng_open h fun G1 H1 vs ds es gh vd hr k => by
    unfold rng2 at hr
    split at hr
    · split at hr
      · rename_i hb
        cases hr
        obtain ⟨v, v', rfl, hv, hv'⟩ := vds2 vd
        rw [vd_int hv, vd_int hv']
        have h1 := of_decide_eq_true hb.1
        have h2 := of_decide_eq_true hb.2
        exact ⟨_, _, rfl, ⟨h1.1, h1.2, h2.1, h2.2⟩, k _ jok_rng⟩
      · cases hr
    · cases hr
theorem vds3 {K : PySem.W.Frag} {G H : Hp} {d d' d2 : Dv} {xs : List V} (h : VDs K G H [d, d', d2] xs) : ∃ v v' v2, xs = [v, v', v2] ∧ VD K G H d v ∧ VD K G H d' v' ∧ VD K G H d2 v2 := by
  cases h with | cons h1 h2 => cases h2 with | cons h3 h4 => cases h4 with | cons h5 h6 => cases h6; exact ⟨_, _, _, rfl, h1, h3, h5⟩
theorem rangeDC_get {lo c : Int} {n i : Nat} {d : Dv} (h : (rangeDC lo c n)[i]? = some d) : i < n ∧ d = .int (lo + (i : Nat) * c) := by
  unfold rangeDC at h
  rw [List.getElem?_map] at h
  cases hr : (List.range n)[i]? with
  | none => rw [hr] at h; cases h
  | some j =>
    rw [hr] at h
    obtain ⟨hl, hj⟩ := List.getElem?_eq_some_iff.mp hr
    rw [List.getElem_range] at hj
    subst hj
    cases h
    exact ⟨by simpa using hl, rfl⟩
theorem jok_rngC {K : PySem.W.Frag} {G : Hp} {lo c : Int} {n : Nat} : Jok K G (Itc lo c n) (rangeDC lo c n) := fun i G1 H1 s gh => by
  refine ⟨fun d hd => ?_, fun hl => (show n ≤ i by simpa [rangeDC] using hl)⟩
  obtain ⟨hi, rfl⟩ := rangeDC_get hd
  exact ⟨hi, fun x H2 ⟨e1, e2⟩ => .inl ⟨e1, by subst e2; exact .int _⟩⟩
theorem jok_rev {K : PySem.W.Frag} {G : Hp} {a : Addr} {ds : List Dv} {vs : List V} (h : SqL K G a vs) (q : DpAll K G vs ds) : Jok K G (Itv K a vs.length) ds.reverse := fun i G1 H1 s gh => by
  have hs : SqL K H1 a vs := (s.trans (sub_le gh)).sqL h
  have l := dpAll_length q
  refine ⟨fun d hd => ?_, fun hl => ?_⟩
  · have hi : i < ds.length := by have := (List.getElem?_eq_some_iff.mp hd).1; simpa using this
    rw [List.getElem?_reverse hi] at hd
    obtain ⟨v, hv, qv⟩ := dpAll_get q hd
    have hv' : vs[vs.length - 1 - i]? = some v := by rw [l]; exact hv
    refine ⟨?_, fun x H2 y => ?_⟩
    · exact ⟨by omega, vs, v, hs, hv'⟩
    · obtain ⟨e1, e2⟩ := y
      have := e2 vs hs
      rw [hv'] at this
      cases this
      exact .inl ⟨e1, dp_mono s _ _ qv⟩
  · exact (show vs.length ≤ i by simpa [l] using hl)
theorem jok_revT {K : PySem.W.Frag} {G : Hp} {a : Addr} {ds : List Dv} {vs : List V} (h : SqT K G a vs) (q : DpAll K G vs ds) : Jok K G (RT.ItvT K a vs.length) ds.reverse := fun i G1 H1 s gh => by
  have hs : SqT K H1 a vs := (s.trans (sub_le gh)).sqT h
  have l := dpAll_length q
  refine ⟨fun d hd => ?_, fun hl => ?_⟩
  · have hi : i < ds.length := by have := (List.getElem?_eq_some_iff.mp hd).1; simpa using this
    rw [List.getElem?_reverse hi] at hd
    obtain ⟨v, hv, qv⟩ := dpAll_get q hd
    have hv' : vs[vs.length - 1 - i]? = some v := by rw [l]; exact hv
    refine ⟨?_, fun x H2 y => ?_⟩
    · exact ⟨by omega, vs, v, hs, hv'⟩
    · obtain ⟨e1, e2⟩ := y
      have := e2 vs hs
      rw [hv'] at this
      cases this
      exact .inl ⟨e1, dp_mono s _ _ qv⟩
  · exact (show vs.length ≤ i by simpa [l] using hl)
def iRevS (f : M) : ML := fun ρ => (iSeq f ρ).bind fun x => some (x.1.reverse, x.2)
theorem di_rev (hg : Gl X "reversed") (hm : X.mg "reversed" = none) (he : PE X e (TE' X.K ix f)) (hs : starEach [e] X.env = (false, eval e X.env) :: starEach [] X.env := by rfl) : PI X tg (.Call (.Name "reversed" p) [e] [] pos) (TI' X.K ix (iRevS f)) :=
  pi_imp (RT.pi_revA hg hm (de_fr he) hs) fun σ H R ⟨Fr, FX, G, ρ, ds, ρ', R0, hf, k⟩ => by
    unfold iRevS iSeq at hf
    obtain ⟨⟨ds0, ρ1⟩, hq, hf⟩ := Option.bind_eq_some_iff.mp hf
    cases hf
    obtain ⟨⟨r0, ρ0⟩, h0, hq⟩ := Option.bind_eq_some_iff.mp hq
    refine ⟨Fr, FX, G, ρ, r0, ρ0, R0, h0, fun v G1 H1 s1 R1 q => ?_⟩
    cases r0 with
    | ow o => cases hq
    | fd o => cases hq
    | al i => cases hq
    | sh d =>
      simp only at hq
      obtain ⟨es, he, hq⟩ := Option.bind_eq_some_iff.mp hq
      cases hq
      have q' : Dp X.K G1 v d := q
      cases d with
      | list ds =>
        cases he
        cases q' with
        | lst hs ha => exact ⟨_, _, rfl, .inl ⟨R1.sub.sqL hs, k _ G1 H1 s1 R1 (jok_rev hs ha)⟩⟩
      | tuple ds =>
        cases he
        cases q' with
        | tup hs ha => exact ⟨_, _, rfl, .inr ⟨R1.sub.sqT hs, k _ G1 H1 s1 R1 (jok_revT hs ha)⟩⟩
      | none => cases he
      | bool b => cases he
      | int b => cases he
      | str b => cases he
      | dict b => cases he
theorem di_range3 {c : Expr} (hg : Gl X "range") (hm : X.mg "range" = none) (ha : PA X [a, b, c] (TA' X.K ix ga)) (h1 : starEach [a, b, c] X.env = (false, eval a X.env) :: starEach [b, c] X.env := by rfl) (h2 : (backTo pos (starEach [b, c] X.env)).any (·.1) = false := by rfl) :
    PI X tg (.Call (.Name "range" p) [a, b, c] [] pos) (TI' X.K ix (iRng rng3 ga)) :=
  pi_imp (pi_range3 hg hm ha h1 h2) fun σ H R h => rng_open h fun G1 H1 vs ds es gh vd hr k => by
    unfold rng3 at hr
    split at hr
    · split at hr
      · rename_i hb
        cases hr
        obtain ⟨v, v', v2, rfl, hv, hv', hv2⟩ := vds3 vd
        rw [vd_int hv, vd_int hv', vd_int hv2]
        have h1 := of_decide_eq_true hb.1
        have h2 := of_decide_eq_true hb.2.1
        rw [hb.2.2]
        exact ⟨_, _, _, _, rfl, RgC.neg h1.1 h1.2 h2.1 h2.2, k _ jok_rngC⟩
      · cases hr
    · cases hr

/-! ### wiped slots -/
def wipeR : Rho → List Nat → Rho
  | ρ, [] => ρ
  | ρ, i :: is => (wipeR ρ is).set i .no
theorem wipeR_length (ρ : Rho) : ∀ is : List Nat, (wipeR ρ is).length = ρ.length
  | [] => rfl
  | i :: is => by unfold wipeR; rw [List.length_set, wipeR_length ρ is]
theorem wipeR_out {ρ : Rho} {j : Nat} : ∀ {is : List Nat}, j ∉ is → (wipeR ρ is)[j]? = ρ[j]?
  | [], _ => rfl
  | i :: is, h => by
    unfold wipeR
    rw [List.getElem?_set_ne (fun z => h (by rw [z]; exact List.mem_cons_self)), wipeR_out fun z => h (List.mem_cons_of_mem _ z)]
theorem wipeR_in {ρ : Rho} {j : Nat} {s : Sl} : ∀ {is : List Nat}, j ∈ is → (wipeR ρ is)[j]? = some s → s = .no
  | i :: is, h, e => by
    unfold wipeR at e
    by_cases hj : i = j
    · subst hj
      have hl : i < (wipeR ρ is).length := by
        have := (List.getElem?_eq_some_iff.mp e).1
        simpa using this
      rw [List.getElem?_set_self hl] at e
      exact (Option.some.inj e).symm
    · rw [List.getElem?_set_ne hj] at e
      exact wipeR_in (List.mem_of_ne_of_mem (fun z => hj z.symm) h) e
theorem wipe_in {σ : L2.St} {j : Nat} {s : Option V} : ∀ {is : List Nat}, j ∈ is → (wipe σ is)[j]? = some s → s = none
  | i :: is, h, e => by
    unfold wipe at e
    by_cases hj : i = j
    · subst hj
      have hl : i < (wipe σ is).length := by
        have := (List.getElem?_eq_some_iff.mp e).1
        simpa using this
      rw [List.getElem?_set_self hl] at e
      exact (Option.some.inj e).symm
    · rw [List.getElem?_set_ne hj] at e
      exact wipe_in (List.mem_of_ne_of_mem (fun z => hj z.symm) h) e
theorem wipe_eq {σ τ : L2.St} {is : List Nat} (hl : σ.length = τ.length) (h : ∀ j, j ∉ is → σ[j]? = τ[j]?) : wipe σ is = wipe τ is := by
  refine List.ext_getElem? fun j => ?_
  by_cases hj : j ∈ is
  · by_cases hlt : j < σ.length
    · have h1 : j < (wipe σ is).length := by rw [wipe_length]; exact hlt
      have h2 : j < (wipe τ is).length := by rw [wipe_length]; omega
      have e1 := List.getElem?_eq_getElem h1
      have e2 := List.getElem?_eq_getElem h2
      rw [e1, e2, wipe_in hj e1, wipe_in hj e2]
    · rw [List.getElem?_eq_none (by rw [wipe_length]; omega), List.getElem?_eq_none (by rw [wipe_length]; omega)]
  · rw [wipe_out hj, wipe_out hj]
    exact h j hj
theorem wipe_wipe {σ : L2.St} {is : List Nat} : wipe (wipe σ is) is = wipe σ is := wipe_eq (wipe_length _ _) fun j hj => wipe_out hj
theorem RS.wiped {K : PySem.W.Frag} {Fr G H : Hp} {FX : Nat → Option V} {ρ : Rho} {σ : L2.St} {own : List Nat} (R : RS K ix Fr FX G ρ σ H) (ho : ∀ i ∈ own, i ∉ ix) : RS K ix Fr FX G (wipeR ρ own) (wipe σ own) H := by
  refine ⟨R.gh, R.fh, R.gf, by rw [wipeR_length, wipe_length]; exact R.len, fun i s e => ?_, fun i j a o o' ne e1 e2 e3 e4 => ?_, fun i v e => ?_⟩
  · by_cases hi : i ∈ own
    · rw [wipeR_in hi e]; trivial
    · rw [wipeR_out hi] at e
      rw [wipe_out hi]
      exact R.sl i s e
  · by_cases hi : i ∈ own
    · cases wipeR_in hi e1
    · by_cases hj : j ∈ own
      · cases wipeR_in hj e2
      · rw [wipeR_out hi] at e1
        rw [wipeR_out hj] at e2
        rw [wipe_out hi] at e3
        rw [wipe_out hj] at e4
        exact R.sep i j a o o' ne e1 e2 e3 e4
  · obtain ⟨h1, h2⟩ := R.fx i v e
    have hi : i ∉ own := fun z => ho i z h1
    exact ⟨h1, by rw [wipe_out hi]; exact h2⟩
/-- an object outside changes -/
theorem RS.out {K : PySem.W.Frag} {Fr G H : Hp} {FX : Nat → Option V} {ρ : Rho} {σ : L2.St} {p : Addr} {u : HO} (R : RS K ix Fr FX G ρ σ H) (g : G p = none) (f0 : Fr p = none) (hn : ∀ (i : Nat) (o' : Ob), ρ[i]? = some (.ow o') → σ[i]? ≠ some (some (.ref p))) : RS K ix Fr FX G ρ σ (upd H p u) := by
  refine ⟨fun a o e => ?_, fun a o e => ?_, R.gf, R.len, fun i s e => ?_, R.sep, R.fx⟩
  · have ha : a ≠ p := fun z => by subst z; rw [g] at e; cases e
    rw [upd_ne ha]; exact R.gh a o e
  · have ha : a ≠ p := fun z => by subst z; rw [f0] at e; cases e
    rw [upd_ne ha]; exact R.fh a o e
  · refine (R.sl i s e).mono (Sub.refl _) fun a o' e1 e2 g' f' => ?_
    have ha : a ≠ p := fun z => by subst z; subst e2; exact hn i _ e e1
    rw [upd_ne ha]
    exact ⟨g', rfl⟩

/-! ### comprehensions over one source -/
def cYes : MB := fun ρ => some (true, ρ)
def lcS (own : List Nat) (t : MT) (c : MB) (fe : M) : List Dv → List Dv → Rho → Option (List Dv × Rho)
  | [], acc, ρ => some (acc, ρ)
  | d :: ds, acc, ρ => (t d (wipeR ρ own)).bind fun ρ1 => (c ρ1).bind fun x => if x.1 = true then (frM fe x.2).bind fun y => (match y.1 with
      | .sh e => if acc.length < sizeLine then lcS own t c fe ds (acc ++ [e]) y.2 else none
      | _ => none) else lcS own t c fe ds acc x.2
/-- own slots as they were -/
def putB (ρ ρ0 : Rho) : List Nat → Rho
  | [] => ρ
  | i :: is => match ρ0[i]? with
    | some s => (putB ρ ρ0 is).set i s
    | none => putB ρ ρ0 is
def noOw (ρ : Rho) (own : List Nat) : Bool := own.all fun i => match ρ[i]? with
  | some (.ow _) => false
  | _ => true
def eLc (own : List Nat) (fi : ML) (t : MT) (c : MB) (fe : M) : M := fun ρ => (fi ρ).bind fun x => if noOw x.2 own = true then (lcS own t c fe x.1 [] x.2).bind fun y => some (.ow (.lst y.1), putB y.2 x.2 own) else none
theorem putB_length (ρ ρ0 : Rho) : ∀ is : List Nat, (putB ρ ρ0 is).length = ρ.length
  | [] => rfl
  | i :: is => by
    unfold putB
    split
    · rw [List.length_set, putB_length ρ ρ0 is]
    · exact putB_length ρ ρ0 is
theorem putB_out {ρ ρ0 : Rho} {j : Nat} : ∀ {is : List Nat}, j ∉ is → (putB ρ ρ0 is)[j]? = ρ[j]?
  | [], _ => rfl
  | i :: is, h => by
    unfold putB
    split
    · rw [List.getElem?_set_ne (fun z => h (by rw [z]; exact List.mem_cons_self)), putB_out fun z => h (List.mem_cons_of_mem _ z)]
    · exact putB_out fun z => h (List.mem_cons_of_mem _ z)
theorem putB_in {ρ ρ0 : Rho} {j : Nat} {s : Sl} (hl : ρ0.length = ρ.length) : ∀ {is : List Nat}, j ∈ is → (putB ρ ρ0 is)[j]? = some s → ρ0[j]? = some s
  | i :: is, h, e => by
    unfold putB at e
    by_cases hj : i = j
    · subst hj
      split at e
      · rename_i s' hs'
        have hlt : i < (putB ρ ρ0 is).length := by
          have := (List.getElem?_eq_some_iff.mp e).1
          simpa using this
        rw [List.getElem?_set_self hlt] at e
        rw [hs']; exact e
      · rename_i hs'
        have h1 : i < ρ.length := by
          have := (List.getElem?_eq_some_iff.mp e).1
          rw [putB_length] at this
          exact this
        rw [List.getElem?_eq_getElem (by omega)] at hs'
        cases hs'
    · have h' : j ∈ is := List.mem_of_ne_of_mem (fun z => hj z.symm) h
      split at e
      · rw [List.getElem?_set_ne hj] at e
        exact putB_in hl h' e
      · exact putB_in hl h' e
theorem RS.unwiped {K : PySem.W.Frag} {Fr G0 H0 G H : Hp} {FX : Nat → Option V} {ρ ρ0 : Rho} {σ : L2.St} {own : List Nat} (R0 : RS K ix Fr FX G0 ρ0 σ H0) (R : RS K ix Fr FX G (wipeR ρ own) (wipe σ own) H) (s : Sub G0 G) (hn : noOw ρ0 own = true) :
    RS K ix Fr FX G (putB ρ ρ0 own) σ H := by
  have hlen : ρ.length = σ.length := by have := R.len; rw [wipeR_length, wipe_length] at this; exact this
  have hlen0 : ρ0.length = ρ.length := by rw [R0.len, hlen]
  have nw : ∀ {i : Nat} {o : Ob}, i ∈ own → ρ0[i]? ≠ some (.ow o) := fun {i o} hi e => by
    have := List.all_eq_true.mp hn i hi
    rw [e] at this
    cases this
  refine ⟨R.gh, R.fh, R.gf, by rw [putB_length]; exact hlen, fun i s' e => ?_, fun i j a o o' ne e1 e2 e3 e4 => ?_, R0.fx⟩
  · by_cases hi : i ∈ own
    · have e' := putB_in hlen0 hi e
      refine (R0.sl i s' e').mono s fun a o e1 e2 => ?_
      subst e2
      exact absurd e' (nw hi)
    · rw [putB_out hi] at e
      have := R.sl i s' (by rw [wipeR_out hi]; exact e)
      rw [wipe_out hi] at this
      exact this
  · by_cases hi : i ∈ own
    · exact absurd (putB_in hlen0 hi e1) (nw hi)
    · by_cases hj : j ∈ own
      · exact absurd (putB_in hlen0 hj e2) (nw hj)
      · rw [putB_out hi] at e1
        rw [putB_out hj] at e2
        exact R.sep i j a o o' ne (by rw [wipeR_out hi]; exact e1) (by rw [wipeR_out hj]; exact e2) (by rw [wipe_out hi]; exact e3) (by rw [wipe_out hj]; exact e4)
theorem wipeR_wipeR (ρ : Rho) (is : List Nat) : wipeR (wipeR ρ is) is = wipeR ρ is := by
  refine List.ext_getElem? fun j => ?_
  by_cases hj : j ∈ is
  · by_cases hlt : j < ρ.length
    · have h1 : j < (wipeR (wipeR ρ is) is).length := by rw [wipeR_length, wipeR_length]; exact hlt
      have h2 : j < (wipeR ρ is).length := by rw [wipeR_length]; exact hlt
      have e1 := List.getElem?_eq_getElem h1
      have e2 := List.getElem?_eq_getElem h2
      rw [e1, e2, wipeR_in hj e1, wipeR_in hj e2]
    · rw [List.getElem?_eq_none (by rw [wipeR_length, wipeR_length]; omega), List.getElem?_eq_none (by rw [wipeR_length]; omega)]
  · rw [wipeR_out hj]
variable {own tis : List Nat} {fi : ML} {t : MT} {c : MB} {fe : M}
theorem lc_ok {σ : L2.St} {H : Hp} {Q : VK} (ho : ∀ i ∈ own, i ∉ ix) (ht : ∀ i ∈ tis, i ∈ own) (h : TE' X.K ix (eLc own fi t c fe) σ H Q) :
    tLc (TI' X.K ix fi) (TG' X.K ix tis t) (TT' X.K ix c) (TE' X.K ix (frM fe)) own σ H Q := by
  obtain ⟨Fr, FX, G, ρ, r, ρ', R, hf, k⟩ := h
  unfold eLc at hf
  obtain ⟨⟨ds, ρ0⟩, h0, hf⟩ := Option.bind_eq_some_iff.mp hf
  simp only at hf
  split at hf
  rotate_left
  · cases hf
  rename_i hno
  obtain ⟨⟨accF, ρF⟩, h1, hf⟩ := Option.bind_eq_some_iff.mp hf
  cases hf
  refine ⟨Fr, FX, G, ρ, ds, ρ0, R, h0, fun J G0 H0 s0 R0 jk D hD => ?_⟩
  have gD := (R0.none_of hD).1
  have fD := (R0.none_of hD).2
  refine ⟨fun i m H => m = ds.length - i ∧ i ≤ ds.length ∧ ∃ G1 ρ1 acc accv, Sub G0 G1 ∧ H D = some (.lst accv) ∧ DpAll X.K G1 accv acc ∧ RS X.K ix (upd Fr D (.lst accv)) FX G1 (wipeR ρ1 own) (wipe σ own) H ∧ lcS own t c fe (ds.drop i) acc ρ1 = some (accF, ρF),
    ⟨ds.length, by simp, Nat.zero_le _, G0, ρ0, [], [], Sub.refl _, upd_same, .nil, ?_, h1⟩, ?_⟩
  · exact ((R0.wiped ho).newH hD).frame gD upd_same ((R0.wiped ho).notIn hD)
  rintro i m H1 ⟨rfl, hle, G1, ρ1, acc, accv, s1, hv, qa, R1, e1⟩
  have gD1 : G1 D = none := R1.gf D (by rw [upd_same]; simp)
  obtain ⟨j1, j2⟩ := jk i G1 H1 s1 R1.gh
  by_cases hlt : i < ds.length
  · have hd : ds[i]? = some ds[i] := List.getElem?_eq_getElem hlt
    obtain ⟨j3, j4⟩ := j1 _ hd
    rw [List.drop_eq_getElem_cons hlt] at e1
    unfold lcS at e1
    obtain ⟨ρ2, e2, e1⟩ := Option.bind_eq_some_iff.mp e1
    obtain ⟨⟨kb, ρ3⟩, e3, e1⟩ := Option.bind_eq_some_iff.mp e1
    refine .inr ⟨j3, fun H => ∃ G1 ρ1 acc accv, Sub G0 G1 ∧ H D = some (.lst accv) ∧ DpAll X.K G1 accv acc ∧ RS X.K ix (upd Fr D (.lst accv)) FX G1 (wipeR ρ1 own) (wipe σ own) H ∧ lcS own t c fe (ds.drop (i + 1)) acc ρ1 = some (accF, ρF), fun H' w => ⟨ds.length - (i + 1), by omega, rfl, hlt, w⟩, fun x H2 y => ?_⟩
    have key : ∃ G2, Sub G1 G2 ∧ RS X.K ix (upd Fr D (.lst accv)) FX G2 (wipeR ρ1 own) (wipe σ own) H2 ∧ Dp X.K G2 x ds[i] := by
      rcases j4 x H2 y with ⟨rfl, q⟩ | ⟨p, o, hp, rfl, q⟩
      · exact ⟨G1, Sub.refl _, R1, q⟩
      · exact ⟨_, sub_upd (R1.none_of hp).1, R1.newG hp, q⟩
    obtain ⟨G2, s2, R2, q⟩ := key
    refine ⟨_, FX, G2, _, _, ρ2, R2, q, e2, fun G3 σ3 H3 s3 n3 R3 => ?_⟩
    have hw : wipe σ3 own = wipe σ own := by
      have := wipe_eq (is := own) n3.1 fun j hj => n3.2 j fun z => hj (ht j z)
      rw [this, wipe_wipe]
    refine ⟨hw, _, FX, G3, ρ2, kb, ρ3, R3, e3, fun G4 H4 s4 R4 => ?_⟩
    cases kb with
    | false =>
      rw [if_neg Bool.false_ne_true]
      simp only [Bool.false_eq_true, if_false] at e1
      have W4 := R4.wiped (own := own) ho
      rw [hw] at W4
      exact ⟨G4, ρ3, acc, accv, ((s1.trans s2).trans s3).trans s4, R4.fh D _ upd_same, dpAll_mono ((s2.trans s3).trans s4) _ _ qa, W4, e1⟩
    | true =>
      rw [if_pos rfl]
      simp only [if_true] at e1
      obtain ⟨⟨r5, ρ5⟩, e5, e1⟩ := Option.bind_eq_some_iff.mp e1
      refine ⟨_, FX, G4, ρ3, r5, ρ5, R4, e5, fun z G5 H5 s5 R5 v5 => ?_⟩
      cases r5 with
      | ow o => cases e1
      | fd o => cases e1
      | al o => cases e1
      | sh d5 =>
        simp only at e1
        split at e1
        · rename_i hz
          have hD5 : H5 D = some (.lst accv) := R5.fh D _ upd_same
          have gD5 : G5 D = none := R5.gf D (by rw [upd_same]; simp)
          refine ⟨accv, hD5, by rw [dpAll_length qa]; exact hz, ?_⟩
          have W5 := R5.wiped (own := own) ho
          rw [hw] at W5
          have nD : ∀ (i : Nat) (o' : Ob), (wipeR ρ5 own)[i]? = some (.ow o') → (wipe σ own)[i]? ≠ some (some (.ref D)) := fun i o' z1 z2 => by
            obtain ⟨a, ea, _, fa, _⟩ := W5.sl i _ z1
            rw [z2] at ea
            cases ea
            rw [upd_same] at fa
            cases fa
          have W6 := (W5.unframe fD).out (u := .lst (accv ++ [z])) gD5 fD nD
          have s6 : Sub G1 G5 := ((s2.trans s3).trans s4).trans s5
          exact ⟨G5, ρ5, acc ++ [d5], accv ++ [z], s1.trans s6, upd_same, dpAll_append (dpAll_mono s6 _ _ qa) (.cons v5 .nil), W6.frame gD5 upd_same nD, e1⟩
        · cases e1
  · have hi : i = ds.length := by omega
    subst hi
    rw [List.drop_length] at e1
    unfold lcS at e1
    cases e1
    refine .inl ⟨j2 (Nat.le_refl _), ?_⟩
    have nD : ∀ (i : Nat) (o' : Ob), (wipeR ρF own)[i]? = some (.ow o') → (wipe σ own)[i]? ≠ some (some (.ref D)) := fun i o' z1 z2 => by
      obtain ⟨a, ea, _, fa, _⟩ := R1.sl i _ z1
      rw [z2] at ea
      cases ea
      rw [upd_same] at fa
      cases fa
    have RZ := RS.unwiped R0 (R1.unframe fD) s1 hno
    refine k _ G1 H1 (s0.trans s1) RZ ⟨D, rfl, gD1, fD, ⟨accv, hv, qa⟩, fun i o' z1 z2 => ?_⟩
    by_cases hi : i ∈ own
    · have hl : ρ0.length = ρF.length := by
        have l1 := R0.len
        have l2 := R1.len
        rw [wipeR_length, wipe_length] at l2
        omega
      have e' := putB_in hl hi z1
      have := List.all_eq_true.mp hno i hi
      rw [e'] at this
      cases this
    · rw [putB_out hi] at z1
      exact nD i o' (by rw [wipeR_out hi]; exact z1) (by rw [wipe_out hi]; exact z2)
theorem dp_nil : PTs X [] (TT' X.K ix cYes) := pts_imp pts_nil fun σ H Q ⟨Fr, FX, G, ρ, b, ρ', R, hf, k⟩ => by
  cases hf
  exact k G H (Sub.refl _) R
theorem dp_one {e : Expr} (h : PT X e (TT' X.K ix c)) : PTs X [e] (TT' X.K ix c) := pts_one h
end
end DL

set_option Elab.async false
set_option linter.all false
set_option autoImplicit false
set_option maxRecDepth 100000
set_option maxHeartbeats 1000000
namespace DL
open PySem PySem.Spec PyProof.Rows L2

section
variable {X : Cx} {ix : List Nat} {e a b : Expr} {es : List Expr} {f fa fb fc : M} {ga : MA} {g : MS} {pos p : Pos}
variable {tis : List Nat} {fi : ML} {t : MT} {c : MB} {fe : M}
theorem de_lc {elt tg iter : Expr} {ifs : List Expr} {scope : Scope} {own : List (Str × Nat)} (hc : X.calm = true) (hN : X.N.Nodup) (hi : PI X tg iter (TI' X.K ix fi)) (ok : BlkOk X.N X.env.scope scope own)
    (hg : ∀ (s : Shared) (H : Hp) (C : Addr) (cl : List (Str × Addr)) (fp : List Addr), PG (X.blk s H scope (compEnvC scope cl C X.env) fp) tg (TG' X.K ix tis t))
    (ht : ∀ (s : Shared) (H : Hp) (C : Addr) (cl : List (Str × Addr)) (fp : List Addr), PTs (X.blk s H scope (compEnvC scope cl C X.env) fp) ifs (TT' X.K ix c))
    (he : ∀ (s : Shared) (H : Hp) (C : Addr) (cl : List (Str × Addr)) (fp : List Addr), PE (X.blk s H scope (compEnvC scope cl C X.env) fp) elt (TE' X.K ix fe))
    (ho : ∀ i ∈ own.map (·.2), i ∉ ix := by decide) (hti : ∀ i ∈ tis, i ∈ own.map (·.2) := by decide) (hs : ∀ x, foldedSetIterable iter X.env x = pure x := by intro _; rfl) :
    PE X (.ListComp elt [⟨tg, iter, ifs, 0⟩] scope pos) (TE' X.K ix (eLc (own.map (·.2)) fi t c fe)) :=
  pe_imp (pe_lc hc hN hi ok hg ht (fun s H C cl fp => de_fr (he s H C cl fp)) hs) fun _ _ _ h => lc_ok ho hti h
theorem ds_setLc {i : Nat} {y : Str} {py spos : Pos} {elt tg iter : Expr} {ifs : List Expr} {scope : Scope} {own : List (Str × Nat)} (hc : X.calm = true) (hN : X.N.Nodup) (hy : X.N[i]? = some y) (hyl : X.env.scope.names.lookup y = some .local) (hix : i ∉ ix)
    (hsw : swapsWith (.ListComp elt [⟨tg, iter, ifs, 0⟩] scope pos) (some (.Name y py)) spos.line X.env = pure true) (hi : PI X tg iter (TI' X.K ix fi)) (ok : BlkOk X.N X.env.scope scope own)
    (hg : ∀ (s : Shared) (H : Hp) (C : Addr) (cl : List (Str × Addr)) (fp : List Addr), PG (X.blk s H scope (compEnvC scope cl C X.env) fp) tg (TG' X.K ix tis t))
    (ht : ∀ (s : Shared) (H : Hp) (C : Addr) (cl : List (Str × Addr)) (fp : List Addr), PTs (X.blk s H scope (compEnvC scope cl C X.env) fp) ifs (TT' X.K ix c))
    (he : ∀ (s : Shared) (H : Hp) (C : Addr) (cl : List (Str × Addr)) (fp : List Addr), PE (X.blk s H scope (compEnvC scope cl C X.env) fp) elt (TE' X.K ix fe))
    (ho : ∀ i ∈ own.map (·.2), i ∉ ix := by decide) (hti : ∀ i ∈ tis, i ∈ own.map (·.2) := by decide) (hs : ∀ x, foldedSetIterable iter X.env x = pure x := by intro _; rfl) :
    PS X (.Assign [.Name y py] (.ListComp elt [⟨tg, iter, ifs, 0⟩] scope pos) spos) (TS' X.K ix (sSet i (eLc (own.map (·.2)) fi t c fe))) :=
  ps_imp (ps_setLc hc hN hy hyl hsw hi ok hg ht (fun s H C cl fp => de_fr (he s H C cl fp)) hs) fun _ _ _ h => lc_ok ho hti (asg_ok hix h)

/-! ### a def -/
def okA : Nat → List Nat → List Sl → Bool
  | _, _, [] => true
  | n, ix, .ow _ :: as => ix.contains n && okA (n + 1) ix as
  | n, ix, _ :: as => okA (n + 1) ix as
def outA : Nat → List Nat → List Sl → Rho → List Sl
  | n, ix, s :: as, r :: ρ => (if ix.contains n = true then r else s) :: outA (n + 1) ix as ρ
  | n, ix, _ :: as, [] => .no :: outA (n + 1) ix as []
  | _, _, [], _ => []
def runF (np N : Nat) (ix : List Nat) (g : MS) : FnS := fun as => if okA 0 ix as = true then (g (as ++ List.replicate (N - np) .no)).bind fun fl => (match fl with
  | .nx ρ => some (.sh .none, outA 0 ix as ρ)
  | .rt (.sh d) ρ => some (.sh d, outA 0 ix as ρ)
  | .rt (.ow o) ρ => some (.ow o, outA 0 ix as ρ)
  | .rt (.fd o) ρ => some (.fd o, outA 0 ix as ρ)
  | _ => none) else none
theorem okA_get : ∀ {as : List Sl} {n i : Nat} {o : Ob}, okA n ix as = true → as[i]? = some (.ow o) → n + i ∈ ix
  | [], n, i, o, h, e => by simp at e
  | .ow o' :: as, n, 0, o, h, e => by
    unfold okA at h
    rw [Bool.and_eq_true] at h
    simpa using h.1
  | .ow o' :: as, n, i + 1, o, h, e => by
    unfold okA at h
    rw [Bool.and_eq_true] at h
    have := okA_get h.2 (i := i) (by simpa using e)
    rw [show n + (i + 1) = n + 1 + i by omega]
    exact this
  | .no :: as, n, 0, o, h, e => by simp at e
  | .sh d :: as, n, 0, o, h, e => by simp at e
  | .fd d :: as, n, 0, o, h, e => by simp at e
  | .fd d :: as, n, i + 1, o, h, e => by
    have h' : okA (n + 1) ix as = true := h
    have := okA_get h' (i := i) (by simpa using e)
    rw [show n + (i + 1) = n + 1 + i by omega]
    exact this
  | .no :: as, n, i + 1, o, h, e => by
    have h' : okA (n + 1) ix as = true := h
    have := okA_get h' (i := i) (by simpa using e)
    rw [show n + (i + 1) = n + 1 + i by omega]
    exact this
  | .sh d :: as, n, i + 1, o, h, e => by
    have h' : okA (n + 1) ix as = true := h
    have := okA_get h' (i := i) (by simpa using e)
    rw [show n + (i + 1) = n + 1 + i by omega]
    exact this
theorem outA_get : ∀ {as : List Sl} {ρ : Rho} {n i : Nat} {s : Sl}, (outA n ix as ρ)[i]? = some s → (n + i ∈ ix ∧ ρ[i]? = some s) ∨ (n + i ∉ ix ∧ as[i]? = some s) ∨ s = .no
  | [], [], n, i, s, e => by unfold outA at e; simp at e
  | [], _ :: _, n, i, s, e => by unfold outA at e; simp at e
  | s0 :: as, [], n, 0, s, e => by
    unfold outA at e
    simp only [List.getElem?_cons_zero, Option.some.injEq] at e
    exact .inr (.inr e.symm)
  | s0 :: as, [], n, i + 1, s, e => by
    unfold outA at e
    simp only [List.getElem?_cons_succ] at e
    rw [show n + (i + 1) = n + 1 + i by omega]
    simp only [List.getElem?_cons_succ]
    rcases outA_get e with ⟨_, h⟩ | h | h
    · simp at h
    · exact .inr (.inl h)
    · exact .inr (.inr h)
  | s0 :: as, r :: ρ, n, 0, s, e => by
    unfold outA at e
    simp only [List.getElem?_cons_zero, Option.some.injEq] at e
    by_cases h : n ∈ ix
    · rw [if_pos (by simpa using h)] at e
      exact .inl ⟨by simpa using h, by simp [e]⟩
    · rw [if_neg (by simpa using h)] at e
      exact .inr (.inl ⟨by simpa using h, by simp [e]⟩)
  | s0 :: as, r :: ρ, n, i + 1, s, e => by
    unfold outA at e
    simp only [List.getElem?_cons_succ] at e
    rw [show n + (i + 1) = n + 1 + i by omega]
    simp only [List.getElem?_cons_succ]
    exact outA_get e
theorem outA_length : ∀ {as : List Sl} {ρ : Rho} {n : Nat}, (outA n ix as ρ).length = as.length
  | [], [], n => by unfold outA; rfl
  | [], _ :: _, n => by unfold outA; rfl
  | s0 :: as, [], n => by
    unfold outA
    simp only [List.length_cons]
    rw [outA_length]
  | s0 :: as, r :: ρ, n => by
    unfold outA
    simp only [List.length_cons]
    rw [outA_length]
theorem fn_d {P : Program} {w : World} {K : PySem.W.Frag} {mg : Str → Option Value} {base : Heap} {x qual : Str} {st : Stmt} {fA : Addr} {fd : FuncData} {N ps : List Str} {k : Nat} (F : Fun K x qual st fA fd) (S : FnScope N ps (defScope st)) (ix : List Nat) (g : MS)
    (hN : ps.length ≤ N.length := by decide)
    (hb : ∀ (cdv : Value) (A : Around) (outer : List Env) (s : Shared) (H : Hp) (E : XK), Room k (A.deeper (envOfC qual (defScope st) s.heap.objs.size fA cdv)) →
      PSs (cxOf CX0 P w K mg base N qual (defScope st) fA cdv A outer s H E).nox (defBody st) (TS' K ix g)) : FnOk P w K mg base CX0 (k + 1) fA fd ps (spD K ps.length (runF ps.length N.length ix g)) := by
  refine F.ok S (fun vs H Q E h => ?_) (fun cdv A outer s H vs Q E hr h => ⟨_, hb cdv A outer s H E hr, ?_⟩)
  · obtain ⟨_, _, _, _, _, h, _⟩ := h
    exact h
  · obtain ⟨Fr, G, as, r, as', hl, R, hF, kk⟩ := h
    unfold runF at hF
    split at hF
    rotate_left
    · cases hF
    rename_i hok
    obtain ⟨fl, hg, hF⟩ := Option.bind_eq_some_iff.mp hF
    have la : as.length = vs.length := by have := R.len; simpa using this
    have sget : ∀ {i : Nat}, i < vs.length → (L2.start N vs)[i]? = (vs.map some)[i]? := fun {i} h => by
      unfold L2.start
      rw [List.getElem?_append_left (by simpa using h)]
    have gget : ∀ {i : Nat} {v : V}, vs[i]? = some v → (L2.start N vs)[i]? = some (some v) := fun {i v} e => by
      rw [sget (List.getElem?_eq_some_iff.mp e).1, List.getElem?_map, e]
      rfl
    have R0 : RS K ix Fr (fun i => if i ∈ ix then vs[i]? else none) G (as ++ List.replicate (N.length - ps.length) .no) (L2.start N vs) H := by
      refine ⟨R.gh, R.fh, R.gf, ?_, fun i s' e => ?_, fun i j a o o' ne e1 e2 e3 e4 => ?_, fun i v e => ?_⟩
      · unfold L2.start
        simp [la, hl]
      · by_cases hi : i < as.length
        · rw [List.getElem?_append_left hi] at e
          rw [sget (by omega)]
          exact R.sl i s' e
        · rw [List.getElem?_append_right (by omega)] at e
          have := List.eq_of_mem_replicate (List.mem_of_getElem? e)
          subst this
          trivial
      · have lt : ∀ {i : Nat} {o : Ob}, (as ++ List.replicate (N.length - ps.length) Sl.no)[i]? = some (.ow o) → i < as.length ∧ as[i]? = some (.ow o) := fun {i o} e => by
          by_cases hi : i < as.length
          · rw [List.getElem?_append_left hi] at e
            exact ⟨hi, e⟩
          · rw [List.getElem?_append_right (by omega)] at e
            have := List.eq_of_mem_replicate (List.mem_of_getElem? e)
            cases this
        obtain ⟨l1, f1⟩ := lt e1
        obtain ⟨l2, f2⟩ := lt e2
        rw [sget (by omega)] at e3 e4
        exact R.sep i j a o o' ne f1 f2 e3 e4
      · by_cases hi : i ∈ ix
        · rw [if_pos hi] at e
          exact ⟨hi, gget e⟩
        · rw [if_neg hi] at e
          cases e
    -- the arguments' slots behind the body
    have fin : ∀ {G' : Hp} {ρ : Rho} {σ' : L2.St} {H' : Hp}, Sub G G' → RS K ix Fr (fun i => if i ∈ ix then vs[i]? else none) G' ρ σ' H' → RS K [] Fr (fun _ => none) G' (outA 0 ix as ρ) (vs.map some) H' := by
      intro G' ρ σ' H' su R'
      have at' : ∀ {i : Nat}, i ∈ ix → i < vs.length → σ'[i]? = (vs.map some)[i]? := fun {i} hi hlt => by
        have e : vs[i]? = some vs[i] := List.getElem?_eq_getElem hlt
        obtain ⟨_, h2⟩ := R'.fx i vs[i] (by rw [if_pos hi]; exact e)
        rw [h2, List.getElem?_map, e]
        rfl
      have lt' : ∀ {i : Nat} {s : Sl}, (outA 0 ix as ρ)[i]? = some s → i < vs.length := fun {i s} e => by
        have := (List.getElem?_eq_some_iff.mp e).1
        rw [outA_length] at this
        omega
      have owix : ∀ {i : Nat} {o : Ob}, (outA 0 ix as ρ)[i]? = some (.ow o) → i ∈ ix ∧ ρ[i]? = some (.ow o) := fun {i o} e => by
        rcases outA_get e with ⟨h1, h2⟩ | ⟨h1, h2⟩ | h
        · exact ⟨by simpa using h1, h2⟩
        · exact absurd (okA_get hok h2) h1
        · cases h
      refine ⟨R'.gh, R'.fh, R'.gf, by rw [outA_length, la, List.length_map], fun i s' e => ?_, fun i j a o o' ne e1 e2 e3 e4 => ?_, fun i v z => nomatch z⟩
      · rcases outA_get e with ⟨h1, h2⟩ | ⟨h1, h2⟩ | h
        · rw [← at' (by simpa using h1) (lt' e)]
          exact R'.sl i s' h2
        · refine (R.sl i s' h2).mono su fun a o e1 e2 => ?_
          subst e2
          exact absurd (okA_get hok h2) h1
        · subst h; trivial
      · obtain ⟨h1, h2⟩ := owix e1
        obtain ⟨h3, h4⟩ := owix e2
        rw [← at' h1 (lt' e1)] at e3
        rw [← at' h3 (lt' e2)] at e4
        exact R'.sep i j a o o' ne h2 h4 e3 e4
    -- what the body gives is what the caller gets
    have out : ∀ {G' : Hp} {ρ : Rho} {σ' : L2.St} {H' : Hp} {o : Ob} {v : V}, RS K ix Fr (fun i => if i ∈ ix then vs[i]? else none) G' ρ σ' H' → VOk K Fr G' H' ρ σ' (.ow o) v → VOk K Fr G' H' (outA 0 ix as ρ) (vs.map some) (.ow o) v := by
      intro G' ρ σ' H' o v R' hv
      obtain ⟨a, rfl, g, f, c, hn⟩ := hv
      refine ⟨a, rfl, g, f, c, fun i o' e1 e2 => ?_⟩
      rcases outA_get e1 with ⟨h1, h2⟩ | ⟨h1, h2⟩ | h
      · have hi : i ∈ ix := by simpa using h1
        rw [List.getElem?_map] at e2
        cases ev : vs[i]? with
        | none => rw [ev] at e2; cases e2
        | some u =>
          rw [ev] at e2
          obtain ⟨_, h3⟩ := R'.fx i u (by rw [if_pos hi]; exact ev)
          exact hn i o' h2 (h3.trans e2)
      · exact absurd (okA_get hok h2) h1
      · cases h
    refine ⟨Fr, _, G, _, fl, R0, hg, ?_⟩
    cases fl with
    | bk ρ => cases hF
    | ct ρ => cases hF
    | nx ρ =>
      cases hF
      exact fun G' σ' H' s R' => kk .non G' H' s (fin s R') .non
    | rt r' ρ =>
      cases r' with
      | al i => cases hF
      | sh d =>
        cases hF
        exact fun G' σ' H' v s R' hv => kk v G' H' s (fin s R') hv
      | fd d =>
        cases hF
        exact fun G' σ' H' v s R' hv => kk v G' H' s (fin s R') hv
      | ow o =>
        cases hF
        exact fun G' σ' H' v s R' hv => kk v G' H' s (fin s R') (out R' hv)
end
end DL

set_option Elab.async false
set_option linter.all false
set_option autoImplicit false
set_option maxRecDepth 100000
set_option maxHeartbeats 1000000
namespace DL
open PySem PySem.Spec PyProof.Rows L2
/-! ### dicts whose keys are (nested) tuples of ints -/
mutual
theorem hash_same (w w' : World) : ∀ (d : Dv) (k : NestedKey), keyN d = some k → k.hash w = k.hash w'
  | .none, k, h => by simp only [keyN, Option.some.injEq] at h; subst h; rfl
  | .int i, k, h => by simp only [keyN, Option.some.injEq] at h; subst h; rfl
  | .tuple ds, k, h => by
    simp only [keyN, Option.map_eq_some_iff] at h
    obtain ⟨ks, h1, rfl⟩ := h
    have := hashes_same w w' ds ks h1
    simp only [NestedKey.hash, this]
  | .bool _, k, h => by simp [keyN] at h
  | .str _, k, h => by simp [keyN] at h
  | .list _, k, h => by simp [keyN] at h
  | .dict _, k, h => by simp [keyN] at h
theorem hashes_same (w w' : World) : ∀ (ds : List Dv) (ks : List NestedKey), keyNs ds = some ks → NestedKey.hashes w ks = NestedKey.hashes w' ks
  | [], ks, h => by simp only [keyNs, Option.some.injEq] at h; subst h; rfl
  | d :: ds, ks, h => by
    simp only [keyNs, Option.bind_eq_some_iff, Option.map_eq_some_iff] at h
    obtain ⟨k, h1, ks', h2, rfl⟩ := h
    simp only [NestedKey.hashes, hash_same w w' d k h1, hashes_same w w' ds ks' h2]
end
section
variable {X : Cx} {pins : List (Addr × Obj)} {σ : L2.St} {H : Hp} {s : Shared}
mutual
theorem nestedIs_of (I : Inv X pins σ H s) : ∀ (d : Dv) (v : V) (u : Value) (k : NestedKey), Dp X.K H v d → RelV v u → keyN d = some k → NestedIs s.heap k u
  | .none, v, u, k, h, r, e => by
    cases h
    simp only [keyN, Option.some.injEq] at e
    subst e
    obtain rfl : u = Value.none := r
    exact .none
  | .int i, v, u, k, h, r, e => by
    cases h
    simp only [keyN, Option.some.injEq] at e
    subst e
    obtain ⟨t, rfl⟩ := r
    exact .int i t
  | .tuple ds, v, u, k, h, r, e => by
    simp only [keyN, Option.map_eq_some_iff] at e
    obtain ⟨ks, h1, rfl⟩ := e
    cases h with
    | tup hs ha =>
      obtain rfl : u = Value.ref _ := r
      obtain ⟨its, rv, ⟨o, e1, e2, n, e3⟩, _⟩ := I.tuple hs
      exact .tup e1 e2 e3 (nestedAll_of I ds _ its ks ha rv h1)
  | .bool _, v, u, k, h, r, e => by simp [keyN] at e
  | .str _, v, u, k, h, r, e => by simp [keyN] at e
  | .list _, v, u, k, h, r, e => by simp [keyN] at e
  | .dict _, v, u, k, h, r, e => by simp [keyN] at e
theorem nestedAll_of (I : Inv X pins σ H s) : ∀ (ds : List Dv) (vs : List V) (us : List Value) (ks : List NestedKey), DpAll X.K H vs ds → Vals vs us → keyNs ds = some ks → NestedAll s.heap ks us
  | [], vs, us, ks, h, r, e => by
    cases h
    cases r
    simp only [keyNs, Option.some.injEq] at e
    subst e
    exact .nil
  | d :: ds, vs, us, ks, h, r, e => by
    simp only [keyNs, Option.bind_eq_some_iff, Option.map_eq_some_iff] at e
    obtain ⟨k, h1, ks', h2, rfl⟩ := e
    cases h with
    | cons a1 a2 =>
      cases r with
      | cons r1 r2 => exact .cons (nestedIs_of I d _ _ k a1 r1 h1) (nestedAll_of I ds _ _ ks' a2 r2 h2)
end
/-! what stands there -/
theorem pr_is (I : Inv X pins σ H s) : ∀ {ps : List (NestedKey × Addr × V)} {xs : List (NestedKey × Addr × Value)} {kvs : List (Dv × Dv)}, PR ps xs → TKV X.K H ps kvs → ∀ x ∈ xs, (nestedKind X.prog X.w).is s.heap x.1 x.2.1
  | _, _, _, .nil, _ => fun x hx => by cases hx
  | _, _, _, .cons r t, .cons h1 h2 h3 h4 q => fun x hx => by
    rcases List.mem_cons.mp hx with rfl | hx
    · exact ⟨nestedIs_of I _ _ _ _ h3 rfl h1, h2⟩
    · exact pr_is I t q x hx
theorem tk_of (I : Inv X pins σ H s) {a : Addr} {ps : List (NestedKey × Addr × V)} {kvs : List (Dv × Dv)} (e : Rd H a (tkO a ps)) (q : TKV X.K H ps kvs) : ∃ xs, PR ps xs ∧ s.heap.DictOfH (nestedKind X.prog X.w) a xs ∧ (a == sysModules) = false := by
  obtain ⟨⟨hd, xs, o, es, ep, p, e1, e2, e3, e4, e5⟩, _, _⟩ := Rd.ok e I.hok
  exact ⟨xs, p, ⟨o, es, ep, e1, e2, e3, e4 X.w, pr_is I p q, e5⟩, hd⟩
theorem tk_new {H' : Hp} {h' : Heap} {a : Addr} {P : Program} {w : World} {ps : List (NestedKey × Addr × V)} {xs : List (NestedKey × Addr × Value)} (hd : (a == sysModules) = false) (p : PR ps xs) (d : h'.DictOfH (nestedKind P w) a xs) (hs : ∀ x ∈ xs, ∀ w' : World, x.1.hash w = x.1.hash w') : ObjOk P w H' h' a (tkO a ps) := by
  obtain ⟨o, es, ep, e1, e2, e3, e4, e5, e6⟩ := d
  refine ⟨⟨hd, xs, o, es, ep, p, e1, e2, e3, fun w' => ?_, e6⟩, ⟨o, e1⟩, fun h1 h2 f k => ?_⟩
  · rw [e4]
    refine List.map_congr_left fun x hx => ?_
    show (⟨x.1.hash w, .ref x.2.1, x.2.2⟩ : DictEntry) = _
    rw [hs x hx w']
  · obtain ⟨hd, xs, o, es, ep, p, e1, r⟩ := f
    exact ⟨hd, xs, o, es, ep, p, k _ e1, r⟩
def eDctN : M := fun ρ => some (.ow (.dtn []), ρ)
theorem de_dnewN {ix : List Nat} {pos : Pos} : PE X (.Dict [] [] pos) (TE' X.K ix eDctN) := ⟨fun pins s σ H Q I ⟨Fr, FX, G, ρ, r, ρ', R, hf, k⟩ => by
  cases hf
  refine wpAny_Dict_empty ⟨.ref s.heap.objs.size, upd H s.heap.objs.size (tkO s.heap.objs.size []), I.laid (a := s.heap.objs.size) (t' := s.toks) (fun _ _ q => Heap.get?_push_of_some _ q) (Nat.le_refl _) ?_, rfl, ?_⟩
  · refine tk_new (xs := []) ?_ .nil (Heap.DictOfH.new s.heap) (fun x hx => by cases hx)
    have := I.big
    exact beq_false_of_ne fun z => by rw [z] at this; exact Nat.lt_irrefl _ this
  · have hp := I.hok.fresh (Nat.le_refl s.heap.objs.size)
    exact k _ G _ (Sub.refl _) (R.newH hp) ⟨_, rfl, (R.none_of hp).1, (R.none_of hp).2, ⟨[], upd_same, .nil⟩, R.notIn hp⟩⟩
/-! in -/
def getN : List (Dv × Dv) → Dv → Option Dv
  | [], _ => none
  | p :: r, k => if keyN p.1 = keyN k then some p.2 else getN r k
def okN (k : Dv) : Bool := match keyN k with
  | some n => decide (n.depth ≤ 8)
  | none => false
theorem getN_at {K : PySem.W.Frag} {G : Hp} {k : Dv} {n : NestedKey} (hk : keyN k = some n) : ∀ {ps : List (NestedKey × Addr × V)} {xs : List (NestedKey × Addr × Value)} {kvs : List (Dv × Dv)}, PR ps xs → TKV K G ps kvs →
    (atKey xs n = none ∧ getN kvs k = none) ∨ ∃ b u v d, atKey xs n = some (b, u) ∧ RelV v u ∧ Dp K G v d ∧ getN kvs k = some d
  | _, _, _, .nil, .nil => .inl ⟨rfl, rfl⟩
  | _, _, _, .cons (k := n0) (b := b0) (v := v0) (u := u0) r t, .cons (d := d0) h1 h2 h3 h4 q => by
    by_cases e : n0 = n
    · subst e
      refine .inr ⟨b0, u0, v0, d0, ?_, r, h4, ?_⟩
      · simp [atKey]
      · unfold getN
        rw [if_pos (by rw [h1, hk])]
    · rw [show ∀ (l : List (NestedKey × Addr × Value)), atKey ((n0, b0, u0) :: l) n = atKey l n from fun l => by unfold atKey; rw [List.find?_cons_of_neg (by simpa using e)]]
      rcases getN_at hk t q with ⟨a1, a2⟩ | ⟨b, u, v, d, a1, a2, a3, a4⟩
      · refine .inl ⟨a1, ?_⟩
        unfold getN
        rw [if_neg (by rw [h1, hk]; simpa using e), a2]
      · refine .inr ⟨b, u, v, d, a1, a2, a3, ?_⟩
        unfold getN
        rw [if_neg (by rw [h1, hk]; simpa using e), a4]
def okT (k : Dv) : Bool := match k with
  | .tuple _ => okN k
  | _ => false
def putN (kvs : List (Dv × Dv)) (k d : Dv) : List (Dv × Dv) := if kvs.any (fun p => decide (keyN p.1 = keyN k)) = true then kvs.map (fun p => if keyN p.1 = keyN k then (p.1, d) else p) else kvs ++ [(k, d)]
theorem tkv_mapN {K : PySem.W.Frag} {G : Hp} {k : Dv} {n : NestedKey} {v : V} {u : Value} {d : Dv} (hk : keyN k = some n) (r0 : RelV v u) (q0 : Dp K G v d) : ∀ {ps : List (NestedKey × Addr × V)} {xs : List (NestedKey × Addr × Value)} {kvs : List (Dv × Dv)}, PR ps xs → TKV K G ps kvs →
    PR (ps.map fun p => if p.1 = n then (p.1, p.2.1, v) else p) (xs.map (putAt n u)) ∧ TKV K G (ps.map fun p => if p.1 = n then (p.1, p.2.1, v) else p) (kvs.map fun p => if keyN p.1 = keyN k then (p.1, d) else p)
  | _, _, _, .nil, .nil => ⟨.nil, .nil⟩
  | _, _, _, .cons (k := n0) r t, .cons h1 h2 h3 h4 q => by
    obtain ⟨a, b⟩ := tkv_mapN hk r0 q0 t q
    rw [List.map_cons, List.map_cons, List.map_cons]
    by_cases e : n0 = n
    · subst e
      rw [if_pos rfl, if_pos (show keyN (_, _).1 = keyN k by rw [h1, hk])]
      refine ⟨?_, .cons h1 h2 h3 q0 b⟩
      unfold putAt
      rw [if_pos rfl]
      exact .cons r0 a
    · rw [if_neg e, if_neg (show ¬ keyN (_, _).1 = keyN k by rw [h1, hk]; simpa using e)]
      refine ⟨?_, .cons h1 h2 h3 h4 b⟩
      unfold putAt
      rw [if_neg e]
      exact .cons r a
theorem tkv_append {K : PySem.W.Frag} {G : Hp} {k : Dv} {n : NestedKey} {v : V} {u : Value} {d : Dv} {b : Addr} (hk : keyN k = some n) (h2 : n.depth ≤ 8) (h3 : Dp K G (.ref b) k) (r0 : RelV v u) (q0 : Dp K G v d) : ∀ {ps : List (NestedKey × Addr × V)} {xs : List (NestedKey × Addr × Value)} {kvs : List (Dv × Dv)}, PR ps xs → TKV K G ps kvs →
    PR (ps ++ [(n, b, v)]) (xs ++ [(n, b, u)]) ∧ TKV K G (ps ++ [(n, b, v)]) (kvs ++ [(k, d)])
  | _, _, _, .nil, .nil => ⟨.cons r0 .nil, .cons hk h2 h3 q0 .nil⟩
  | _, _, _, .cons r t, .cons a1 a2 a3 a4 q => by
    obtain ⟨a, b⟩ := tkv_append hk h2 h3 r0 q0 t q
    exact ⟨.cons r a, .cons a1 a2 a3 a4 b⟩
theorem anyN {K : PySem.W.Frag} {G : Hp} {k : Dv} {n : NestedKey} (hk : keyN k = some n) : ∀ {ps : List (NestedKey × Addr × V)} {xs : List (NestedKey × Addr × Value)} {kvs : List (Dv × Dv)}, PR ps xs → TKV K G ps kvs → (atKey xs n).isSome = kvs.any fun p => decide (keyN p.1 = keyN k)
  | _, _, _, .nil, .nil => rfl
  | _, _, _, .cons (k := n0) (b := b0) (u := u0) r t, .cons h1 h2 h3 h4 q => by
    rw [List.any_cons, ← anyN hk t q]
    by_cases e : n0 = n
    · subst e
      simp [atKey, h1, hk]
    · rw [show ∀ (l : List (NestedKey × Addr × Value)), atKey ((n0, b0, u0) :: l) n = atKey l n from fun l => by unfold atKey; rw [List.find?_cons_of_neg (by simpa using e)]]
      rw [h1, hk]
      simp [e]
theorem tkv_put {K : PySem.W.Frag} {G : Hp} {k : Dv} {n : NestedKey} {v : V} {u : Value} {d : Dv} {b : Addr} (hk : keyN k = some n) (h2 : n.depth ≤ 8) (h3 : Dp K G (.ref b) k) (r0 : RelV v u) (q0 : Dp K G v d) {ps : List (NestedKey × Addr × V)} {xs : List (NestedKey × Addr × Value)} {kvs : List (Dv × Dv)} (p : PR ps xs) (t : TKV K G ps kvs) :
    ∃ ps', PR ps' (storedH xs n b u) ∧ TKV K G ps' (putN kvs k d) := by
  unfold storedH putN
  rw [anyN hk p t]
  split
  · exact ⟨_, tkv_mapN hk r0 q0 p t⟩
  · exact ⟨_, tkv_append hk h2 h3 r0 q0 p t⟩
theorem pr_len : ∀ {ps : List (NestedKey × Addr × V)} {xs : List (NestedKey × Addr × Value)}, PR ps xs → xs.length = ps.length
  | _, _, .nil => rfl
  | _, _, .cons _ t => by simp [pr_len t]
theorem tkv_len {K : PySem.W.Frag} {G : Hp} : ∀ {ps : List (NestedKey × Addr × V)} {kvs : List (Dv × Dv)}, TKV K G ps kvs → ps.length = kvs.length
  | _, _, .nil => rfl
  | _, _, .cons _ _ _ _ t => by simp [tkv_len t]
/-- all the keys hash alike in any world -/
theorem tkv_hash {K : PySem.W.Frag} {G : Hp} (w w' : World) : ∀ {ps : List (NestedKey × Addr × V)} {xs : List (NestedKey × Addr × Value)} {kvs : List (Dv × Dv)}, PR ps xs → TKV K G ps kvs → ∀ x ∈ xs, x.1.hash w = x.1.hash w'
  | _, _, _, .nil, _ => fun x hx => by cases hx
  | _, _, _, .cons r t, .cons h1 h2 h3 h4 q => fun x hx => by
    rcases List.mem_cons.mp hx with rfl | hx
    · exact hash_same w w' _ _ h1
    · exact tkv_hash w w' t q x hx
end
end DL

set_option Elab.async false
set_option linter.all false
set_option autoImplicit false
set_option maxRecDepth 100000
set_option maxHeartbeats 1000000
namespace DL
open PySem PySem.Spec PyProof.Rows L2

section
variable {X : Cx} {ix : List Nat} {e a b o : Expr} {es : List Expr} {f fa fb fc fo : M} {ga : MA} {g : MS} {pos p : Pos}
/-! ### one operand -/
theorem de_un {op : UnaryOp} {r : V → Hp → VK → Prop} {gg : Dv → Option Rz} (ho : UnR X (unaryOp op) r) (hr : ∀ G H d z v Q, (∀ a o, G a = some o → H a = some o) → VD X.K G H d v → gg d = some z → Res X.K G H Q z → r v H Q) (ha : PE X a (TE' X.K ix fa)) : PE X (.UnaryOp op a pos) (TE' X.K ix (unS gg fa)) :=
  pe_imp (pe_un ho ha) fun σ H Q ⟨Fr, FX, G, ρ, r, ρ', R, hf, k⟩ => by
    unfold unS at hf
    obtain ⟨⟨r1, ρ1⟩, h1, hf⟩ := Option.bind_eq_some_iff.mp hf
    obtain ⟨d, h2, hf⟩ := Option.bind_eq_some_iff.mp hf
    obtain ⟨z, h3, hf⟩ := Option.bind_eq_some_iff.mp hf
    cases hf
    exact ⟨Fr, FX, G, ρ, r1, _, R, h1, fun v G1 H1 s1 R1 v1 => hr G1 H1 d z v Q R1.gh (dat_vd R1 v1 h2) h3 (res_ok R1 fun w G2 H2 s2 R2 w2 => k w G2 H2 (s1.trans s2) R2 w2)⟩
def negD : Dv → Option Rz
  | .int i => some (.sh (.int (-i)))
  | _ => none
theorem de_neg (ha : PE X a (TE' X.K ix fa)) : PE X (.UnaryOp .USub a pos) (TE' X.K ix (unS negD fa)) := de_un un_neg (fun G H d z v Q gh hv hz q => by
  unfold negD at hz
  split at hz
  · cases hz
    rw [vd_int hv]
    exact ⟨_, rfl, res_int q⟩
  · cases hz) ha
/-! ### isinstance(x, T), T a built-in class -/
def tyName : Dv → String
  | .none => "NoneType"
  | .bool _ => "bool"
  | .int _ => "int"
  | .str _ => "str"
  | .list _ => "list"
  | .tuple _ => "tuple"
  | .dict _ => "dict"
def isT (T : String) (d : Dv) : Bool := match T with
  | "int" => (match d with | .int _ => true | .bool _ => true | _ => false)
  | "bool" => (match d with | .bool _ => true | _ => false)
  | "tuple" => (match d with | .tuple _ => true | _ => false)
  | "list" => (match d with | .list _ => true | _ => false)
  | "str" => (match d with | .str _ => true | _ => false)
  | "dict" => (match d with | .dict _ => true | _ => false)
  | _ => false
theorem kit_int : ∀ n, n = "NoneType" ∨ n = "bool" ∨ n = "int" ∨ n = "str" ∨ n = "list" ∨ n = "tuple" ∨ n = "dict" → kitB n "int" = some (n == "int" || n == "bool") := by
  rintro n (rfl | rfl | rfl | rfl | rfl | rfl | rfl) <;> decide +kernel
theorem kit_one (T : String) (hT : T = "bool" ∨ T = "tuple" ∨ T = "list" ∨ T = "str" ∨ T = "dict") : ∀ n, n = "NoneType" ∨ n = "bool" ∨ n = "int" ∨ n = "str" ∨ n = "list" ∨ n = "tuple" ∨ n = "dict" → kitB n T = some (n == T) := by
  rcases hT with rfl | rfl | rfl | rfl | rfl <;> (rintro n (rfl | rfl | rfl | rfl | rfl | rfl | rfl) <;> decide +kernel)
theorem tyName_in (d : Dv) : tyName d = "NoneType" ∨ tyName d = "bool" ∨ tyName d = "int" ∨ tyName d = "str" ∨ tyName d = "list" ∨ tyName d = "tuple" ∨ tyName d = "dict" := by
  cases d <;> simp [tyName]
theorem isT_kit {T : String} (hT : T = "int" ∨ T = "bool" ∨ T = "tuple" ∨ T = "list" ∨ T = "str" ∨ T = "dict") (d : Dv) : kitB (tyName d) T = some (isT T d) := by
  rcases hT with rfl | hT
  · rw [kit_int _ (tyName_in d)]; cases d <;> rfl
  · rw [kit_one T hT _ (tyName_in d)]; rcases hT with rfl | rfl | rfl | rfl | rfl <;> cases d <;> rfl
theorem ty_sqL {K : PySem.W.Frag} {H : Hp} {a : Addr} {xs : List V} (h : SqL K H a xs) : TyX K H (.ref a) (.type "list") := by
  rcases h with (h | ⟨o, h⟩) | ⟨o, its, n, h, hc, _⟩
  · exact .base (.lst h)
  · exact .base (.frz h)
  · exact .kList h hc
theorem ty_sqT {K : PySem.W.Frag} {H : Hp} {a : Addr} {xs : List V} (h : SqT K H a xs) : TyX K H (.ref a) (.type "tuple") := by
  rcases h with (h | ⟨o, h⟩) | ⟨o, its, n, h, hc, _⟩
  · exact .base (.tup h)
  · exact .fTuple h
  · exact .kTuple h hc
/-- a dict with tuple keys -/
def tagD : Dv → Bool
  | .dict _ => true
  | _ => false
theorem ty_vd {K : PySem.W.Frag} {G H : Hp} {d : Dv} {v : V} (gh : ∀ a o, G a = some o → H a = some o) (h : VD K G H d v) (ht : tagD d = false) : TyX K H v (.type (tyName d)) := by
  cases d with
  | none => rw [vd_none h]; exact .base .non
  | bool b => rw [vd_bool h]; exact .base (.bl b)
  | int b => rw [vd_int h]; exact .base (.int b)
  | str b => rw [vd_str h]; exact .base (.str b)
  | list b => obtain ⟨a, vs, rfl, h1, _⟩ := vd_list h; exact ty_sqL h1
  | tuple b => obtain ⟨a, vs, rfl, _, h1, _⟩ := vd_tup gh h; exact ty_sqT h1
  | dict b => cases ht
def isiD (T : String) (d : Dv) : Option Rz := if tagD d = true then none else some (.sh (.bool (isT T d)))
theorem de_isi {T : String} {x : Str} {pT : Pos} (hT : T = "int" ∨ T = "bool" ∨ T = "tuple" ∨ T = "list" ∨ T = "str" ∨ T = "dict") (hg : Gl X "isinstance") (hm : X.mg "isinstance" = none) (hgT : Gl X x) (hmT : X.mg x = none) (hbT : bootBuiltins x = some (.type T)) (ha : PE X a (TE' X.K ix fa))
    (hn : x ≠ "__name__" := by decide) (hd : (x == ("__debug__" : Str)) = false := by decide) (he : starEach [a, .Name x pT] X.env = (false, eval a X.env) :: starEach [.Name x pT] X.env := by rfl) (he2 : starEach [Expr.Name x pT] X.env = (false, eval (.Name x pT) X.env) :: starEach [] X.env := by rfl)
    (hpl : (backTo pos (starEach [Expr.Name x pT] X.env)).any (·.1) = false := by rfl) : PE X (.Call (.Name "isinstance" p) [a, .Name x pT] [] pos) (TE' X.K ix (unS (isiD T) fa)) :=
  pe_imp (pe_callB call_isi hg hm PyProof.Rows.boot_isinstance (pa_cons ha (pa_cons (pe_bltn (v := .ty T) hgT hmT hbT rfl hn hd) pa_nil he2) he) (by decide) (by decide) he hpl) fun σ H Q ⟨Fr, FX, G, ρ, r, ρ', R, hf, k⟩ => by
    unfold unS at hf
    obtain ⟨⟨r1, ρ1⟩, h1, hf⟩ := Option.bind_eq_some_iff.mp hf
    obtain ⟨d, h2, hf⟩ := Option.bind_eq_some_iff.mp hf
    unfold isiD at hf
    by_cases htg : tagD d = true
    · rw [if_pos htg] at hf
      cases hf
    rw [if_neg htg] at hf
    cases hf
    refine ⟨Fr, FX, G, ρ, r1, _, R, h1, fun v G1 H1 s1 R1 v1 => ?_⟩
    exact ⟨v, _, _, _, _, rfl, .ty T, ty_vd R1.gh (dat_vd R1 v1 h2) (by simpa using htg), kit_ty (isT_kit hT d), k _ G1 H1 s1 R1 (.bl _)⟩

/-! ### methods that change an owned object -/
def obT : Ob → String
  | .lst _ => "list"
  | .dct _ => "dict"
  | .dtn _ => ""
def isDtn : Ob → Bool
  | .dtn _ => true
  | _ => false
def isOb (T : String) : Option Sl → Bool
  | some (.ow ob) => (obT ob == T) && !isDtn ob
  | _ => false
def mutM (T : String) (gg : Ob → List Dv → Option (Ob × Dv)) (fo : M) (ga : MA) : M := fun ρ => (fo ρ).bind fun x => match x.1 with
  | .al i => if isOb T x.2[i]? = true then (ga x.2).bind fun y => (shs y.1).bind fun ds => (match y.2[i]? with
    | some (.ow ob) => (gg ob ds).bind fun z => some (.sh z.2, y.2.set i (.ow z.1))
    | _ => none) else none
  | _ => none
def RMd (K : PySem.W.Frag) (gg : Ob → List Dv → Option (Ob × Dv)) : V → List V → Hp → VK → Prop := fun x vs H Q => ∃ G a ob ds ob' d, x = .ref a ∧ (∀ a o, G a = some o → H a = some o) ∧ G a = none ∧ Ct K G H a ob ∧ DpAll K G vs ds ∧ gg ob ds = some (ob', d) ∧
  ∀ v u', Ct K G (upd H a u') a ob' → Dp K G v d → Q v (upd H a u')
def MutD (X : Cx) (id : String) (gg : Ob → List Dv → Option (Ob × Dv)) : Prop := MtR X id (RMd X.K gg)
def appG : Ob → List Dv → Option (Ob × Dv)
  | .lst xs, [d] => if xs.length < sizeLine then some (.lst (xs ++ [d]), .none) else none
  | _, _ => none
def popG : Ob → List Dv → Option (Ob × Dv)
  | .lst xs, [] => (xs[xs.length - 1]?).map fun d => (.lst xs.dropLast, d)
  | _, _ => none
def popAtG : Ob → List Dv → Option (Ob × Dv)
  | .lst xs, [.int i] => if 0 ≤ i ∧ i < 2 ^ 62 then (xs[i.toNat]?).map fun d => (.lst (xs.eraseIdx i.toNat), d) else none
  | _, _ => none
theorem dpAll_dropLast {K : PySem.W.Frag} {G : Hp} {ds : List Dv} {vs : List V} (h : DpAll K G vs ds) : DpAll K G vs.dropLast ds.dropLast := by
  rw [List.dropLast_eq_take, List.dropLast_eq_take, dpAll_length h]
  exact dpAll_take _ h
theorem dpAll_erase {K : PySem.W.Frag} {G : Hp} : ∀ {ds : List Dv} {vs : List V} (n : Nat), DpAll K G vs ds → DpAll K G (vs.eraseIdx n) (ds.eraseIdx n)
  | [], _, n, h => by cases h; simp; exact .nil
  | d :: ds, _, 0, h => by cases h with | cons h1 h2 => exact h2
  | d :: ds, _, n + 1, h => by cases h with | cons h1 h2 => exact .cons h1 (dpAll_erase n h2)
theorem app_m : MutD X "list.append" appG := by
  intro pins s σ H x xs v us Q I rx rv h
  obtain ⟨G, a, ob, ds, ob', d, rfl, gh, g0, c, qa, hg, k⟩ := h
  unfold appG at hg
  split at hg
  · split at hg
    · rename_i hz
      cases hg
      obtain ⟨vs, hv, qv⟩ := c
      cases qa with
      | cons q1 q2 =>
        cases q2
        exact mt_append pins s σ H _ _ v us Q I rx rv ⟨a, vs, _, rfl, rfl, hv, by rw [dpAll_length qv]; exact hz, k .non _ ⟨_, upd_same, dpAll_append qv (.cons q1 .nil)⟩ .non⟩
    · cases hg
  · cases hg
theorem pop_m : MutD X "list.pop" popG := by
  intro pins s σ H x xs v us Q I rx rv h
  obtain ⟨G, a, ob, ds, ob', d, rfl, gh, g0, c, qa, hg, k⟩ := h
  unfold popG at hg
  split at hg
  · obtain ⟨d', hd, hg⟩ := Option.map_eq_some_iff.mp hg
    cases hg
    obtain ⟨vs, hv, qv⟩ := c
    cases qa
    obtain ⟨w, hw, qw⟩ := dpAll_get qv hd
    exact mt_pop pins s σ H _ _ v us Q I rx rv ⟨a, vs, w, rfl, rfl, hv, by rw [dpAll_length qv]; exact hw, k w _ ⟨_, upd_same, dpAll_dropLast qv⟩ qw⟩
  · cases hg
theorem popAt_m : MutD X "list.pop" popAtG := by
  intro pins s σ H x xs v us Q I rx rv h
  obtain ⟨G, a, ob, ds, ob', d, rfl, gh, g0, c, qa, hg, k⟩ := h
  unfold popAtG at hg
  split at hg
  · rename_i ys i
    split at hg
    · rename_i hc
      obtain ⟨d', hd, hg⟩ := Option.map_eq_some_iff.mp hg
      cases hg
      obtain ⟨vs, hv, qv⟩ := c
      cases qa with
      | cons q1 q2 =>
        cases q2
        cases q1
        obtain ⟨w, hw, qw⟩ := dpAll_get qv hd
        have hl : i.toNat < vs.length := (List.getElem?_eq_some_iff.mp hw).1
        exact mt_popAt pins s σ H _ _ v us Q I rx rv ⟨a, vs, i, i.toNat, w, rfl, rfl, hv, by omega, by omega, seqIndex_of hc.1 (by omega), hw, k w _ ⟨_, upd_same, dpAll_erase _ qv⟩ qw⟩
    · cases hg
  · cases hg
theorem tyV_ct {K : PySem.W.Frag} {G H : Hp} {a : Addr} {ob : Ob} (c : Ct K G H a ob) (hn : ∀ kvs, ob ≠ .dtn kvs) : tyV K (obT ob) (.ref a) H := by
  cases ob with
  | lst ds => obtain ⟨vs, hv, _⟩ := c; exact .inl ⟨rfl, _, .inl (.inl hv)⟩
  | dct ds => obtain ⟨vs, hv, _⟩ := c; exact .inr (.inr (.inl ⟨rfl, .inl ⟨_, hv⟩⟩))
  | dtn ds => exact absurd rfl (hn ds)
theorem mt_ok {T : String} {gg : Ob → List Dv → Option (Ob × Dv)} {σ : L2.St} {H : Hp} {Q : VK} (h : TE' X.K ix (mutM T gg fo ga) σ H Q) : tBM X.K T (RMd X.K gg) (TE' X.K ix fo) (TA' X.K ix ga) σ H Q := by
  obtain ⟨Fr, FX, G, ρ, r, ρ', R, hf, k⟩ := h
  unfold mutM at hf
  obtain ⟨⟨r0, ρ0⟩, h0, hf⟩ := Option.bind_eq_some_iff.mp hf
  cases r0 with
  | sh d => cases hf
  | ow d => cases hf
  | fd d => cases hf
  | al i =>
    simp only at hf
    split at hf
    rotate_left
    · cases hf
    rename_i hT
    obtain ⟨⟨rs, ρ1⟩, h1, hf⟩ := Option.bind_eq_some_iff.mp hf
    obtain ⟨ds, h2, hf⟩ := Option.bind_eq_some_iff.mp hf
    split at hf
    · rename_i ob hob
      obtain ⟨⟨ob', d⟩, h3, hf⟩ := Option.bind_eq_some_iff.mp hf
      cases hf
      refine ⟨Fr, FX, G, ρ, _, ρ0, R, h0, fun v G1 H1 s1 R1 v1 => ?_⟩
      have ev : σ[i]? = some (some v) := v1
      unfold isOb at hT
      split at hT
      · rename_i ob0 hob0
        rw [Bool.and_eq_true] at hT
        have eT : obT ob0 = T := eq_of_beq hT.1
        have nT : ∀ kvs, ob0 ≠ .dtn kvs := fun kvs z => by subst z; cases hT.2
        obtain ⟨a, ea, g, f, c⟩ := R1.sl i _ hob0
        rw [ev] at ea
        cases ea
        refine ⟨eT ▸ tyV_ct c nT, Fr, FX, G1, ρ0, rs, _, R1, h1, fun vs G2 H2 s2 R2 v2 => ?_⟩
        obtain ⟨b, eb, g2, f2, c2⟩ := R2.sl i _ hob
        rw [ev] at eb
        cases eb
        refine ⟨G2, a, ob, ds, ob', d, rfl, R2.gh, g2, c2, shs_dp v2 h2, h3, fun v' u' c' q' => ?_⟩
        exact k v' G2 _ (s1.trans s2) (R2.mut hob ev c') q'
      · cases hT
    · cases hf
theorem de_mt {T id : String} {name : Str} {gg : Ob → List Dv → Option (Ob × Dv)} {apos cpos : Pos} (pa : PlainAttrs T) (slot : Slot T name id) (hty : typeOf (.builtin id) = pure (.type "method_descriptor")) (hm : MutD X id gg) (ho : PE X o (TE' X.K ix fo)) (ha : PA X (e :: es) (TA' X.K ix ga))
    (hbase : attributeBase o name X.env (eval o X.env) = eval o X.env := by rfl)
    (hfew : ((backTo cpos (starEach (e :: es) X.env)).all (fun x => !x.1) && (backToKw cpos (keywordEach [] X.env)).all (fun x => x.1.isSome) && decide ((e :: es).length + ([] : List Keyword).length + (if ([] : List Keyword).isEmpty then 0 else 1) < 30)) = true := by rfl)
    (hline : (apos.endLine == cpos.line) = true := by rfl) (hs : starEach (e :: es) X.env = (false, eval e X.env) :: starEach es X.env := by rfl) (hplain : (backTo cpos (starEach es X.env)).any (·.1) = false := by rfl) :
    PE X (.Call (.Attribute o name apos) (e :: es) [] cpos) (TE' X.K ix (mutM T gg fo ga)) :=
  pe_imp (pe_bm pa slot hty hm ho ha hbase hfew hline hs hplain) fun _ _ _ h => mt_ok h
theorem de_mt0 {T id : String} {name : Str} {gg : Ob → List Dv → Option (Ob × Dv)} {apos cpos : Pos} (pa : PlainAttrs T) (slot : Slot T name id) (hty : typeOf (.builtin id) = pure (.type "method_descriptor")) (hm : MutD X id gg) (ho : PE X o (TE' X.K ix fo))
    (hbase : attributeBase o name X.env (eval o X.env) = eval o X.env := by rfl) (hline : (apos.endLine == cpos.line) = true := by rfl) : PE X (.Call (.Attribute o name apos) [] [] cpos) (TE' X.K ix (mutM T gg fo aNil)) :=
  pe_imp (pe_bm0 pa slot hty hm ho hbase hline) fun σ H Q h => by
    obtain ⟨Fr, FX, G, ρ, r, ρ', R, hf, k⟩ := mt_ok h
    refine ⟨Fr, FX, G, ρ, r, ρ', R, hf, fun v G1 H1 s1 R1 v1 => ?_⟩
    obtain ⟨hT, Fr2, FX2, G2, ρ2, rs, ρ3, R2, hf2, k2⟩ := k v G1 H1 s1 R1 v1
    cases hf2
    exact ⟨hT, k2 [] G2 H1 (Sub.refl _) R2 trivial⟩
theorem de_app {apos cpos : Pos} (ho : PE X o (TE' X.K ix fo)) (ha : PA X [e] (TA' X.K ix ga)) (hbase : attributeBase o "append" X.env (eval o X.env) = eval o X.env := by rfl)
    (hfew : ((backTo cpos (starEach [e] X.env)).all (fun x => !x.1) && (backToKw cpos (keywordEach [] X.env)).all (fun x => x.1.isSome) && decide ([e].length + ([] : List Keyword).length + (if ([] : List Keyword).isEmpty then 0 else 1) < 30)) = true := by rfl)
    (hline : (apos.endLine == cpos.line) = true := by rfl) (hs : starEach [e] X.env = (false, eval e X.env) :: starEach [] X.env := by rfl) (hplain : (backTo cpos (starEach [] X.env)).any (·.1) = false := by rfl) :
    PE X (.Call (.Attribute o "append" apos) [e] [] cpos) (TE' X.K ix (mutM "list" appG fo ga)) :=
  de_mt PySem.F.plainAttrs_list PySem.F.slot_list_append PySem.F.type_list_append app_m ho ha hbase hfew hline hs hplain
/-! ### o[i] = v -/
def eqKey : Dv → Dv → Bool
  | .int i, .int j => decide (i = j)
  | .str x, .str y => decide (x = y)
  | _, _ => false
def isKey : Dv → Bool
  | .int _ => true
  | .str _ => true
  | _ => false
def putD (kvs : List (Dv × Dv)) (k d : Dv) : List (Dv × Dv) := if kvs.any (fun p => eqKey p.1 k) = true then kvs.map (fun p => if eqKey p.1 k = true then (p.1, d) else p) else kvs ++ [(k, d)]
def getD : List (Dv × Dv) → Dv → Option Dv
  | [], _ => none
  | p :: r, k => if eqKey p.1 k = true then some p.2 else getD r k
def setOb : Ob → Dv → Dv → Option Ob
  | .lst xs, .int k, d => (ixN xs.length k).map fun j => .lst (xs.set j d)
  | .dct kvs, k, d => if isKey k = true ∧ kvs.length < sizeLine then some (.dct (putD kvs k d)) else none
  | .dtn kvs, k, d => if okT k = true ∧ kvs.length < sizeLine then some (.dtn (putN kvs k d)) else none
  | _, _, _ => none
theorem eqKey_keyD (k k' : Key) : eqKey (keyD k) (keyD k') = decide (k = k') := by
  cases k <;> cases k' <;> simp [keyD, eqKey]
theorem isKey_of {d : Dv} (h : isKey d = true) : ∃ k, d = keyD k := by
  cases d <;> first | exact ⟨.inl _, rfl⟩ | exact ⟨.inr _, rfl⟩ | cases h
theorem vd_key {K : PySem.W.Frag} {G H : Hp} {k : Key} {v : V} (h : VD K G H (keyD k) v) : v = kV k := by
  cases k with
  | inl i => exact vd_int h
  | inr x => exact vd_str h
theorem dkv_get {K : PySem.W.Frag} {G : Hp} {k : Key} : ∀ {ks : List (Key × V)} {kvs : List (Dv × Dv)}, DKV K G ks kvs → (∃ d v, getD kvs (keyD k) = some d ∧ valV ks k = some v ∧ Dp K G v d) ∨ (getD kvs (keyD k) = none ∧ valV ks k = none)
  | _, _, .nil => .inr ⟨rfl, rfl⟩
  | _, _, .cons (k := k0) (v := v) (d := d) h t => by
    by_cases e : k0 = k
    · subst e
      refine .inl ⟨d, v, ?_, valV_pos rfl, h⟩
      unfold getD
      rw [eqKey_keyD, if_pos (by simp)]
    · rcases dkv_get (k := k) t with ⟨d', v', h1, h2, h3⟩ | ⟨h1, h2⟩
      · refine .inl ⟨d', v', ?_, by rw [valV_neg e]; exact h2, h3⟩
        unfold getD
        rw [eqKey_keyD, if_neg (by simp [e])]
        exact h1
      · refine .inr ⟨?_, by rw [valV_neg e]; exact h2⟩
        unfold getD
        rw [eqKey_keyD, if_neg (by simp [e])]
        exact h1
theorem dkv_any {K : PySem.W.Frag} {G : Hp} {k : Key} : ∀ {ks : List (Key × V)} {kvs : List (Dv × Dv)}, DKV K G ks kvs → (kvs.any fun p => eqKey p.1 (keyD k)) = ks.any fun p => decide (p.1 = k)
  | _, _, .nil => rfl
  | _, _, .cons h t => by
    simp only [List.any_cons]
    rw [eqKey_keyD, dkv_any t]
theorem dkv_map {K : PySem.W.Frag} {G : Hp} {k : Key} {v : V} {d : Dv} (q : Dp K G v d) : ∀ {ks : List (Key × V)} {kvs : List (Dv × Dv)}, DKV K G ks kvs → DKV K G (ks.map fun p => if p.1 = k then (p.1, v) else p) (kvs.map fun p => if eqKey p.1 (keyD k) = true then (p.1, d) else p)
  | _, _, .nil => .nil
  | _, _, .cons (k := k0) h t => by
    simp only [List.map_cons]
    rw [eqKey_keyD]
    by_cases e : k0 = k
    · rw [if_pos e, if_pos (by simp [e])]
      exact .cons q (dkv_map q t)
    · rw [if_neg e, if_neg (by simp [e])]
      exact .cons h (dkv_map q t)
theorem dkv_append {K : PySem.W.Frag} {G : Hp} {k : Key} {v : V} {d : Dv} (q : Dp K G v d) : ∀ {ks : List (Key × V)} {kvs : List (Dv × Dv)}, DKV K G ks kvs → DKV K G (ks ++ [(k, v)]) (kvs ++ [(keyD k, d)])
  | _, _, .nil => .cons q .nil
  | _, _, .cons h t => .cons h (dkv_append q t)
theorem dkv_put {K : PySem.W.Frag} {G : Hp} {k : Key} {v : V} {d : Dv} {ks : List (Key × V)} {kvs : List (Dv × Dv)} (q : Dp K G v d) (h : DKV K G ks kvs) : DKV K G (putK ks k v) (putD kvs (keyD k) d) := by
  unfold putK putD
  rw [dkv_any h]
  by_cases e : (ks.any fun p => decide (p.1 = k)) = true
  · rw [if_pos e, if_pos e]
    exact dkv_map q h
  · rw [if_neg e, if_neg e]
    exact dkv_append q h
def RSet (K : PySem.W.Frag) : TSet := fun ov i v H Q => ∃ G a ob ob' k d, ov = .ref a ∧ (∀ a o, G a = some o → H a = some o) ∧ G a = none ∧ Ct K G H a ob ∧ VD K G H k i ∧ Dp K G v d ∧ setOb ob k d = some ob' ∧ ∀ u', Ct K G (upd H a u') a ob' → Q (upd H a u')
theorem okT_of {k : Dv} (h : okT k = true) : ∃ ds n, k = .tuple ds ∧ keyN k = some n ∧ n.depth ≤ 8 := by
  unfold okT at h
  split at h
  · unfold okN at h
    split at h
    · rename_i ds n hn
      exact ⟨_, n, rfl, hn, of_decide_eq_true h⟩
    · cases h
  · cases h
theorem set_d (hu : X.A.units + 200 < cLine) : PSet X (RSet X.K) := by
  intro pins s σ H ov i v ovv iv u Q I ro ri rv h
  obtain ⟨G, a, ob, ob', k, d, rfl, gh, g0, c, vk, qv, hs, kk⟩ := h
  unfold setOb at hs
  split at hs
  · obtain ⟨j, hj, hs⟩ := Option.map_eq_some_iff.mp hs
    cases hs
    obtain ⟨vs, hv, qs⟩ := c
    rw [vd_int vk] at ri
    exact set_list pins s σ H _ _ v ovv iv u Q I ro ri rv ⟨a, vs, _, j, rfl, rfl, hv, by rw [dpAll_length qs]; exact hj, kk _ ⟨_, upd_same, dpAll_set qv j qs⟩⟩
  · split at hs
    · rename_i hc
      cases hs
      obtain ⟨ks, hv, qs⟩ := c
      obtain ⟨k', rfl⟩ := isKey_of hc.1
      rw [vd_key vk] at ri
      cases (show ovv = Value.ref a from ro)
      exact d_setItem (by omega) I (DPut.k (k := k') hv (by rw [dkv_length qs]; exact hc.2)) ri rv fun s' I' => ⟨_, I', kk _ ⟨_, upd_same, dkv_put qv qs⟩⟩
    · cases hs
  · split at hs
    · rename_i hc
      cases hs
      obtain ⟨ps, hv, qs⟩ := c
      obtain ⟨ds, n, rfl, hn, h8⟩ := okT_of hc.1
      obtain ⟨b, vs, rfl, _⟩ := vd_tup gh vk
      have pk : Dp X.K G (.ref b) (.tuple ds) := vk
      cases (show ovv = Value.ref a from ro)
      cases (show iv = Value.ref b from ri)
      obtain ⟨xs, hp, hdk, hsys⟩ := tk_of I (.inl hv) (qs.mono (sub_le gh))
      have pkH := dp_mono (sub_le gh) _ _ pk
      have hl : xs.length ≤ sizeLine := by rw [pr_len hp, tkv_len qs]; exact Nat.le_of_lt hc.2
      refine wpAny_setItem_heap (hsz := hl) (show (nestedKind X.prog X.w).room X.A.in1 from ?_) (show (nestedKind X.prog X.w).is s.heap n b from ⟨nestedIs_of I _ _ _ _ pkH rfl hn, h8⟩) hdk fun h' hm' hs' => ?_
      · show X.A.units + 1 + 8 < cLine
        omega
      · obtain ⟨ps', hp', hq'⟩ := tkv_put hn h8 pk rv qv hp qs
        refine ⟨_, d_write I (by rw [hv]; exact True.intro) hs' ?_ (tk_new hsys hp' hm' (fun x hx w' => tkv_hash X.w w' hp' hq' x hx)), kk _ ⟨ps', upd_same, hq'⟩⟩
        obtain ⟨o, _, _, e, _⟩ := hm'
        exact ⟨o, e⟩
    · cases hs
  · cases hs
def tSub (fo fi : M) : MT := fun d ρ => (fo ρ).bind fun x => match x.1 with
  | .al i => (pkM fi x.2).bind fun y => (dat y.2 y.1).bind fun k => (match y.2[i]? with
    | some (.ow ob) => (setOb ob k d).bind fun ob' => some (y.2.set i (.ow ob'))
    | _ => none)
  | _ => none
theorem dg_sub {i : Expr} {fi : M} (hu : X.A.units + 200 < cLine) (ho : PE X o (TE' X.K ix fo)) (hi : PE X i (TE' X.K ix fi)) (hg : ∀ (to ti : TE) (t : TSet), PE X o to → PE X i ti → PSet X t → PG X (.Subscript o i pos) (gSub to ti t) := by exact fun _ _ _ h1 h2 h3 => pg_sub h1 h2 h3) : PG X (.Subscript o i pos) (TG' X.K ix [] (tSub fo fi)) :=
  pg_imp (hg _ _ _ ho (de_pk hi) (set_d hu)) fun v σ H Q ⟨Fr, FX, G, ρ, d, ρ', R, q, hf, k⟩ => by
    unfold tSub at hf
    obtain ⟨⟨r0, ρ0⟩, h0, hf⟩ := Option.bind_eq_some_iff.mp hf
    refine ⟨Fr, FX, G, ρ, r0, ρ0, R, h0, fun x G1 H1 s1 R1 v1 => ?_⟩
    cases r0 with
    | sh d => cases hf
    | ow d => cases hf
    | fd d => cases hf
    | al j =>
      simp only at hf
      obtain ⟨⟨r1, ρ1⟩, h1, hf⟩ := Option.bind_eq_some_iff.mp hf
      obtain ⟨kd, h2, hf⟩ := Option.bind_eq_some_iff.mp hf
      split at hf
      · rename_i ob hob
        obtain ⟨ob', h3, hf⟩ := Option.bind_eq_some_iff.mp hf
        cases hf
        have ev : σ[j]? = some (some x) := v1
        refine ⟨Fr, FX, G1, ρ0, r1, ρ1, R1, h1, fun y G2 H2 s2 R2 v2 => ?_⟩
        obtain ⟨a, ea, g2, f2, c2⟩ := R2.sl j _ hob
        rw [ev] at ea
        cases ea
        refine ⟨G2, a, ob, ob', kd, d, rfl, R2.gh, g2, c2, dat_vd R2 v2 h2, dp_mono (s1.trans s2) _ _ q, h3, fun u' c' => ?_⟩
        exact k G2 σ _ (s1.trans s2) ⟨rfl, fun _ _ => rfl⟩ (R2.mut hob ev c')
      · cases hf
end
end DL

set_option Elab.async false
set_option linter.all false
set_option autoImplicit false
set_option maxRecDepth 100000
set_option maxHeartbeats 1000000
namespace DL
open PySem PySem.Spec PyProof.Rows L2

section
variable {X : Cx} {ix : List Nat} {e a b o : Expr} {es : List Expr} {f fa fb fc fo : M} {ga : MA} {g : MS} {pos p : Pos}
/-! ### items of dicts -/
/-- what can be read of an object -/
def CR (K : PySem.W.Frag) (G H : Hp) (a : Addr) : Ob → Prop
  | .lst ds => ∃ vs, SqL K H a vs ∧ DpAll K G vs ds
  | .dct kvs => ∃ ks, Rd H a (.dK ks) ∧ DKV K G ks kvs
  | .dtn kvs => ∃ ps, Rd H a (tkO a ps) ∧ TKV K G ps kvs
theorem Ct.cr {K : PySem.W.Frag} {G H : Hp} {a : Addr} {o : Ob} (c : Ct K G H a o) : CR K G H a o := by
  cases o with
  | lst ds => obtain ⟨vs, e, q⟩ := c; exact ⟨vs, .of e, q⟩
  | dct kvs => obtain ⟨vs, e, q⟩ := c; exact ⟨vs, .inl e, q⟩
  | dtn kvs => obtain ⟨vs, e, q⟩ := c; exact ⟨vs, .inl e, q⟩
theorem Cf.cr {K : PySem.W.Frag} {G H : Hp} (gh : ∀ a o, G a = some o → H a = some o) {a : Addr} {o : Ob} (c : Cf K G a o) : CR K G H a o := by
  cases o with
  | lst ds => exact False.elim c
  | dct kvs => obtain ⟨o, vs, e, q⟩ := c; exact ⟨vs, .inr ⟨o, gh _ _ e⟩, q⟩
  | dtn kvs => obtain ⟨o, vs, e, q⟩ := c; exact ⟨vs, .inr ⟨o, gh _ _ e⟩, q⟩
def getOb : Ob → Dv → Option Dv
  | .lst xs, .int k => atI xs k
  | .dct kvs, k => if isKey k = true then getD kvs k else none
  | .dtn kvs, k => if okT k = true then getN kvs k else none
  | _, _ => none
theorem getN_okT {K : PySem.W.Frag} {X : Cx} {pins : List (Addr × Obj)} {s : Shared} {σ : L2.St} {H G : Hp} {ad : Addr} {kvs : List (Dv × Dv)} {k d : Dv} {iv : Value} {i : V} {Q : VK} (hu : X.A.units + 10 < cLine) (I : Inv X pins σ H s) (gh : ∀ a o, G a = some o → H a = some o) (c : CR X.K G H ad (.dtn kvs)) (hk : okT k = true) (vk : VD X.K G H k i) (ri : RelV i iv) (hg : getN kvs k = some d)
    (q : ∀ v, Dp X.K G v d → Q v H) : wpAny (model X.prog X.w) X.A (getItem (.ref ad) iv) (EP X pins σ Q) X.xe s := by
  obtain ⟨ps, h1, h2⟩ := c
  obtain ⟨ds, n, rfl, hn, h8⟩ := okT_of hk
  obtain ⟨b, vs, rfl, _⟩ := vd_tup gh vk
  have pk : Dp X.K G (.ref b) (.tuple ds) := vk
  cases (show iv = Value.ref b from ri)
  obtain ⟨xs, hp, hdk, hsys⟩ := tk_of I h1 (h2.mono (sub_le gh))
  rcases getN_at hn hp h2 with ⟨a1, a2⟩ | ⟨b', u, v, d', a1, a2, a3, a4⟩
  · rw [hg] at a2; cases a2
  · rw [hg] at a4
    cases a4
    exact wpAny_getItem_heap (show X.A.units + 1 + 8 < cLine by omega) (show (nestedKind X.prog X.w).is s.heap n b from ⟨nestedIs_of I _ _ _ _ (dp_mono (sub_le gh) _ _ pk) rfl hn, h8⟩) hdk a1 ⟨v, H, I.tok _, a2, q v a3⟩
theorem getItem_ok {pins : List (Addr × Obj)} {s : Shared} {σ : L2.St} {H G : Hp} {ad : Addr} {ob : Ob} {k d : Dv} {iv : Value} {i : V} {Q : VK} (hu : X.A.units + 10 < cLine) (I : Inv X pins σ H s) (gh : ∀ a o, G a = some o → H a = some o) (c : CR X.K G H ad ob) (vk : VD X.K G H k i) (ri : RelV i iv) (hg : getOb ob k = some d)
    (q : ∀ v, Dp X.K G v d → Q v H) : wpAny (model X.prog X.w) X.A (getItem (.ref ad) iv) (EP X pins σ Q) X.xe s := by
  unfold getOb at hg
  split at hg
  · rename_i xs kk
    obtain ⟨vs, hv, qs⟩ := c
    rw [vd_int vk] at ri
    obtain ⟨t, rfl⟩ := ri
    obtain ⟨w, hw, qw⟩ := atI_dp qs hg
    obtain ⟨its, r, pl, hz⟩ := I.list hv
    obtain ⟨j, h1, h2, h3, h4, h5⟩ := atI_get hw
    obtain ⟨u, eu, ru⟩ := r.get h2
    have hl := r.length
    have hn := line63
    have fin : EP X pins σ Q u s := ⟨w, H, I, ru, q w qw⟩
    by_cases h0 : 0 ≤ kk
    · have hj : kk.toNat = j := by
        rw [seqIndex_of h0 h5] at h1
        exact Option.some.inj h1
      exact wpAny_getItem_list pl.isList h0 (by omega) (by rw [hj]; simpa using eu) fin
    · have hj : (kk + (its.toArray.size : Int)).toNat = j := by
        rw [seqIndex_neg (by omega) h4] at h1
        rw [List.size_toArray, ← hl]
        exact Option.some.inj h1
      exact wpAny_getItem_list_neg pl.isList (by omega) (by rw [List.size_toArray] <;> omega) (by omega) (by rw [hj]; simpa using eu) fin
  · split at hg
    · rename_i hk
      obtain ⟨ks, hv, qs⟩ := c
      obtain ⟨k', rfl⟩ := isKey_of hk
      rw [vd_key vk] at ri
      rcases dkv_get (k := k') qs with ⟨d', v', h1, h2, h3⟩ | ⟨h1, _⟩
      · rw [hg] at h1
        cases h1
        exact d_getItem (by omega) I (y := kV k') (v := v') (.inl ⟨ks, k', hv, rfl, h2.symm⟩) ri fun w' s' I' rw' => ⟨v', H, I', rw', q v' h3⟩
      · rw [hg] at h1
        cases h1
    · cases hg
  · split at hg
    · rename_i hk
      exact getN_okT (K := X.K) hu I gh c hk vk ri hg q
    · cases hg
  · cases hg
theorem plD_dkv {K : PySem.W.Frag} {G : Hp} : ∀ {ks : List (Key × V)} {kvs : List (Dv × Dv)}, DKV K G ks kvs → plD kvs = true
  | _, _, .nil => rfl
  | _, _, .cons (k := k) _ _ => by cases k <;> rfl
theorem vd_dn {K : PySem.W.Frag} {G H : Hp} {kvs : List (Dv × Dv)} {v : V} (h : VD K G H (.dict kvs) v) (hp : plD kvs = false) : ∃ a ps, v = .ref a ∧ Rd H a (tkO a ps) ∧ TKV K G ps kvs.tail := by
  rcases h with ⟨a, ks, _, _, q⟩ | ⟨a, ps, kvs', rfl, e, q, rfl⟩
  · rw [plD_dkv q] at hp
    cases hp
  · exact ⟨a, ps, rfl, e, q⟩
def ixA (d k : Dv) : Option Rz := match d with
  | .dict kvs => if isKey k = true ∧ plD kvs = true then (getD kvs k).map .sh else if okT k = true ∧ plD kvs = false then (getN kvs.tail k).map .sh else none
  | _ => ixD d k
theorem ixA_d (hu : X.A.units + 10 < cLine) : IxD X ixA := by
  intro value slice pins s σ H x y v u Q I rx ry h hs
  obtain ⟨G, d, e, z, gh, vx, vy, hz, q⟩ := h
  unfold ixA at hz
  split at hz
  · rename_i kvs
    split at hz
    · rename_i hk
      obtain ⟨hk, hpl⟩ := hk
      obtain ⟨d', hd', rfl⟩ := Option.map_eq_some_iff.mp hz
      obtain ⟨ad, ks, rfl, h1, h2⟩ := vd_dk vx hpl
      cases rx
      refine tail_any (T := "dict") ?_ PySem.F.slot_dict_getitem.lookup (getItem_ok hu I gh (G := G) (ob := .dct kvs) (k := e) ⟨ks, h1, h2⟩ vy ry (by unfold getOb; simp only; rw [if_pos hk]; exact hd') fun w qw => res_val q qw) hs
      exact dict_typeIs I (y := kV (.inl 0)) (o := valV ks (.inl 0)) (.inl ⟨ks, _, h1, rfl, rfl⟩)
    · split at hz
      · rename_i hk
        obtain ⟨hk, hpl⟩ := hk
        obtain ⟨d', hd', rfl⟩ := Option.map_eq_some_iff.mp hz
        obtain ⟨ad, ps, rfl, h1, h2⟩ := vd_dn vx hpl
        cases rx
        obtain ⟨xs, hp, hdk, hsys⟩ := tk_of I h1 (h2.mono (sub_le gh))
        refine tail_any (T := "dict") ?_ PySem.F.slot_dict_getitem.lookup (getItem_ok hu I gh (G := G) (ob := .dtn kvs.tail) (k := e) ⟨ps, h1, h2⟩ vy ry (by unfold getOb; simp only; rw [if_pos hk]; exact hd') fun w qw => res_val q qw) hs
        obtain ⟨o, es, ep, e1, e2, _⟩ := hdk
        exact ⟨o, e1, e2.1⟩
      · cases hz
  · exact ix_d value slice pins s σ H x y v u Q I rx ry ⟨G, d, e, z, gh, vx, vy, hz, q⟩ hs
def inA (d c : Dv) : Option Bool := match c with
  | .dict kvs => if isKey d = true ∧ plD kvs = true then some (getD kvs d).isSome else if okT d = true ∧ plD kvs = false then some (getN kvs.tail d).isSome else none
  | _ => inSeq d c
def inAD (d c : Dv) : Option Rz := (inA d c).map fun b => .sh (.bool b)
def ninAD (d c : Dv) : Option Rz := (inA d c).map fun b => .sh (.bool (!b))
theorem dk_get {K : PySem.W.Frag} {G H : Hp} {ad : Addr} {ks : List (Key × V)} {kvs : List (Dv × Dv)} {k : Key} (h1 : Rd H ad (.dK ks)) (h2 : DKV K G ks kvs) : ∃ ov, DGet H ad (kV k) ov ∧ ov.isSome = (getD kvs (keyD k)).isSome := by
  refine ⟨valV ks k, .inl ⟨ks, k, h1, rfl, rfl⟩, ?_⟩
  rcases dkv_get (k := k) h2 with ⟨d, v, e1, e2, _⟩ | ⟨e1, e2⟩ <;> rw [e1, e2] <;> rfl
theorem inA_d (hu : X.A.units + 65 < cLine) : OpD X (compareOp .In) inAD := by
  intro pins s σ H x y v u Q I rx ry h
  obtain ⟨G, d, c, z, gh, vx, vy, hz, q⟩ := h
  obtain ⟨b, hb, rfl⟩ := Option.map_eq_some_iff.mp hz
  unfold inA at hb
  split at hb
  · rename_i kvs
    split at hb
    · rename_i hk
      obtain ⟨hk, hpl⟩ := hk
      cases hb
      obtain ⟨ad, ks, rfl, h1, h2⟩ := vd_dk vy hpl
      cases ry
      obtain ⟨k', rfl⟩ := isKey_of hk
      rw [vd_key vx] at rx
      obtain ⟨ov, g1, g2⟩ := dk_get (k := k') h1 h2
      rw [← g2] at q
      exact d_in (by omega) I g1 rx fun s' I' => ⟨.bl ov.isSome, H, I', rfl, res_bl q⟩
    · split at hb
      · rename_i hk
        obtain ⟨hk, hpl⟩ := hk
        cases hb
        obtain ⟨ad, ps, rfl, h1, h2⟩ := vd_dn vy hpl
        cases ry
        obtain ⟨ds, n, rfl, hn, h8⟩ := okT_of hk
        obtain ⟨b, vs, rfl, _⟩ := vd_tup gh vx
        have pk : Dp X.K G (.ref b) (.tuple ds) := vx
        cases (show v = Value.ref b from rx)
        obtain ⟨xs, hp, hdk, hsys⟩ := tk_of I h1 (h2.mono (sub_le gh))
        have e2 : (getN kvs.tail (.tuple ds)).isSome = (atKey xs n).isSome := by
          rcases getN_at hn hp h2 with ⟨a1, a2⟩ | ⟨_, _, _, _, a1, _, _, a2⟩ <;> rw [a1, a2] <;> rfl
        rw [e2] at q
        exact wpAny_in_heap (show X.A.units + 1 + 8 < cLine by omega) (show (nestedKind X.prog X.w).is s.heap n b from ⟨nestedIs_of I _ _ _ _ (dp_mono (sub_le gh) _ _ pk) rfl hn, h8⟩) hsys hdk ⟨.bl (atKey xs n).isSome, H, I.tok _, rfl, res_bl q⟩
      · cases hb
  · exact in_d hu pins s σ H x y v u Q I rx ry ⟨G, d, c, _, gh, vx, vy, by unfold inSD; rw [hb]; rfl, q⟩
theorem ninA_d (hu : X.A.units + 65 < cLine) : OpD X (compareOp .NotIn) ninAD := by
  intro pins s σ H x y v u Q I rx ry h
  obtain ⟨G, d, c, z, gh, vx, vy, hz, q⟩ := h
  obtain ⟨b, hb, rfl⟩ := Option.map_eq_some_iff.mp hz
  unfold inA at hb
  split at hb
  · rename_i kvs
    split at hb
    · rename_i hk
      obtain ⟨hk, hpl⟩ := hk
      cases hb
      obtain ⟨ad, ks, rfl, h1, h2⟩ := vd_dk vy hpl
      cases ry
      obtain ⟨k', rfl⟩ := isKey_of hk
      rw [vd_key vx] at rx
      obtain ⟨ov, g1, g2⟩ := dk_get (k := k') h1 h2
      rw [← g2] at q
      exact d_notIn (by omega) I g1 rx fun s' I' => ⟨.bl (!ov.isSome), H, I', rfl, res_bl q⟩
    · split at hb
      · rename_i hk
        obtain ⟨hk, hpl⟩ := hk
        cases hb
        obtain ⟨ad, ps, rfl, h1, h2⟩ := vd_dn vy hpl
        cases ry
        obtain ⟨ds, n, rfl, hn, h8⟩ := okT_of hk
        obtain ⟨b, vs, rfl, _⟩ := vd_tup gh vx
        have pk : Dp X.K G (.ref b) (.tuple ds) := vx
        cases (show v = Value.ref b from rx)
        obtain ⟨xs, hp, hdk, hsys⟩ := tk_of I h1 (h2.mono (sub_le gh))
        have e2 : (getN kvs.tail (.tuple ds)).isSome = (atKey xs n).isSome := by
          rcases getN_at hn hp h2 with ⟨a1, a2⟩ | ⟨_, _, _, _, a1, _, _, a2⟩ <;> rw [a1, a2] <;> rfl
        rw [e2] at q
        show wpAny (model X.prog X.w) X.A (do return Value.bool (!(← contains (.ref ad) (.ref b)))) (EP X pins σ Q) X.xe s
        exact wpAny_bind (wpAny_contains_heap (show X.A.units + 1 + 8 < cLine by omega) (show (nestedKind X.prog X.w).is s.heap n b from ⟨nestedIs_of I _ _ _ _ (dp_mono (sub_le gh) _ _ pk) rfl hn, h8⟩) hsys hdk (wpAny_pure ⟨.bl (!(atKey xs n).isSome), H, I.tok _, rfl, res_bl q⟩))
      · cases hb
  · exact nin_d hu pins s σ H x y v u Q I rx ry ⟨G, d, c, _, gh, vx, vy, by unfold ninSD; rw [hb]; rfl, q⟩
/-! ### o[i] op= v -/
def sAugS (gg : Dv → Dv → Option Rz) (fo fi fe : M) : MS := fun ρ => (fo ρ).bind fun x => match x.1 with
  | .al j => (pkM fi x.2).bind fun y => (dat y.2 y.1).bind fun k => if (isKey k || okT k) = true then (match y.2[j]? with
    | some (.ow ob) => (getOb ob k).bind fun d0 => (pkM fe y.2).bind fun z => (dat z.2 z.1).bind fun d1 => (gg d0 d1).bind fun r => (match r with
      | .sh d => (match z.2[j]? with
        | some (.ow ob2) => (setOb ob2 k d).bind fun ob' => some (.nx (z.2.set j (.ow ob')))
        | _ => none)
      | .ow _ => none)
    | _ => none) else none
  | _ => none
def RGet (K : PySem.W.Frag) : V → V → Hp → VK → Prop := fun ov i H Q => ∃ G a ob k d, ov = .ref a ∧ (∀ a o, G a = some o → H a = some o) ∧ CR K G H a ob ∧ VD K G H k i ∧ getOb ob k = some d ∧ ∀ v, Dp K G v d → Q v H
theorem get_d (hu : X.A.units + 10 < cLine) : PGet X (RGet X.K) := by
  intro pins s σ H ov i ovv iv Q I ro ri h
  obtain ⟨G, a, ob, k, d, rfl, gh, c, vk, hg, q⟩ := h
  cases (show ovv = Value.ref a from ro)
  exact getItem_ok hu I gh c vk ri hg q
theorem key_stay {K : PySem.W.Frag} {G H G' H' : Hp} {k : Dv} {v : V} (s : Sub G G') (hk : (isKey k || okT k) = true) (h : VD K G H k v) : VD K G' H' k v := by
  rcases Bool.or_eq_true _ _ ▸ hk with hk | hk
  rotate_left
  · obtain ⟨ds, n, rfl, _⟩ := okT_of hk
    exact dp_mono s (.tuple ds) _ h
  obtain ⟨k', rfl⟩ := isKey_of hk
  rw [vd_key h]
  cases k' with
  | inl i => exact (Dp.int i : Dp K G' _ _)
  | inr x => exact (Dp.str x : Dp K G' _ _)
theorem ds_augS {i : Expr} {fi fe : M} {op : Operator} {gg : Dv → Dv → Option Rz} {tpos : Pos} (hu : X.A.units + 200 < cLine) (ho : PE X o (TE' X.K ix fo)) (hi : PE X i (TE' X.K ix fi)) (he : PE X e (TE' X.K ix fe)) (hp : OpD X (inplaceOp op) gg)
    (hq : ∀ (to ti te : TE) (tget : V → V → Hp → VK → Prop) (tip : TIp) (tset : TSet), PE X o to → PE X i ti → PGet X tget → PE X e te → PIp X op tip → PSet X tset → PS X (.AugAssign (.Subscript o i tpos) op e pos) (tAugS to ti te tget tip tset) := by exact fun _ _ _ _ _ _ h1 h2 h3 h4 h5 h6 => ps_augS h1 h2 h3 h4 h5 h6) :
    PS X (.AugAssign (.Subscript o i tpos) op e pos) (TS' X.K ix (sAugS gg fo fi fe)) :=
  ps_imp (hq _ _ _ _ (R2d X.K gg) _ ho (de_pk hi) (get_d (by omega)) (de_pk he) (fun pins s σ H x y v u Q I r1 r2 h => hp pins s σ H x y v u Q I r1 r2 h) (set_d hu)) fun D σ H ⟨Fr, FX, G, ρ, fl, R, hf, k⟩ => by
    unfold sAugS at hf
    obtain ⟨⟨r0, ρ0⟩, h0, hf⟩ := Option.bind_eq_some_iff.mp hf
    refine ⟨Fr, FX, G, ρ, r0, ρ0, R, h0, fun x G1 H1 s1 R1 v1 => ?_⟩
    cases r0 with
    | sh d => cases hf
    | ow d => cases hf
    | fd d => cases hf
    | al j =>
      simp only at hf
      obtain ⟨⟨r1, ρ1⟩, h1, hf⟩ := Option.bind_eq_some_iff.mp hf
      obtain ⟨kd, h2, hf⟩ := Option.bind_eq_some_iff.mp hf
      split at hf
      rotate_left
      · cases hf
      rename_i hk
      split at hf
      · rename_i ob hob
        obtain ⟨d0, h3, hf⟩ := Option.bind_eq_some_iff.mp hf
        obtain ⟨⟨r2, ρ2⟩, h4, hf⟩ := Option.bind_eq_some_iff.mp hf
        obtain ⟨d1, h5, hf⟩ := Option.bind_eq_some_iff.mp hf
        obtain ⟨z, h6, hf⟩ := Option.bind_eq_some_iff.mp hf
        cases z with
        | ow o => cases hf
        | sh d =>
          simp only at hf
          split at hf
          · rename_i ob2 hob2
            obtain ⟨ob', h7, hf⟩ := Option.bind_eq_some_iff.mp hf
            cases hf
            have ev : σ[j]? = some (some x) := v1
            refine ⟨Fr, FX, G1, ρ0, r1, ρ1, R1, h1, fun y G2 H2 s2 R2 v2 => ?_⟩
            obtain ⟨ad, ea, g2, f2, c2⟩ := R2.sl j _ hob
            rw [ev] at ea
            cases ea
            refine ⟨G2, ad, ob, kd, d0, rfl, R2.gh, c2.cr, dat_vd R2 v2 h2, h3, fun w qw => ?_⟩
            refine ⟨Fr, FX, G2, ρ1, r2, ρ2, R2, h4, fun w2 G3 H3 s3 R3 v3 => ?_⟩
            refine ⟨G3, d0, d1, .sh d, R3.gh, dp_vd R3.gh (dp_mono s3 _ _ qw), dat_vd R3 v3 h5, h6, res_ok R3 fun w3 G4 H4 s4 R4 v4 => ?_⟩
            obtain ⟨ad', ea', g4, f4, c4⟩ := R4.sl j _ hob2
            rw [ev] at ea'
            cases ea'
            refine ⟨G4, ad, ob2, ob', kd, d, rfl, R4.gh, g4, c4, key_stay (s3.trans s4) hk (dat_vd R2 v2 h2), v4, h7, fun u' c' => ?_⟩
            exact k G4 σ _ (((s1.trans s2).trans s3).trans s4) (R4.mut hob2 ev c')
          · cases hf
      · cases hf
/-! ### a, b = x, y -/
def setR (ρ : Rho) (i : Nat) : Rv → Option Rho
  | .sh d => some (ρ.set i (.sh d))
  | .ow o => some (ρ.set i (.ow o))
  | .al _ => none
  | .fd o => some (ρ.set i (.fd o))
def sPar (i j : Nat) (ga : MA) : MS := fun ρ => (ga ρ).bind fun x => match x.1 with
  | [r, s] => (setR x.2 i r).bind fun ρ1 => (setR ρ1 j s).bind fun ρ2 => some (.nx ρ2)
  | _ => none
theorem setR_ok {K : PySem.W.Frag} {Fr G H : Hp} {FX : Nat → Option V} {ρ ρ' : Rho} {σ : L2.St} {i : Nat} {r : Rv} {v : V} (R : RS K ix Fr FX G ρ σ H) (hi : i ∉ ix) (q : VOk K Fr G H ρ σ r v) (h : setR ρ i r = some ρ') : RS K ix Fr FX G ρ' (σ.set i (some v)) H := by
  cases r with
  | sh d => cases h; exact R.set hi ⟨v, rfl, q⟩ fun o a z => nomatch z
  | fd d =>
    cases h
    obtain ⟨a, rfl, c⟩ := q
    exact R.set hi ⟨a, rfl, c⟩ fun o a z => nomatch z
  | al j => cases h
  | ow o =>
    cases h
    obtain ⟨a, rfl, g, fr, c, hn⟩ := q
    exact R.set hi ⟨a, rfl, g, fr, c⟩ fun o' a' z1 z2 j o2 e1 => by cases z2; exact hn j o2 e1
theorem setR_keep {K : PySem.W.Frag} {Fr G H : Hp} {ρ ρ' : Rho} {σ : L2.St} {i : Nat} {r r' : Rv} {v v' : V} (q : VOk K Fr G H ρ σ r' v') (nal : ∀ k, r' ≠ .al k) (h : setR ρ i r = some ρ') (hl : ρ.length = σ.length) (ap : ∀ (o o' : Ob) (a : Addr), r = .ow o → v = .ref a → r' = .ow o' → v' ≠ .ref a) : VOk K Fr G H ρ' (σ.set i (some v)) r' v' := by
  cases r' with
  | sh d => exact q
  | fd d => exact q
  | al k => exact absurd rfl (nal k)
  | ow o' =>
    obtain ⟨a, rfl, g, fr, c, hn⟩ := q
    refine ⟨a, rfl, g, fr, c, fun k o2 e1 e2 => ?_⟩
    by_cases hk : i = k
    · subst hk
      cases r with
      | al j => cases h
      | sh d =>
        cases h
        have hlt : i < ρ.length := by have := (List.getElem?_eq_some_iff.mp e1).1; simpa using this
        rw [List.getElem?_set_self hlt] at e1
        cases e1
      | fd d =>
        cases h
        have hlt : i < ρ.length := by have := (List.getElem?_eq_some_iff.mp e1).1; simpa using this
        rw [List.getElem?_set_self hlt] at e1
        cases e1
      | ow o =>
        cases h
        have hlt : i < ρ.length := by have := (List.getElem?_eq_some_iff.mp e1).1; simpa using this
        rw [List.getElem?_set_self (by omega)] at e2
        cases e2
        exact ap _ _ a rfl rfl rfl rfl
    · rw [List.getElem?_set_ne hk] at e2
      have e1' : ρ[k]? = some (.ow o2) := by
        cases r with
        | al j => cases h
        | sh d => cases h; rw [List.getElem?_set_ne hk] at e1; exact e1
        | fd d => cases h; rw [List.getElem?_set_ne hk] at e1; exact e1
        | ow o => cases h; rw [List.getElem?_set_ne hk] at e1; exact e1
      exact hn k o2 e1' e2
theorem ds_par {i j : Nat} {x y : Str} {px py pt : Pos} {kt k2 pt2} (hc : X.calm = true) (hN : X.N.Nodup) (hi : X.N[i]? = some x) (hj : X.N[j]? = some y) (hij : i ≠ j) (hii : i ∉ ix) (hjj : j ∉ ix)
    (hx : X.env.scope.names.lookup x = some .local) (hy : X.env.scope.names.lookup y = some .local) (ha : PA X [a, b] (TA' X.K ix ga))
    (hw : swappedStores [.Tuple [.Name x px, .Name y py] kt pt] (.Tuple [a, b] k2 pt2) X.env = pure (some [x, y]) := by rfl)
    (hs : swapsWithSole [.Tuple [.Name x px, .Name y py] kt pt] (.Tuple [a, b] k2 pt2) pos.line X.env = pure false := by rfl) :
    PS X (.Assign [.Tuple [.Name x px, .Name y py] kt pt] (.Tuple [a, b] k2 pt2) pos) (TS' X.K ix (sPar i j ga)) :=
  ps_imp (ps_par hc hN hi hj hij hx hy ha hw hs) fun D σ H ⟨Fr, FX, G, ρ, fl, R, hf, k⟩ => by
    unfold sPar at hf
    obtain ⟨⟨rs, ρ0⟩, h0, hf⟩ := Option.bind_eq_some_iff.mp hf
    refine ⟨Fr, FX, G, ρ, rs, ρ0, R, h0, fun vs G1 H1 s1 R1 v1 => ?_⟩
    simp only at hf
    split at hf
    · rename_i r s
      obtain ⟨ρ1, h1, hf⟩ := Option.bind_eq_some_iff.mp hf
      obtain ⟨ρ2, h2, hf⟩ := Option.bind_eq_some_iff.mp hf
      cases hf
      cases vs with
      | nil => exact False.elim v1
      | cons v vs =>
        cases vs with
        | nil => exact False.elim v1.2.2
        | cons w vs =>
          obtain ⟨q1, ap, q2, _, q3⟩ := v1
          cases vs with
          | cons _ _ => exact False.elim q3
          | nil =>
            have nal : ∀ k, s ≠ .al k := fun k z => by subst z; cases h2
            have K1 := setR_ok R1 hii q1 h1
            have Q2 := setR_keep (v := v) q2 nal h1 R1.len fun o o' a z1 z2 z3 z4 => ap o a z1 z2 0 o' (by rw [z3]; rfl) (by rw [z4]; rfl)
            have K2 := setR_ok K1 hjj Q2 h2
            exact ⟨v, w, rfl, k G1 _ H1 s1 K2⟩
    · cases hf
end
end DL

set_option Elab.async false
set_option linter.all false
set_option autoImplicit false
set_option maxRecDepth 100000
set_option maxHeartbeats 1000000
namespace DL
open PySem PySem.Spec PyProof.Rows L2

/-! ### slices -/
def cutD (xs : List Dv) (lo hi : Option Int) : List Dv := (xs.drop (HT.sIx xs.length 0 lo)).take (HT.sIx xs.length xs.length hi - HT.sIx xs.length 0 lo)
def cutG (d : Dv) (lo hi : Option Int) : Option Rz := match d with
  | .list xs => some (.ow (.lst (cutD xs lo hi)))
  | .tuple xs => some (.sh (.tuple (cutD xs lo hi)))
  | .str z => if z.length ≤ sizeLine then some (.sh (.str (cutS z lo hi))) else none
  | _ => none
abbrev MO := Rho → Option (Option Int × Rho)
def oNo : MO := fun ρ => some (none, ρ)
def oInt (f : M) : MO := fun ρ => (f ρ).bind fun x => match x.1 with
  | .sh (.int i) => some (some i, x.2)
  | _ => none
def eCut (f : M) (lo hi : MO) : M := fun ρ => (pkM f ρ).bind fun x => (lo x.2).bind fun y => (hi y.2).bind fun z => (dat z.2 x.1).bind fun d => (cutG d y.1 z.1).bind fun r => some (r.rv, z.2)
def TO' (K : PySem.W.Frag) (ix : List Nat) (f : MO) : TO := fun σ H Q => ∃ Fr FX G ρ i ρ', RS K ix Fr FX G ρ σ H ∧ f ρ = some (i, ρ') ∧ ∀ G' H', Sub G G' → RS K ix Fr FX G' ρ' σ H' → Q i H'
section
variable {X : Cx} {ix : List Nat} {e a b o : Expr} {es : List Expr} {f fa fb fc fo : M} {ga : MA} {g : MS} {pos p p2 : Pos}
theorem po_imp {e : Option Expr} {t t' : TO} (h : PO X e t) (k : ∀ σ H Q, t' σ H Q → t σ H Q) : PO X e t' := ⟨fun pins s σ H Q I q => h.run pins s σ H Q I (k _ _ _ q)⟩
theorem do_no : PO X none (TO' X.K ix oNo) := po_imp po_none fun σ H Q ⟨Fr, FX, G, ρ, i, ρ', R, hf, k⟩ => by
  cases hf
  exact k G H (Sub.refl _) R
theorem do_int (h : PE X e (TE' X.K ix f)) : PO X (some e) (TO' X.K ix (oInt f)) := po_imp (po_some h) fun σ H Q ⟨Fr, FX, G, ρ, i, ρ', R, hf, k⟩ => by
  unfold oInt at hf
  obtain ⟨⟨r0, ρ0⟩, h0, hf⟩ := Option.bind_eq_some_iff.mp hf
  refine ⟨Fr, FX, G, ρ, r0, ρ0, R, h0, fun v G1 H1 s1 R1 v1 => ?_⟩
  simp only at hf
  split at hf
  · cases hf
    have v1' : Dp X.K G1 v (.int _) := v1
    cases v1'
    exact ⟨_, rfl, k G1 H1 s1 R1⟩
  · cases hf
theorem cut_dp {K : PySem.W.Frag} {G : Hp} {ds : List Dv} {vs : List V} {lo hi : Option Int} (h : DpAll K G vs ds) : DpAll K G (cutV vs lo hi) (cutD ds lo hi) := by
  unfold cutV cutD
  rw [dpAll_length h]
  exact dpAll_take _ (dpAll_drop _ h)
theorem cutD_whole {ds : List Dv} {lo hi : Option Int} (h : HT.sIx ds.length 0 lo = 0 ∧ HT.sIx ds.length ds.length hi = ds.length) : cutD ds lo hi = ds := by
  unfold cutD
  rw [h.1, h.2]
  simp
def RCut (K : PySem.W.Frag) : V → Option Int → Option Int → Hp → VK → Prop := fun x lo hi H Q => ∃ G d z, (∀ a o, G a = some o → H a = some o) ∧ VD K G H d x ∧ cutG d lo hi = some z ∧ Res K G H Q z
theorem cut_d : SlR X (RCut X.K) := by
  intro pins s σ H x v vl vu lo hi sl Q I rx hs pl pu h
  obtain ⟨G, d, z, gh, vd, hz, q⟩ := h
  unfold cutG at hz
  split at hz
  · cases hz
    obtain ⟨ad, vs, rfl, h1, h2⟩ := vd_list vd
    exact sl_list pins s σ H _ v vl vu lo hi sl Q I rx hs pl pu ⟨ad, vs, rfl, h1, fun p hp => res_lst q hp (cut_dp h2)⟩
  · rename_i ds
    cases hz
    obtain ⟨ad, vs, rfl, g1, h1, h2⟩ := vd_tup gh vd
    have l := dpAll_length h2
    refine sl_tupA pins s σ H _ v vl vu lo hi sl Q I rx hs pl pu ⟨ad, vs, rfl, h1, fun hw => ?_, fun _ p hp => res_tup q (g_none gh hp) hp (cut_dp h2)⟩
    rw [l] at hw
    rw [cutD_whole hw] at q
    exact res_val q (.tup g1 h2)
  · split at hz
    · rename_i hc
      cases hz
      rw [vd_str vd] at rx
      exact sl_str pins s σ H _ v vl vu lo hi sl Q I rx hs pl pu ⟨_, rfl, hc, res_str q⟩
    · cases hz
  · cases hz
theorem de_cut {lo hi : Option Expr} {ml mh : MO} (he : PE X e (TE' X.K ix f)) (hl : PO X lo (TO' X.K ix ml)) (hu : PO X hi (TO' X.K ix mh)) : PE X (.Subscript e (.Slice lo hi none p2) pos) (TE' X.K ix (eCut f ml mh)) :=
  pe_imp (pe_slice cut_d (de_pk he) hl hu) fun σ H Q ⟨Fr, FX, G, ρ, r, ρ', R, hf, k⟩ => by
    unfold eCut at hf
    obtain ⟨⟨r0, ρ0⟩, h0, hf⟩ := Option.bind_eq_some_iff.mp hf
    obtain ⟨⟨i, ρ1⟩, h1, hf⟩ := Option.bind_eq_some_iff.mp hf
    obtain ⟨⟨j, ρ2⟩, h2, hf⟩ := Option.bind_eq_some_iff.mp hf
    obtain ⟨d, h3, hf⟩ := Option.bind_eq_some_iff.mp hf
    obtain ⟨z, h4, hf⟩ := Option.bind_eq_some_iff.mp hf
    cases hf
    refine ⟨Fr, FX, G, ρ, r0, ρ0, R, h0, fun v G1 H1 s1 R1 v1 => ?_⟩
    cases r0 with
    | ow ob =>
      cases ob with
      | lst ds => exact absurd rfl (pk_noow h0 ds)
      | dct kvs =>
        cases h3
        cases h4
      | dtn kvs =>
        cases h3
        cases h4
    | fd ob =>
      cases ob with
      | lst ds =>
        obtain ⟨_, _, c⟩ := v1
        exact False.elim c
      | dct kvs =>
        cases h3
        cases h4
      | dtn kvs =>
        cases h3
        cases h4
    | sh d0 =>
      cases h3
      refine ⟨Fr, FX, G1, ρ0, i, ρ1, R1, h1, fun G2 H2 s2 R2 => ⟨Fr, FX, G2, ρ1, j, _, R2, h2, fun G3 H3 s3 R3 => ?_⟩⟩
      exact ⟨G3, d, z, R3.gh, dp_vd R3.gh (dp_mono (s2.trans s3) _ _ v1), h4, res_ok R3 fun w G4 H4 s4 R4 v4 => k w G4 H4 (((s1.trans s2).trans s3).trans s4) R4 v4⟩
    | al n =>
      refine ⟨Fr, FX, G1, ρ0, i, ρ1, R1, h1, fun G2 H2 s2 R2 => ⟨Fr, FX, G2, ρ1, j, _, R2, h2, fun G3 H3 s3 R3 => ?_⟩⟩
      exact ⟨G3, d, z, R3.gh, dat_vd (r := .al n) R3 v1 h3, h4, res_ok R3 fun w G4 H4 s4 R4 v4 => k w G4 H4 (((s1.trans s2).trans s3).trans s4) R4 v4⟩

/-! ### x[::-1] -/
def revD : Dv → Option Rz
  | .list xs => some (.ow (.lst xs.reverse))
  | .tuple xs => some (.sh (.tuple xs.reverse))
  | _ => none
theorem slice_back {prog : Program} {w : World} {A : Around} {E : Value → Shared → Prop} {s : Shared} {sl : Addr} {vl vu vs : Value} {n : Nat} {Q : Int × Int × Nat → Shared → Prop} (hs : s.heap.IsSliceOf sl vl vu vs) (pl : IsPart vl none) (pu : IsPart vu none) (ps : IsPart vs (some (-1)))
    (h : Q ((n : Int) - 1, -1, n) s) : wpAny (model prog w) A (Builtin.Slice.sliceApplied (.ref sl) (pure (n : Int))) Q E s := by
  obtain ⟨os, ho, hc, hd⟩ := id hs
  unfold Builtin.Slice.sliceApplied Builtin.Slice.sliceFields
  refine wpAny_bind (wpAny_bind (wpAny_field ho hd (x := vl) rfl (wpAny_bind (wpAny_field ho hd (x := vu) rfl (wpAny_bind (wpAny_field ho hd (x := vs) rfl (wpAny_pure ?_)))))))
  refine wpAny_bind (HT.slicePart_ ps ?_)
  show wpAny _ _ (if ((-1 : Int) == 0) = true then _ else _) _ _ s
  rw [if_neg (by decide)]
  refine wpAny_bind (HT.slicePart_ pl (wpAny_bind (HT.slicePart_ pu (wpAny_bind (wpAny_pure ?_)))))
  show wpAny _ _ (match Builtin.Slice.sliceAdjust none none (-1) (n : Int) with | (lo, hi) => pure (lo, (-1 : Int), Builtin.Slice.slicePlaces lo hi (-1))) _ _ s
  have e1 : Builtin.Slice.sliceAdjust none none (-1) (n : Int) = ((n : Int) - 1, -1) := by
    unfold Builtin.Slice.sliceAdjust
    simp
  rw [e1]
  show wpAny _ _ (pure ((n : Int) - 1, (-1 : Int), Builtin.Slice.slicePlaces ((n : Int) - 1) (-1) (-1))) _ _ s
  have e2 : Builtin.Slice.slicePlaces ((n : Int) - 1) (-1) (-1) = n := by
    unfold Builtin.Slice.slicePlaces
    simp
    try omega
  rw [e2]
  exact wpAny_pure h
theorem pick_back (xs : Array Value) : ((List.range xs.size).filterMap fun (m : Nat) => xs[(((xs.size : Int) - 1) + (m : Int) * (-1)).toNat]?) = xs.toList.reverse := by
  have e : ((List.range xs.size).filterMap fun (m : Nat) => xs[(((xs.size : Int) - 1) + (m : Int) * (-1)).toNat]?) = (((List.range xs.size).map fun k => xs.size - 1 - k).filterMap fun k => xs[k]?) := by
    rw [List.filterMap_map]
    congr 1
    funext m
    have : (((xs.size : Int) - 1) + (m : Int) * (-1)).toNat = xs.size - 1 - m := by omega
    rw [this]
    rfl
  rw [e, PySem.W.krv_range, List.filterMap_reverse, PySem.W.krv_all]
theorem tuple_back {prog : Program} {w : World} {A : Around} {E : Value → Shared → Prop} {s : Shared} {t sl : Addr} {items : Array Value} {vl vu vs : Value} {Q : Value → Shared → Prop} (ht : IsTup s.heap t items) (hs : s.heap.IsSliceOf sl vl vu vs) (pl : IsPart vl none) (pu : IsPart vu none) (ps : IsPart vs (some (-1)))
    (hsz : items.size ≤ sizeLine) (h : Q (.ref s.heap.objs.size) { s with heap := s.heap.push { cls := .type "tuple", data := .seq items.toList.reverse.toArray } }) : wpAny (model prog w) A (getItem (.ref t) (.ref sl)) Q E s := by
  have hz : sizeOk (.seq items.toList.reverse.toArray) := by
    show items.toList.reverse.toArray.size ≤ sizeLine
    simpa using hsz
  obtain ⟨os, ho, hc, hd⟩ := id hs
  have hT : s.TypeIs (.ref sl) "slice" := ⟨os, ho, hc⟩
  unfold getItem
  try with_reducible refine wpAny_holding ?_
  first | refine wpAny_bind (wpAny_pure ?_) | skip
  refine wpAny_bind (wpAny_sequenceKey ht.typeIs (by decide) (wpAny_bind (wpAny_callSpecial?_slot (name := Str.ofString "__getitem__") ht.typeIs PyProof.Rows.slot_tuple_getitem (wpAny_call_entry PyProof.Rows.slot_tuple_getitem ht.typeIs entry_tuple_getitem ?_ (args_tuple_getitem _ _)))))
  show wpAny _ _ (Builtin.Tuple.tupleItemsOf (.ref t) >>= _) _ _ s
  refine wpAny_bind (tupleItemsOf_ ht (wpAny_bind (wpAny_typeOf hT ?_)))
  rw [if_pos (by decide)]
  refine wpAny_bind (slice_back hs pl pu ps ?_)
  have no : ¬ ((((items.size : Int) - 1) == 0 && (-1 : Int) == 1 && items.size == items.size) = true) := by simp
  show wpAny _ _ (if (((items.size : Int) - 1) == 0 && (-1 : Int) == 1 && items.size == items.size) = true then _ else _) _ _ s
  rw [if_neg no, pick_back]
  first
    | exact wpAny_bind (m := Builtin.Tuple.tupleExact _) (wpAny_newObj_type (wpAny_pure ⟨_, rfl, wpAny_pure h⟩) hz)
    | exact wpAny_bind (m := Builtin.Tuple.tupleExact _) (wpAny_newObj_type (wpAny_bind (wpAny_pure (wpAny_pure ⟨_, rfl, wpAny_pure h⟩))) hz)
    | exact wpAny_bind (wpAny_bind (m := Builtin.Tuple.tupleExact _) (wpAny_newObj_type (wpAny_pure (wpAny_pure ⟨_, rfl, wpAny_pure h⟩)) hz))
    | exact wpAny_bind (wpAny_bind (m := Builtin.Tuple.tupleExact _) (wpAny_newObj_type (wpAny_pure ⟨_, rfl, wpAny_pure h⟩) hz))
def tBack (K : PySem.W.Frag) (te : TE) : TE := fun σ H Q => te σ H fun x H1 => ∃ a xs, x = .ref a ∧ ((SqL K H1 a xs ∧ ∀ p, H1 p = none → Q (.ref p) (upd H1 p (.lst xs.reverse))) ∨ (SqT K H1 a xs ∧ ∀ p, H1 p = none → Q (.ref p) (upd H1 p (.tup xs.reverse))))
theorem pe_back {te : TE} {k : Nat} {p1 p2 p3 : Pos} (he : PE X e te) : PE X (.Subscript e (.Slice none none (some (.UnaryOp .USub (.Constant (.int 1) k p1) p2)) p3) pos) (tBack X.K te) := ⟨fun pins s σ H Q I h => Subscript_ (thn (he.run pins s σ H _ I h) fun v s1 ⟨x, H1, I1, r1, ad, xs, ex, q⟩ => by
  subst ex
  cases r1
  have st : PO X (some (.UnaryOp .USub (.Constant (.int 1) k p1) p2)) (tPart (tUn (rU fun i => .int (-i)) (tC (.int 1)))) := po_some (pe_un un_neg pe_int)
  refine wpAny_Slice (thn (po_none.run pins s1 σ H1 (fun o H2 => o = none ∧ H2 = H1) I1 ⟨rfl, rfl⟩) fun vl s2 ⟨l, H2, I2, pl, el, e2⟩ => ?_)
  subst el e2
  refine thn (po_none.run pins s2 σ H2 (fun o H3 => o = none ∧ H3 = H2) I2 ⟨rfl, rfl⟩) fun vu s3 ⟨u, H3, I3, pu, eu, e3⟩ => ?_
  subst eu e3
  refine thn (st.run pins s3 σ H3 (fun o H4 => o = some (-1) ∧ H4 = H3) I3 ⟨1, rfl, -1, rfl, rfl, rfl⟩) fun vt s4 ⟨o, H4, I4, pt, eo, e4⟩ => ?_
  subst eo e4
  have I5 : Inv X pins σ H4 { s4 with heap := s4.heap.push { cls := .type "slice", data := .fields #[vl, vu, vt] } } := I4.kept (t' := s4.toks) fun b ob q => Heap.get?_push_of_some _ q
  show wpAny (model X.prog X.w) X.A (subscriptTail e (.Slice none none (some (.UnaryOp .USub (.Constant (.int 1) k p1) p2)) p3) (.ref ad) (.ref s4.heap.objs.size)) (EP X pins σ Q) X.xe { s4 with heap := s4.heap.push { cls := .type "slice", data := .fields #[vl, vu, vt] } }
  rcases q with ⟨hx, q⟩ | ⟨hx, q⟩
  · obtain ⟨its, r, ht, hz⟩ := I5.list hx
    have hl := r.length
    refine tail_any (ops := [.ref ad, .ref s4.heap.objs.size]) ht.isList.typeIs (PySem.slot_list_getitem.lookup) ?_ (by with_unfolding_all rfl)
    refine wpAny_getItem_list_slice ht.isList (Heap.IsSliceOf.new _ vl vu vt) pl pu pt (by decide) ?_ (by rw [List.size_toArray]; omega)
    rw [PySem.W.krv_pick]
    exact ⟨.ref _, _, I5.lnew (t' := s4.toks) (ys := xs.reverse) r.reverse (by rw [List.length_reverse]; exact hz), rfl, q _ I5.fresh⟩
  · obtain ⟨its, r, ht, hz⟩ := I5.tuple hx
    have hl := r.length
    refine tail_any (ops := [.ref ad, .ref s4.heap.objs.size]) ht.typeIs PyProof.Rows.slot_tuple_getitem.lookup ?_ (by with_unfolding_all rfl)
    refine tuple_back ht (Heap.IsSliceOf.new _ vl vu vt) pl pu pt (by rw [List.size_toArray]; omega) ?_
    exact ⟨.ref _, _, I5.laid (t' := s4.toks) (o := .tup xs.reverse) (fun b ob z => Heap.get?_push_of_some _ z) (Nat.le_refl _) (show ObjOk X.prog X.w _ _ _ (.tup xs.reverse) from ⟨by rw [List.length_reverse]; exact hz, _, r.reverse, IsTup.new _ _⟩), rfl, q _ I5.fresh⟩)⟩
theorem de_back {k : Nat} {p1 p2 p3 : Pos} (he : PE X e (TE' X.K ix f)) : PE X (.Subscript e (.Slice none none (some (.UnaryOp .USub (.Constant (.int 1) k p1) p2)) p3) pos) (TE' X.K ix (unS revD f)) :=
  pe_imp (pe_back he) fun σ H Q ⟨Fr, FX, G, ρ, r, ρ', R, hf, k⟩ => by
    unfold unS at hf
    obtain ⟨⟨r1, ρ1⟩, h1, hf⟩ := Option.bind_eq_some_iff.mp hf
    obtain ⟨d, h2, hf⟩ := Option.bind_eq_some_iff.mp hf
    obtain ⟨z, h3, hf⟩ := Option.bind_eq_some_iff.mp hf
    cases hf
    refine ⟨Fr, FX, G, ρ, r1, _, R, h1, fun v G1 H1 s1 R1 v1 => ?_⟩
    have vd := dat_vd R1 v1 h2
    have q : Res X.K G1 H1 Q z := res_ok R1 fun w G2 H2 s2 R2 w2 => k w G2 H2 (s1.trans s2) R2 w2
    unfold revD at h3
    split at h3
    · cases h3
      obtain ⟨ad, vs, rfl, h4, h5⟩ := vd_list vd
      exact ⟨ad, vs, rfl, .inl ⟨h4, fun p hp => res_lst q hp (dpAll_reverse h5)⟩⟩
    · cases h3
      obtain ⟨ad, vs, rfl, g4, h4, h5⟩ := vd_tup R1.gh vd
      exact ⟨ad, vs, rfl, .inr ⟨h4, fun p hp => res_tup q (g_none R1.gh hp) hp (dpAll_reverse h5)⟩⟩
    · cases h3
end
end DL

set_option Elab.async false
set_option linter.all false
set_option autoImplicit false
set_option maxRecDepth 100000
namespace DL
open PySem PySem.Spec PyProof.Rows L2

/-! ### dict displays -/
def prS : List (Key × M) → Rho → Option (List (Key × Dv) × Rho)
  | [], ρ => some ([], ρ)
  | (k, f) :: r, ρ => (frM f ρ).bind fun x => match x.1 with
    | .sh d => (prS r x.2).bind fun y => some ((k, d) :: y.1, y.2)
    | _ => none
def mergeD (kvs : List (Dv × Dv)) (more : List (Key × Dv)) : List (Dv × Dv) := more.foldl (fun acc p => putD acc (keyD p.1) p.2) kvs
def eDisp (r : List (Key × M)) : M := fun ρ => (prS r ρ).bind fun y => some (.ow (.dct (mergeD [] y.1)), y.2)
inductive DPs (X : Cx) (ix : List Nat) : List (Option Expr) → List Expr → List (Key × M) → Prop
  | nil : DPs X ix [] [] []
  | cons {e v : Expr} {ks : List (Option Expr)} {vs : List Expr} {k : Key} {f : M} {r : List (Key × M)} (hk : PE X e (tC (kV k))) (hv : PE X v (TE' X.K ix f)) (hr : DPs X ix ks vs r) : DPs X ix (some e :: ks) (v :: vs) ((k, f) :: r)
def trsOf (K : PySem.W.Frag) (ix : List Nat) : List (Key × M) → List (TE × TE)
  | [] => []
  | (k, f) :: r => (tC (kV k), TE' K ix (frM f)) :: trsOf K ix r
theorem DPs.pps {X : Cx} {ix : List Nat} {pos : Pos} : ∀ {ks : List (Option Expr)} {vs : List Expr} {r : List (Key × M)}, DPs X ix ks vs r → PPs X pos ks vs (trsOf X.K ix r)
  | _, _, _, .nil => pps_nil
  | _, _, _, .cons hk hv hr => pps_cons hk (de_fr hv) hr.pps
/-- the pairs that were made -/
inductive KVr (K : PySem.W.Frag) (G : Hp) : List (Key × V) → List (Key × Dv) → Prop
  | nil : KVr K G [] []
  | cons {k : Key} {v : V} {d : Dv} {r : List (Key × V)} {s : List (Key × Dv)} : Dp K G v d → KVr K G r s → KVr K G ((k, v) :: r) ((k, d) :: s)
theorem kvr_merge {K : PySem.W.Frag} {G : Hp} : ∀ {r : List (Key × V)} {s : List (Key × Dv)} {ks : List (Key × V)} {kvs : List (Dv × Dv)}, KVr K G r s → DKV K G ks kvs → DKV K G (mergeK ks r) (mergeD kvs s)
  | _, _, _, _, .nil, h => h
  | _, _, _, _, .cons q t, h => kvr_merge (ks := putK _ _ _) (kvs := putD _ _ _) t (dkv_put q h)
theorem kvr_len {K : PySem.W.Frag} {G : Hp} : ∀ {r : List (Key × V)} {s : List (Key × Dv)}, KVr K G r s → r.length = s.length
  | _, _, .nil => rfl
  | _, _, .cons _ t => by simp [kvr_len t]
theorem prS_len : ∀ {r : List (Key × M)} {ρ ρ' : Rho} {kds : List (Key × Dv)}, prS r ρ = some (kds, ρ') → kds.length = r.length
  | [], _, _, _, h => by cases h; rfl
  | (k, f) :: r, ρ, ρ', kds, h => by
    unfold prS at h
    obtain ⟨⟨r0, ρ0⟩, h0, h⟩ := Option.bind_eq_some_iff.mp h
    simp only at h
    split at h
    · obtain ⟨⟨y, ρ1⟩, h1, h⟩ := Option.bind_eq_some_iff.mp h
      cases h
      simp [prS_len h1]
    · cases h
theorem prS_ok {K : PySem.W.Frag} {ix : List Nat} {FX : Nat → Option V} {Fr : Hp} {σ : L2.St} : ∀ (r : List (Key × M)) {G H : Hp} {ρ ρ' : Rho} {kds : List (Key × Dv)} {Q : List (V × V) → Hp → Prop}, RS K ix Fr FX G ρ σ H → prS r ρ = some (kds, ρ') →
    (∀ kvs G' H', Sub G G' → RS K ix Fr FX G' ρ' σ H' → KVr K G' kvs kds → Q (kvs.map fun kv => (kV kv.1, kv.2)) H') → tPairs (trsOf K ix r) σ H Q
  | [], G, H, ρ, ρ', kds, Q, R, h, k => by
    cases h
    exact k [] G H (Sub.refl _) R .nil
  | (key, f) :: r, G, H, ρ, ρ', kds, Q, R, h, k => by
    unfold prS at h
    obtain ⟨⟨r0, ρ0⟩, h0, h⟩ := Option.bind_eq_some_iff.mp h
    simp only at h
    split at h
    · rename_i d
      obtain ⟨⟨y, ρ1⟩, h1, h⟩ := Option.bind_eq_some_iff.mp h
      cases h
      show TE' K ix (frM f) σ H _
      refine ⟨Fr, FX, G, ρ, _, ρ0, R, h0, fun v G1 H1 s1 R1 v1 => prS_ok r R1 h1 fun kvs G2 H2 s2 R2 q2 => ?_⟩
      exact k ((key, v) :: kvs) G2 H2 (s1.trans s2) R2 (.cons (dp_mono s2 _ _ v1) q2)
    · cases h
theorem RS.updF {K : PySem.W.Frag} {ix : List Nat} {Fr G H : Hp} {FX : Nat → Option V} {ρ : Rho} {σ : L2.St} {p : Addr} {u : HO} (R : RS K ix Fr FX G ρ σ H) (g : G p = none) (f : Fr p = none) (hn : ∀ (i : Nat) (o' : Ob), ρ[i]? = some (.ow o') → σ[i]? ≠ some (some (.ref p))) :
    RS K ix Fr FX G ρ σ (upd H p u) := by
  refine ⟨fun a o e => ?_, fun a o e => ?_, R.gf, R.len, fun i s e => ?_, R.sep, R.fx⟩
  · have ha : a ≠ p := fun z => by subst z; rw [g] at e; cases e
    rw [upd_ne ha]; exact R.gh a o e
  · have ha : a ≠ p := fun z => by subst z; rw [f] at e; cases e
    rw [upd_ne ha]; exact R.fh a o e
  · refine (R.sl i s e).mono (Sub.refl _) fun a o' e1 e2 g1 f1 => ?_
    have ha : a ≠ p := fun z => by
      subst z; subst e2
      exact hn i _ e e1
    rw [upd_ne ha]
    exact ⟨g1, rfl⟩
theorem de_disp {X : Cx} {ix : List Nat} {pos : Pos} {keys : List (Option Expr)} {values : List Expr} {r : List (Key × M)} (h : DPs X ix keys values r) (hall : keys.all (·.isSome) = true := by rfl) (hl : keys.length = values.length := by rfl) (h0 : keys ≠ [] := by decide)
    (h15 : r.length ≤ 15 := by decide) (h15' : keys.length ≤ 15 := by decide) : PE X (.Dict keys values pos) (TE' X.K ix (eDisp r)) := by
  refine pe_imp (pe_disp h.pps hall hl h0 h15') fun σ H Q ⟨Fr, FX, G, ρ, r0, ρ', R, hf, k⟩ => ?_
  unfold eDisp at hf
  obtain ⟨⟨kds, ρ1⟩, h1, hf⟩ := Option.bind_eq_some_iff.mp hf
  cases hf
  intro p hp
  obtain ⟨g, f0⟩ := R.none_of hp
  have R1 := (R.newH (o := .dK []) hp).frame g upd_same (R.notIn hp)
  refine prS_ok r R1 h1 fun kvs G2 H2 s2 R2 q2 => ?_
  have g2 : G2 p = none := R2.gf p (by rw [upd_same]; simp)
  have h2 : H2 p = some (.dK []) := R2.fh p _ upd_same
  have hn : ∀ (i : Nat) (o' : Ob), ρ1[i]? = some (.ow o') → σ[i]? ≠ some (some (.ref p)) := fun i o' e e1 => by
    obtain ⟨a, e2, _, f2, _⟩ := R2.sl i _ e
    rw [e1] at e2
    cases e2
    rw [upd_same] at f2
    cases f2
  refine ⟨h2, kvs, rfl, ?_, ?_⟩
  · rw [kvr_len q2, prS_len h1]; exact h15
  · exact k _ G2 _ s2 ((R2.unframe f0).updF g2 f0 hn) ⟨p, rfl, g2, f0, ⟨_, upd_same, kvr_merge q2 .nil⟩, hn⟩

/-! ### whiles by enough rounds -/
theorem whileS_succ {c : MB} {b : MS} : ∀ (n : Nat) {ρ : Rho} {fl : Fl}, whileS c b n ρ = some fl → whileS c b (n + 1) ρ = some fl
  | 0, ρ, fl, h => by cases h
  | n + 1, ρ, fl, h => by
    unfold whileS at h ⊢
    obtain ⟨⟨k, ρ1⟩, h1, h⟩ := Option.bind_eq_some_iff.mp h
    rw [h1]
    simp only [Option.bind_some] at h ⊢
    split at h
    · rename_i hk
      rw [if_pos hk]
      obtain ⟨f2, h2, h⟩ := Option.bind_eq_some_iff.mp h
      rw [h2]
      simp only [Option.bind_some]
      cases f2 with
      | nx ρ2 => exact whileS_succ n h
      | ct ρ2 => exact whileS_succ n h
      | bk ρ2 => exact h
      | rt r ρ2 => exact h
    · rename_i hk
      rw [if_neg hk]
      exact h
theorem whileS_le {c : MB} {b : MS} {n m : Nat} (h : n ≤ m) {ρ : Rho} {fl : Fl} (e : whileS c b n ρ = some fl) : whileS c b m ρ = some fl := by
  induction h with
  | refl => exact e
  | step _ ih => exact whileS_succ _ ih

/-! ### defs by name -/
structure Dn (K : PySem.W.Frag) (mg : Str → Option Value) (x : Str) (st : Stmt) (ps : List Str) : Prop where
  ex : ∃ f fd, FunD K x x (defArgs st) (defBody st) (defScope st) [] [] f fd ∧ mg x = some (.ref f) ∧ Binds K fd ps []
structure Has (P : Program) (w : World) (K : PySem.W.Frag) (mg : Str → Option Value) (base : Heap) (k : Nat) (x : Str) (ps : List Str) (F : FnS) : Prop where
  ex : ∃ f fd, FnOk P w K mg base CX0 k f fd ps (spD K ps.length F) ∧ mg x = some (.ref f) ∧ PySem.W.keepIn K (.ref f) = true ∧ Binds K fd ps []
section
variable {P : Program} {w : World} {K : PySem.W.Frag} {mg : Str → Option Value} {base : Heap}
theorem fun_ofD {x : Str} {st : Stmt} {f : Addr} {fd : FuncData} (F : FunD K x x (defArgs st) (defBody st) (defScope st) [] [] f fd) : Fun K x x st f fd := by
  obtain ⟨oc, od, dV, kV, doc, pm, an, cdv, ct, osl, e, l, c, hd, _⟩ := F.ex
  rcases hd with ⟨_, e2⟩ | ⟨e2, _⟩
  · subst e2
    exact ⟨⟨oc, od, kV, doc, pm, an, cdv, ct, osl, e, l, c⟩, F.kp⟩
  · exact absurd rfl e2
theorem fn_has {x : Str} {st : Stmt} {N ps : List Str} {k : Nat} (D : Dn K mg x st ps) (S : FnScope N ps (defScope st)) (ix : List Nat) (g : MS)
    (hb : ∀ (cdv : Value) (A : Around) (outer : List Env) (s : Shared) (H : Hp) (E : XK) (fA : Addr), Room k (A.deeper (envOfC x (defScope st) s.heap.objs.size fA cdv)) →
      PSs (cxOf CX0 P w K mg base N x (defScope st) fA cdv A outer s H E).nox (defBody st) (TS' K ix g)) (hN : ps.length ≤ N.length := by decide) : Has P w K mg base (k + 1) x ps (runF ps.length N.length ix g) := by
  obtain ⟨f, fd, F, hm, hB⟩ := D.ex
  exact ⟨f, fd, fn_d (fun_ofD F) S ix g hN fun cdv A outer s H E hr => hb cdv A outer s H E f hr, hm, F.kp, hB⟩
theorem dn_mk {x : Str} {st : Stmt} {ps : List Str} {f : Addr} {fd : FuncData} (F : FunD K x x (defArgs st) (defBody st) (defScope st) [] [] f fd) (hm : mg x = some (.ref f))
    (hb : ∀ (kV doc pm : Value) (an : Option Addr) (cdv ct : Value) (us : List Value), us.length = ps.length → bindArgs (PySem.W.fnOf x x (defArgs st) (defBody st) (defScope st) Value.none kV doc pm an cdv ct) { pos := us } = pure (ps.zip us)) : Dn K mg x st ps :=
  ⟨⟨f, fd, F, hm, F.bindsN hb⟩⟩
end
section
variable {X : Cx} {ix : List Nat} {e : Expr} {es : List Expr} {ga : MA} {pos p : Pos}
theorem de_call {k k' : Nat} {ps : List Str} {x : Str} {F : FnS} (G : Has X.prog X.w X.K X.mg X.base k x ps F) (hr : Room k' X.A) (hk : k ≤ k') (hg : Gl X x)
    (ha : PA X (e :: es) (TA' X.K ix ga)) (hnp : ∀ ρ rs ρ', ga ρ = some (rs, ρ') → rs.length = ps.length) (hdb : (x == ("__debug__" : Str)) = false := by decide)
    (hs : starEach (e :: es) X.env = (false, eval e X.env) :: starEach es X.env := by rfl) (hs2 : ((backTo pos (starEach es X.env)).any fun x => x.fst) = false := by rfl) : PE X (.Call (.Name x p) (e :: es) [] pos) (TE' X.K ix (eFn F ga)) := by
  obtain ⟨f, fd, G, hm, hk2, hb⟩ := G.ex
  exact de_fn G (hr.mono hk) hg hm hk2 hb ha hnp hdb hs hs2
theorem de_call0 {k k' : Nat} {x : Str} {F : FnS} (G : Has X.prog X.w X.K X.mg X.base k x [] F) (hr : Room k' X.A) (hk : k ≤ k') (hg : Gl X x) (hdb : (x == ("__debug__" : Str)) = false := by decide) : PE X (.Call (.Name x p) [] [] pos) (TE' X.K ix (eFn F aNil)) := by
  obtain ⟨f, fd, G, hm, hk2, hb⟩ := G.ex
  exact de_fn0 G (hr.mono hk) hg hm hk2 hb hdb
end
end DL

set_option Elab.async false
set_option linter.all false
set_option autoImplicit false
set_option maxRecDepth 100000
namespace DL
open PySem PySem.Spec PyProof.Rows L2
theorem u2 {k : Nat} {A : Around} (h : Room k A) : A.units + 1 < cLine := by have := h.un; omega
theorem u11 {k : Nat} {A : Around} (h : Room k A) : A.units + 10 < cLine := by have := h.un; omega
theorem u65 {k : Nat} {A : Around} (h : Room k A) : A.units + 64 < cLine := by have := h.un; omega
theorem u66 {k : Nat} {A : Around} (h : Room k A) : A.units + 65 < cLine := by have := h.un; omega
theorem u201 {k : Nat} {A : Around} (h : Room k A) : A.units + 200 < cLine := by have := h.un; omega
theorem ds_void {X : Cx} {ix : List Nat} {b : List Stmt} : PSs X b (TS' X.K ix fun _ => none) := ⟨fun pins s σ H D I q => by
  obtain ⟨Fr, FX, G, ρ, fl, R, h, _⟩ := q
  cases h⟩
theorem law_end {K : PySem.W.Frag} {H : Hp} {a : Addr} {ns : List Int} {F : FnS} {E : XK} (hS : SqL K H a (ns.map V.int)) (W : ∃ as', F [.sh (.list (ns.map PyData.int))] = some (.sh (.bool true), as')) :
    spD K 1 F [.ref a] H (fun v x => v = .bl true) E := by
  obtain ⟨as', e⟩ := W
  refine ⟨fun _ => none, H, _, _, as', rfl, ⟨fun _ _ h => h, fun _ _ h => (nomatch h), fun _ n => absurd rfl n, rfl, fun i s h => ?_, fun i j b o o' ne e1 e2 => ?_, fun _ _ h => (nomatch h)⟩, e, fun v G' H' _ _ h => ?_⟩
  · cases i with
    | zero =>
      cases h
      exact ⟨_, rfl, .lst hS (dpAll_ints ns)⟩
    | succ i => simp at h
  · cases i with
    | zero => cases e1
    | succ i => simp at e1
  · have h' : Dp K G' v (.bool true) := h
    cases h'
    rfl
end DL

set_option Elab.async false
set_option linter.all false
set_option autoImplicit false
set_option maxRecDepth 100000
namespace DL
open PySem PySem.Spec PyProof.Rows L2
/-! ### the law's own words: draws, the next, one picked -/
def drawsG : MS :=
    (sSeq (sSet 2 (eLst aNil))
    (sSeq (sSet 3 (eC (.int 7)))
    (sSeq (sFor (iRng rng1 (aCons (eCall lenG (aCons (eVar 0) aNil)) aNil)) (tName 4) (sSeq (sSet 5 (eCall absG (aCons (eCall intG (aCons (binS ixA (eVar 0) (eVar 4)) aNil)) aNil)))
    (sSeq (sSet 3 (binS modD (eCall intG (aCons (binS addD (binS addD (binS mulD (eVar 3) (eC (.int 48271))) (binS modD (eVar 5) (eC (.int 1000003)))) (eVar 4)) aNil)) (eC (.int 65537))))
    (sSeq (sSet 6 (eC (.int 0)))
    (sSeq (sIf (tB (binS (cmpD fun i j => decide (j ≤ i)) (eVar 5) (binS powD (eC (.int 10)) (eC (.int 18))))) (sSet 6 (cpM (eVar 5))) (sSeq (sExpr (mutM "list" appG (eVar 2) (aCons (frM (binS modD (eCall intG (aCons (eVar 5) aNil)) (eC (.int 997)))) aNil)))
    (sExpr (mutM "list" appG (eVar 2) (aCons (frM (binS modD (binS modD (eCall intG (aCons (binS addD (binS mulD (eVar 3) (eC (.int 69621))) (eC (.int 5))) aNil)) (eC (.int 65521))) (eC (.int 997)))) aNil)))))
    (sFor (iRng rng1 (aCons (eC (.int 60)) aNil)) (tName 7) (sIf (tB (binS (cmpD fun i j => decide (j < i)) (eVar 6) (eC (.int 0)))) (sSeq (sExpr (mutM "list" appG (eVar 2) (aCons (frM (binS modD (eCall intG (aCons (eVar 6) aNil)) (eC (.int 997)))) aNil)))
    (sSet 6 (binS divD (eVar 6) (eC (.int 997))))) sNil)))))))
    (sSeq (sFor (iRng rng1 (aCons (eVar 1) aNil)) (tName 4) (sSeq (sSet 3 (binS modD (eCall intG (aCons (binS addD (binS addD (binS mulD (eVar 3) (eC (.int 16807))) (eVar 4)) (eC (.int 1))) aNil)) (eC (.int 65537))))
    (sExpr (mutM "list" appG (eVar 2) (aCons (frM (binS modD (eCall intG (aCons (eVar 3) aNil)) (eC (.int 997)))) aNil)))))
    (sRet [] (eCut (eVar 2) oNo (oInt (eVar 1))))))))
def nextG : MS :=
    (sSeq (sAugS iaddD (eVar 0) (eC (.str ("at" : Str))) (eC (.int 1)))
    (sSeq (sIf (tB (binS (cmpD fun i j => decide (j < i)) (binS ixA (eVar 0) (eC (.str ("at" : Str)))) (eCall lenG (aCons (binS ixA (eVar 0) (eC (.str ("draws" : Str)))) aNil)))) (sRet [0] (eC (.int 0))) sNil)
    (sRet [0] (binS modD (eCall intG (aCons (binS ixA (binS ixA (eVar 0) (eC (.str ("draws" : Str)))) (binS subD (binS ixA (eVar 0) (eC (.str ("at" : Str)))) (eC (.int 1)))) aNil)) (eVar 1)))))
def drawsF : FnS := runF 2 8 [] drawsG
def nextF : FnS := runF 2 2 [0] nextG
def pickG : MS :=
    (sRet [0] (binS ixA (eVar 1) (eFn nextF (aCons (eVar 0) (aCons (frM (eCall lenG (aCons (eVar 1) aNil))) aNil)))))
def pickF : FnS := runF 2 2 [0] pickG
theorem sSeq_nx {g h : MS} {ρ ρ1 : Rho} (e : g ρ = some (.nx ρ1)) : sSeq g h ρ = h ρ1 := by
  unfold sSeq
  rw [e]
  rfl
theorem sSeq_rt {g h : MS} {ρ ρ1 : Rho} {r : Rv} (e : g ρ = some (.rt r ρ1)) : sSeq g h ρ = some (.rt r ρ1) := by
  unfold sSeq
  rw [e]
  rfl
theorem sFor_eq {f : ML} {t : MT} {b : MS} {ρ ρ1 : Rho} {ds : List Dv} (h : f ρ = some (ds, ρ1)) : sFor f t b ρ = forS t b ds ρ1 := by
  unfold sFor
  rw [h]
  rfl
theorem iRng_eq {r : List Dv → Option (List Dv)} {ga : MA} {ρ ρ1 : Rho} {rs : List Rv} {ds es : List Dv} (h : ga ρ = some (rs, ρ1)) (h1 : dats ρ1 rs = some ds) (h2 : r ds = some es) : iRng r ga ρ = some (es, ρ1) := by
  unfold iRng
  rw [h]
  simp only [Option.bind_some]
  rw [h1]
  simp only [Option.bind_some]
  rw [h2]
  rfl
theorem runF_eq {np N : Nat} {ix : List Nat} {g : MS} {as : List Sl} {fl : Fl} {z : Rv × List Sl} (h0 : okA 0 ix as = true) (h : g (as ++ List.replicate (N - np) .no) = some fl) (hz : (match fl with
  | .nx ρ => some (Rv.sh .none, outA 0 ix as ρ)
  | .rt (.sh d) ρ => some (Rv.sh d, outA 0 ix as ρ)
  | .rt (.ow o) ρ => some (Rv.ow o, outA 0 ix as ρ)
  | .rt (.fd o) ρ => some (Rv.fd o, outA 0 ix as ρ)
  | _ => none) = some z) : runF np N ix g as = some z := by
  unfold runF
  rw [if_pos h0, h]
  cases fl with
  | rt r ρ => cases r <;> exact hz
  | _ => exact hz
theorem forS_inv {t : MT} {b : MS} (I : Nat → Rho → Prop) : ∀ (ds : List Dv) (k : Nat) (ρ : Rho), I k ρ →
    (∀ (j : Nat) (d : Dv) (ρ : Rho), ds[j]? = some d → I (k + j) ρ → ∃ ρ1 ρ2, t d ρ = some ρ1 ∧ (b ρ1 = some (.nx ρ2) ∨ b ρ1 = some (.ct ρ2)) ∧ I (k + j + 1) ρ2) → ∃ ρ', forS t b ds ρ = some (.nx ρ') ∧ I (k + ds.length) ρ'
  | [], k, ρ, h, _ => ⟨ρ, rfl, h⟩
  | d :: ds, k, ρ, h, s => by
    obtain ⟨ρ1, ρ2, e1, e2, h2⟩ := s 0 d ρ rfl h
    obtain ⟨ρ', e3, h3⟩ := forS_inv I ds (k + 1) ρ2 h2 fun j d' ρ0 e i => by
      have := s (j + 1) d' ρ0 e (by rw [show k + (j + 1) = k + 1 + j by omega]; exact i)
      rw [show k + (j + 1) = k + 1 + j by omega] at this
      exact this
    refine ⟨ρ', ?_, ?_⟩
    · unfold forS
      rw [e1]
      simp only [Option.bind_some]
      rcases e2 with e2 | e2 <;> (rw [e2]; exact e3)
    · rw [List.length_cons, show k + (ds.length + 1) = k + 1 + ds.length by omega]
      exact h3
/-- the draws and the place -/
def W1 (ds : List Int) (n : Nat) : Ob := .dct [(.str ("draws" : Str), .list (ds.map .int)), (.str ("at" : Str), .int n)]
theorem key1 : eqKey (.str ("draws" : Str)) (.str ("at" : Str)) = false := by decide +kernel
theorem key2 : eqKey (.str ("at" : Str)) (.str ("at" : Str)) = true := by decide +kernel
theorem key3 : eqKey (.str ("draws" : Str)) (.str ("draws" : Str)) = true := by decide +kernel
theorem key4 : eqKey (.str ("at" : Str)) (.str ("draws" : Str)) = false := by decide +kernel
theorem szl : (2 : Nat) < sizeLine := by decide +kernel
theorem next_s0 (ds : List Int) (n : Nat) (s : Sl) : sAugS iaddD (eVar 0) (eC (.str ("at" : Str))) (eC (.int 1)) [.ow (W1 ds n), s] = some (.nx [.ow (W1 ds (n + 1)), s]) := by
  simp [sAugS, eVar, eC, pkM, dat, isKey, getOb, W1, getD, key1, key2, iaddD, setOb, szl, putD]
theorem atI_map (ds : List Int) (n : Nat) (h : n < ds.length) : atI (ds.map PyData.int) (n : Int) = some (.int ds[n]) := by
  unfold atI
  simp [ixN, h]

theorem szl_big : 100000 ≤ sizeLine := by decide +kernel
theorem next_ok {ds : List Int} {n : Nat} {m : Int} (hm : 0 < m) : ∃ v : Int, 0 ≤ v ∧ v < m ∧ nextF [.ow (W1 ds n), .sh (.int m)] = some (.sh (.int v), [.ow (W1 ds (n + 1)), .sh (.int m)]) := by
  by_cases h : n < ds.length
  · refine ⟨ds[n] % m, Int.emod_nonneg _ (by omega), Int.emod_lt_of_pos _ hm, ?_⟩
    have e0 := next_s0 ds n (.sh (.int m))
    have e1 : ¬ (ds.length : Int) < (n : Int) + 1 := by omega
    have e2 := atI_map ds n h
    unfold nextF runF
    simp only [okA, List.contains, List.elem, nextG, sSeq, List.cons_append, List.nil_append, List.length_nil, List.replicate, Nat.sub_self, e0, Option.bind_some, ite_true, beq_self_eq_true, Bool.true_and, Bool.and_true]
    simp [sIf, tB, binS, pkM, eVar, eC, dat, eCall, aCons, aNil, dats, lenG, ixA, plD, isKey, W1, obD, getD, key1, key2, key3, cmpD, Rz.rv, e1, sNil, sRet, subD, intG, ixD, e2, modD, hm, outA]
  · refine ⟨0, by omega, by omega, ?_⟩
    have e0 := next_s0 ds n (.sh (.int m))
    have e1 : (ds.length : Int) < (n : Int) + 1 := by omega
    unfold nextF runF
    simp only [okA, List.contains, List.elem, nextG, sSeq, List.cons_append, List.nil_append, List.length_nil, List.replicate, Nat.sub_self, e0, Option.bind_some, ite_true, beq_self_eq_true, Bool.true_and, Bool.and_true]
    simp [sIf, tB, binS, pkM, eVar, eC, dat, eCall, aCons, aNil, dats, lenG, ixA, plD, isKey, W1, obD, getD, key1, key2, key3, cmpD, Rz.rv, e1, sNil, sRet, outA]
theorem pick_ok {ds : List Int} {n : Nat} {xs : List Dv} (hx : xs ≠ []) : ∃ v, v ∈ xs ∧ pickF [.ow (W1 ds n), .sh (.list xs)] = some (.sh v, [.ow (W1 ds (n + 1)), .sh (.list xs)]) := by
  have hl : 0 < xs.length := List.length_pos_iff.mpr hx
  obtain ⟨v, h0, h1, e⟩ := next_ok (ds := ds) (n := n) (m := xs.length) (by omega)
  obtain ⟨j, rfl⟩ := Int.eq_ofNat_of_zero_le h0
  have hj : j < xs.length := by omega
  refine ⟨xs[j], List.getElem_mem _, ?_⟩
  have e2 : atI xs (j : Int) = some xs[j] := atI_nat (List.getElem?_eq_getElem hj)
  unfold pickF runF
  simp [okA, pickG, sRet, binS, pkM, eVar, eFn, aCons, aNil, frM, eCall, dats, dat, lenG, Rz.rv, toSls, toSl, alsOk, als, e, wback, ixA, plD, ixD, e2, outA]
theorem mul_big {i : Int} {j : Int} (h : -(2 ^ 64) < j ∧ j < 2 ^ 64) : mulD (.int i) (.int j) = some (.sh (.int (i * j))) := by
  unfold mulD
  simp only
  rw [if_pos (.inr h)]
theorem range1_eval {n : Nat} (h : n < 2 ^ 62) : rng1 [.int (n : Int)] = some (rangeD 0 n) := by
  unfold rng1
  have : bnd62 (n : Int) = true := by unfold bnd62; exact decide_eq_true ⟨by omega, by omega⟩
  simp [this]
theorem rangeD_len (lo : Int) (n : Nat) : (rangeD lo n).length = n := by simp [rangeD]
def inG : MS := sIf (tB (binS (cmpD fun i j => decide (j < i)) (eVar 6) (eC (.int 0)))) (sSeq (sExpr (mutM "list" appG (eVar 2) (aCons (frM (binS modD (eCall intG (aCons (eVar 6) aNil)) (eC (.int 997)))) aNil)))
    (sSet 6 (binS divD (eVar 6) (eC (.int 997))))) sNil
theorem inG_ok (S s1 s3 s4 s5 : Sl) (L : Nat) (hL : L + 60 ≤ 10000) (xs : List Int) (hx : xs.length ≤ L) (r : Int) (s7 : Sl) :
    ∃ ρ', sFor (iRng rng1 (aCons (eC (.int 60)) aNil)) (tName 7) inG [S, s1, .ow (.lst (xs.map .int)), s3, s4, s5, .sh (.int r), s7] = some (.nx ρ') ∧
      ∃ (ys : List Int) (r' : Int) (s7' : Sl), ρ' = [S, s1, .ow (.lst (ys.map .int)), s3, s4, s5, .sh (.int r'), s7'] ∧ ys.length ≤ L + 60 := by
  have e : rng1 [.int 60] = some (rangeD 0 60) := range1_eval (n := 60) (by decide)
  have := forS_inv (t := tName 7) (b := inG) (fun k ρ => ∃ (ys : List Int) (r' : Int) (s7' : Sl), ρ = [S, s1, .ow (.lst (ys.map .int)), s3, s4, s5, .sh (.int r'), s7'] ∧ ys.length ≤ L + k) (rangeD 0 60) 0 _ ⟨xs, r, s7, rfl, hx⟩ fun j d ρ hd hI => by
    obtain ⟨hj, rfl⟩ := rangeD_get hd
    obtain ⟨ys, r', s7', rfl, hl⟩ := hI
    have hz : ys.length < sizeLine := by have := szl_big; omega
    by_cases hr : 0 < r'
    · refine ⟨_, _, rfl, .inl ?_, ys ++ [r' % 997], r' / 997, .sh (.int (0 + j)), rfl, by simp; omega⟩
      simp [inG, sIf, tB, binS, pkM, eVar, eC, dat, cmpD, Rz.rv, hr, sSeq, sExpr, mutM, isOb, obT, isDtn, aCons, aNil, frM, eCall, dats, intG, modD, shs, appG, hz, sSet, divD]
    · refine ⟨_, _, rfl, .inl ?_, ys, r', .sh (.int (0 + j)), rfl, by omega⟩
      simp [inG, sIf, tB, binS, pkM, eVar, eC, dat, cmpD, Rz.rv, hr, sNil]
  obtain ⟨ρ', e1, h1⟩ := this
  refine ⟨ρ', ?_, ?_⟩
  · unfold sFor iRng
    simp [aCons, aNil, eC, dats, dat, e, e1]
  · rw [rangeD_len] at h1
    simpa using h1
theorem pow18 : powD (.int 10) (.int 18) = some (.sh (.int 1000000000000000000)) := rfl
def outG : MS := (sSeq (sSet 5 (eCall absG (aCons (eCall intG (aCons (binS ixA (eVar 0) (eVar 4)) aNil)) aNil)))
    (sSeq (sSet 3 (binS modD (eCall intG (aCons (binS addD (binS addD (binS mulD (eVar 3) (eC (.int 48271))) (binS modD (eVar 5) (eC (.int 1000003)))) (eVar 4)) aNil)) (eC (.int 65537))))
    (sSeq (sSet 6 (eC (.int 0)))
    (sSeq (sIf (tB (binS (cmpD fun i j => decide (j ≤ i)) (eVar 5) (binS powD (eC (.int 10)) (eC (.int 18))))) (sSet 6 (cpM (eVar 5))) (sSeq (sExpr (mutM "list" appG (eVar 2) (aCons (frM (binS modD (eCall intG (aCons (eVar 5) aNil)) (eC (.int 997)))) aNil)))
    (sExpr (mutM "list" appG (eVar 2) (aCons (frM (binS modD (binS modD (eCall intG (aCons (binS addD (binS mulD (eVar 3) (eC (.int 69621))) (eC (.int 5))) aNil)) (eC (.int 65521))) (eC (.int 997)))) aNil)))))
    (sFor (iRng rng1 (aCons (eC (.int 60)) aNil)) (tName 7) inG)))))
def lastG : MS := (sSeq (sSet 3 (binS modD (eCall intG (aCons (binS addD (binS addD (binS mulD (eVar 3) (eC (.int 16807))) (eVar 4)) (eC (.int 1))) aNil)) (eC (.int 65537))))
    (sExpr (mutM "list" appG (eVar 2) (aCons (frM (binS modD (eCall intG (aCons (eVar 3) aNil)) (eC (.int 997)))) aNil))))
theorem drawsG_eq : drawsG = (sSeq (sSet 2 (eLst aNil)) (sSeq (sSet 3 (eC (.int 7))) (sSeq (sFor (iRng rng1 (aCons (eCall lenG (aCons (eVar 0) aNil)) aNil)) (tName 4) outG)
    (sSeq (sFor (iRng rng1 (aCons (eVar 1) aNil)) (tName 4) lastG) (sRet [] (eCut (eVar 2) oNo (oInt (eVar 1)))))))) := rfl
theorem mulA (i : Int) : mulD (.int i) (.int 48271) = some (.sh (.int (i * 48271))) := mul_big (by decide)
theorem mulB (i : Int) : mulD (.int i) (.int 69621) = some (.sh (.int (i * 69621))) := mul_big (by decide)
theorem mulC (i : Int) : mulD (.int i) (.int 16807) = some (.sh (.int (i * 16807))) := mul_big (by decide)
theorem outG_ok (ns : List Int) (j : Nat) (hj : j < ns.length) (ys : List Int) (hy : ys.length ≤ 64 * j) (hn : ns.length ≤ 63) (mx : Int) (s1 s5 s6 s7 : Sl) :
    ∃ (zs : List Int) (mx' : Int) (t5 t6 t7 : Sl), outG [.sh (.list (ns.map .int)), s1, .ow (.lst (ys.map .int)), .sh (.int mx), .sh (.int (0 + (j : Int))), s5, s6, s7] =
      some (.nx [.sh (.list (ns.map .int)), s1, .ow (.lst (zs.map .int)), .sh (.int mx'), .sh (.int (0 + (j : Int))), t5, t6, t7]) ∧ zs.length ≤ 64 * (j + 1) := by
  have e2 := atI_map ns j hj
  have hz : ys.length < sizeLine := by have := szl_big; omega
  have hz2 : ys.length + 1 < sizeLine := by have := szl_big; omega
  generalize hc : (if ns[j] < 0 then -ns[j] else ns[j]) = c
  by_cases hr : (1000000000000000000 : Int) ≤ c
  · obtain ⟨ρ', e, zs, r', s7', rfl, hl⟩ := inG_ok (.sh (.list (ns.map .int))) (s1) (.sh (.int ((mx * 48271 + c % 1000003 + (0 + (j : Int))) % 65537))) (.sh (.int (0 + (j : Int)))) (.sh (.int c)) (64 * j) (by omega) ys hy c s7
    refine ⟨zs, (mx * 48271 + c % 1000003 + (0 + (j : Int))) % 65537, .sh (.int c), .sh (.int r'), s7', ?_, by omega⟩
    unfold outG
    simp [sSeq, sSet, eCall, aCons, aNil, binS, pkM, eVar, dats, dat, ixA, plD, ixD, e2, intG, absG, hc, Rz.rv, eC, mulA, modD, addD, sIf, tB, cmpD, pow18, hr, cpM]
    simpa using e
  · obtain ⟨ρ', e, zs, r', s7', rfl, hl⟩ := inG_ok (.sh (.list (ns.map .int))) (s1) (.sh (.int ((mx * 48271 + c % 1000003 + (0 + (j : Int))) % 65537))) (.sh (.int (0 + (j : Int)))) (.sh (.int c)) (64 * j + 2) (by omega) (ys ++ [c % 997, ((mx * 48271 + c % 1000003 + (0 + (j : Int))) % 65537 * 69621 + 5) % 65521 % 997]) (by simp; omega) 0 s7
    refine ⟨zs, (mx * 48271 + c % 1000003 + (0 + (j : Int))) % 65537, .sh (.int c), .sh (.int r'), s7', ?_, by omega⟩
    unfold outG
    simp [sSeq, sSet, eCall, aCons, aNil, binS, pkM, eVar, dats, dat, ixA, plD, ixD, e2, intG, absG, hc, Rz.rv, eC, mulA, mulB, modD, addD, sIf, tB, cmpD, pow18, hr, cpM, sExpr, mutM, isOb, obT, isDtn, frM, shs, appG, hz, hz2]
    simpa using e
theorem draws_ok (ns : List Int) (hn : ns.length ≤ 63) (m : Nat) (hm : m ≤ 1000) : ∃ ds : List Int, ds.length = m ∧ drawsF [.sh (.list (ns.map .int)), .sh (.int (m : Int))] = some (.ow (.lst (ds.map .int)), [.sh (.list (ns.map .int)), .sh (.int (m : Int))]) := by
  obtain ⟨ρ1, e1, ys, mx, s4, s5, s6, s7, rfl, hy⟩ := forS_inv (t := tName 4) (b := outG) (fun k ρ => ∃ (ys : List Int) (mx : Int) (s4 s5 s6 s7 : Sl), ρ = [.sh (.list (ns.map .int)), .sh (.int (m : Int)), .ow (.lst (ys.map .int)), .sh (.int mx), s4, s5, s6, s7] ∧ ys.length ≤ 64 * k)
    (rangeD 0 ns.length) 0 [.sh (.list (ns.map .int)), .sh (.int (m : Int)), .ow (.lst []), .sh (.int 7), .no, .no, .no, .no] ⟨[], 7, .no, .no, .no, .no, rfl, by simp⟩ fun j d ρ hd hI => by
      obtain ⟨hj, rfl⟩ := rangeD_get hd
      obtain ⟨ys, mx, s4, s5, s6, s7, rfl, hy⟩ := hI
      obtain ⟨zs, mx', t5, t6, t7, e, hz⟩ := outG_ok ns j hj ys (by simpa using hy) hn mx (.sh (.int (m : Int))) s5 s6 s7
      exact ⟨_, _, rfl, .inl e, zs, mx', _, t5, t6, t7, rfl, by simpa using hz⟩
  rw [rangeD_len] at hy
  obtain ⟨ρ2, e2, zs, mx2, t4, t5, t6, t7, rfl, hz⟩ := forS_inv (t := tName 4) (b := lastG) (fun k ρ => ∃ (zs : List Int) (mx : Int) (s4 s5 s6 s7 : Sl), ρ = [.sh (.list (ns.map .int)), .sh (.int (m : Int)), .ow (.lst (zs.map .int)), .sh (.int mx), s4, s5, s6, s7] ∧ zs.length = ys.length + k)
    (rangeD 0 m) 0 _ ⟨ys, mx, s4, s5, s6, s7, rfl, rfl⟩ fun j d ρ hd hI => by
      obtain ⟨hj, rfl⟩ := rangeD_get hd
      obtain ⟨zs, mx, s4, s5, s6, s7, rfl, hz⟩ := hI
      have hz2 : zs.length < sizeLine := by have := szl_big; omega
      refine ⟨_, _, rfl, .inl ?_, zs ++ [(mx * 16807 + (0 + (j : Int)) + 1) % 65537 % 997], (mx * 16807 + (0 + (j : Int)) + 1) % 65537, .sh (.int (0 + (j : Int))), s5, s6, s7, rfl, by simp; omega⟩
      simp [lastG, sSeq, sSet, eCall, aCons, aNil, binS, pkM, eVar, dats, dat, intG, Rz.rv, eC, mulC, modD, addD, sExpr, mutM, isOb, obT, isDtn, frM, shs, appG, hz2]
  rw [rangeD_len] at hz
  have r1 : rng1 [.int (ns.length : Int)] = some (rangeD 0 ns.length) := range1_eval (by omega)
  have r2 : rng1 [.int (m : Int)] = some (rangeD 0 m) := range1_eval (by omega)
  have c1 : cutD (zs.map PyData.int) none (some (m : Int)) = (zs.take m).map .int := by
    unfold cutD
    rw [show HT.sIx (zs.map PyData.int).length (zs.map PyData.int).length (some (m : Int)) = min m (zs.map PyData.int).length from HT.sIx_nat _ _ m]
    rw [show HT.sIx (zs.map PyData.int).length 0 none = 0 from rfl, List.drop_zero, Nat.sub_zero, List.length_map, Nat.min_eq_left (by omega), List.map_take]
  have hl : (zs.take m).length = m := by rw [List.length_take]; omega
  generalize zs.take m = us at c1 hl
  have a1 : sSet 2 (eLst aNil) [.sh (.list (ns.map .int)), .sh (.int (m : Int)), .no, .no, .no, .no, .no, .no] = some (.nx [.sh (.list (ns.map .int)), .sh (.int (m : Int)), .ow (.lst []), .no, .no, .no, .no, .no]) := by simp [sSet, eLst, aNil, shs]
  have a2 : sSet 3 (eC (.int 7)) [.sh (.list (ns.map .int)), .sh (.int (m : Int)), .ow (.lst []), .no, .no, .no, .no, .no] = some (.nx [.sh (.list (ns.map .int)), .sh (.int (m : Int)), .ow (.lst []), .sh (.int 7), .no, .no, .no, .no]) := by simp [sSet, eC]
  have a3 : sFor (iRng rng1 (aCons (eCall lenG (aCons (eVar 0) aNil)) aNil)) (tName 4) outG [.sh (.list (ns.map .int)), .sh (.int (m : Int)), .ow (.lst []), .sh (.int 7), .no, .no, .no, .no] = _ := (sFor_eq (ds := rangeD 0 ns.length) (ρ1 := [.sh (.list (ns.map .int)), .sh (.int (m : Int)), .ow (.lst []), .sh (.int 7), .no, .no, .no, .no]) (iRng_eq (rs := [.sh (.int (ns.length : Int))]) (by simp [aCons, aNil, eCall, eVar, dats, dat, lenG, Rz.rv]) rfl r1)).trans e1
  have a4 : sFor (iRng rng1 (aCons (eVar 1) aNil)) (tName 4) lastG [.sh (.list (ns.map .int)), .sh (.int (m : Int)), .ow (.lst (ys.map .int)), .sh (.int mx), s4, s5, s6, s7] = _ := (sFor_eq (ds := rangeD 0 m) (ρ1 := [.sh (.list (ns.map .int)), .sh (.int (m : Int)), .ow (.lst (ys.map .int)), .sh (.int mx), s4, s5, s6, s7]) (iRng_eq (rs := [.sh (.int (m : Int))]) (by simp [aCons, aNil, eVar]) rfl r2)).trans e2
  have a5 : sRet [] (eCut (eVar 2) oNo (oInt (eVar 1))) [.sh (.list (ns.map .int)), .sh (.int (m : Int)), .ow (.lst (zs.map .int)), .sh (.int mx2), t4, t5, t6, t7] = some (.rt (.ow (.lst (us.map .int))) [.sh (.list (ns.map .int)), .sh (.int (m : Int)), .ow (.lst (zs.map .int)), .sh (.int mx2), t4, t5, t6, t7]) := by
    simp [sRet, eCut, pkM, eVar, oNo, oInt, dat, obD, cutG, c1, Rz.rv]
  refine ⟨us, hl, ?_⟩
  have a6 : drawsG [.sh (.list (ns.map .int)), .sh (.int (m : Int)), .no, .no, .no, .no, .no, .no] = some (.rt (.ow (.lst (us.map .int))) [.sh (.list (ns.map .int)), .sh (.int (m : Int)), .ow (.lst (zs.map .int)), .sh (.int mx2), t4, t5, t6, t7]) := by
    rw [drawsG_eq, sSeq_nx a1, sSeq_nx a2, sSeq_nx a3, sSeq_nx a4, a5]
  exact runF_eq rfl a6 rfl
end DL

set_option Elab.async false
set_option linter.all false
set_option autoImplicit false
set_option maxRecDepth 100000
namespace DL
open PySem PySem.Spec PyProof.Rows L2
/-! ### one step each -/
theorem sIf_t {t : MB} {g h : MS} {ρ ρ1 : Rho} (e : t ρ = some (true, ρ1)) : sIf t g h ρ = g ρ1 := by
  unfold sIf
  rw [e]
  rfl
theorem sIf_f {t : MB} {g h : MS} {ρ ρ1 : Rho} (e : t ρ = some (false, ρ1)) : sIf t g h ρ = h ρ1 := by
  unfold sIf
  rw [e]
  rfl
theorem pk_sh {f : M} {ρ ρ1 : Rho} {d : Dv} (e : f ρ = some (.sh d, ρ1)) : pkM f ρ = some (.sh d, ρ1) := by
  unfold pkM
  rw [e]
  rfl
theorem pk_ow {f : M} {ρ ρ1 : Rho} {ds : List Dv} (e : f ρ = some (.ow (.lst ds), ρ1)) : pkM f ρ = some (.sh (.list ds), ρ1) := by
  unfold pkM
  rw [e]
  rfl
theorem fr_sh {f : M} {ρ ρ1 : Rho} {d : Dv} (e : f ρ = some (.sh d, ρ1)) : frM f ρ = some (.sh d, ρ1) := by
  unfold frM
  rw [e]
  rfl
theorem fr_ow {f : M} {ρ ρ1 : Rho} {ds : List Dv} (e : f ρ = some (.ow (.lst ds), ρ1)) : frM f ρ = some (.sh (.list ds), ρ1) := by
  unfold frM
  rw [e]
  rfl
theorem bin_sh {g : Dv → Dv → Option Rz} {fa fb : M} {ρ ρ1 ρ2 : Rho} {d e : Dv} {z : Rz} (h1 : pkM fa ρ = some (.sh d, ρ1)) (h2 : pkM fb ρ1 = some (.sh e, ρ2)) (h3 : g d e = some z) : binS g fa fb ρ = some (z.rv, ρ2) := by
  unfold binS
  rw [h1]
  simp only [Option.bind_some]
  rw [h2]
  simp only [Option.bind_some, dat]
  rw [h3]
  rfl
theorem sSet_sh {i : Nat} {f : M} {ρ ρ1 : Rho} {d : Dv} (e : f ρ = some (.sh d, ρ1)) : sSet i f ρ = some (.nx (ρ1.set i (.sh d))) := by
  unfold sSet
  rw [e]
  rfl
theorem sSet_ow {i : Nat} {f : M} {ρ ρ1 : Rho} {o : Ob} (e : f ρ = some (.ow o, ρ1)) : sSet i f ρ = some (.nx (ρ1.set i (.ow o))) := by
  unfold sSet
  rw [e]
  rfl
theorem sRet_sh {ix : List Nat} {f : M} {ρ ρ1 : Rho} {d : Dv} (e : f ρ = some (.sh d, ρ1)) : sRet ix f ρ = some (.rt (.sh d) ρ1) := by
  unfold sRet
  rw [e]
  rfl
theorem sRet_ow {ix : List Nat} {f : M} {ρ ρ1 : Rho} {o : Ob} (e : f ρ = some (.ow o, ρ1)) : sRet ix f ρ = some (.rt (.ow o) ρ1) := by
  unfold sRet
  rw [e]
  rfl
theorem aCons_eq {f : M} {g : MA} {ρ ρ1 ρ2 : Rho} {r : Rv} {rs : List Rv} (e : f ρ = some (r, ρ1)) (h : g ρ1 = some (rs, ρ2)) : aCons f g ρ = some (r :: rs, ρ2) := by
  unfold aCons
  rw [e]
  simp only [Option.bind_some]
  rw [h]
  rfl
theorem eCall_sh {g : List Dv → Option Rz} {fa : MA} {ρ ρ1 : Rho} {rs : List Rv} {ds : List Dv} {z : Rz} (h1 : fa ρ = some (rs, ρ1)) (h2 : dats ρ1 rs = some ds) (h3 : g ds = some z) : eCall g fa ρ = some (z.rv, ρ1) := by
  unfold eCall
  rw [h1]
  simp only [Option.bind_some]
  rw [h2]
  simp only [Option.bind_some]
  rw [h3]
  rfl
theorem toSls_sh (ρ : Rho) : ∀ ds : List Dv, toSls ρ (ds.map .sh) = some (ds.map .sh)
  | [] => rfl
  | d :: ds => by
    show (toSl ρ (.sh d)).bind _ = _
    simp only [toSl, Option.bind_some, toSls_sh ρ ds]
    rfl
theorem als_sh : ∀ ds : List Dv, als (ds.map .sh) = []
  | [] => rfl
  | d :: ds => by simpa [als] using als_sh ds
theorem wback_sh (ρ : Rho) : ∀ (ds : List Dv) (ss : List Sl), wback ρ (ds.map .sh) ss = ρ
  | [], _ => by simp [wback]
  | d :: ds, [] => by simp [wback]
  | d :: ds, s :: ss => by simpa [wback] using wback_sh ρ ds ss
theorem eFn_sh {F : FnS} {ga : MA} {ρ ρ1 : Rho} {as : List Dv} {d : Dv} {bs : List Sl} (h1 : ga ρ = some (as.map .sh, ρ1)) (h2 : F (as.map .sh) = some (.sh d, bs)) : eFn F ga ρ = some (.sh d, ρ1) := by
  unfold eFn
  rw [h1]
  simp only [Option.bind_some, toSls_sh]
  rw [if_pos (by unfold alsOk; rw [als_sh]; rfl), h2]
  simp only [Option.bind_some, wback_sh]
theorem eFn_ow {F : FnS} {ga : MA} {ρ ρ1 : Rho} {as : List Dv} {o : Ob} {bs : List Sl} (h1 : ga ρ = some (as.map .sh, ρ1)) (h2 : F (as.map .sh) = some (.ow o, bs)) : eFn F ga ρ = some (.ow o, ρ1) := by
  unfold eFn
  rw [h1]
  simp only [Option.bind_some, toSls_sh]
  rw [if_pos (by unfold alsOk; rw [als_sh]; rfl), h2]
  simp only [Option.bind_some, wback_sh]
/-! ### list comprehensions with one name -/
theorem lcS1 {i : Nat} {c : MB} {fe : M} {ρ0 : Rho} (b : Dv → Bool) (e : Dv → Dv) : ∀ (ds acc : List Dv) (s : Sl), (∀ d ∈ ds, c (ρ0.set i (.sh d)) = some (b d, ρ0.set i (.sh d))) → (∀ d ∈ ds, b d = true → frM fe (ρ0.set i (.sh d)) = some (.sh (e d), ρ0.set i (.sh d))) →
    acc.length + ds.length ≤ sizeLine → ∃ s', lcS [i] (tName i) c fe ds acc (ρ0.set i s) = some (acc ++ (ds.filter b).map e, ρ0.set i s')
  | [], acc, s, _, _, _ => ⟨s, by simp [lcS]⟩
  | d :: ds, acc, s, hc, he, hl => by
    have h1 := hc d (List.mem_cons_self ..)
    have h2 := he d (List.mem_cons_self ..)
    rw [List.length_cons] at hl
    unfold lcS
    simp only [tName, wipeR, List.set_set, Option.bind_some, h1]
    cases hb : b d with
    | true =>
      rw [if_pos rfl, h2 hb]
      simp only [Option.bind_some]
      rw [if_pos (by omega)]
      obtain ⟨s', e'⟩ := lcS1 b e ds (acc ++ [e d]) (.sh d) (fun x hx => hc x (List.mem_cons_of_mem _ hx)) (fun x hx => he x (List.mem_cons_of_mem _ hx)) (by simp; omega)
      exact ⟨s', by rw [e', List.filter_cons_of_pos hb]; simp⟩
    | false =>
      rw [if_neg (by decide)]
      obtain ⟨s', e'⟩ := lcS1 b e ds acc (.sh d) (fun x hx => hc x (List.mem_cons_of_mem _ hx)) (fun x hx => he x (List.mem_cons_of_mem _ hx)) (by omega)
      exact ⟨s', by rw [e', List.filter_cons_of_neg (by simp [hb])]⟩
theorem set_back {α : Type} (l : List α) (i : Nat) (s s0 : α) (h : l[i]? = some s0) : (l.set i s).set i s0 = l := by
  rw [List.set_set]
  apply List.ext_getElem?
  intro j
  by_cases hj : i = j
  · subst hj
    rw [List.getElem?_set_self (List.getElem?_eq_some_iff.mp h).1, h]
  · rw [List.getElem?_set_ne hj]
theorem eLc1 {i : Nat} {fi : ML} {c : MB} {fe : M} {ρ : Rho} {s0 : Sl} {ds : List Dv} (b : Dv → Bool) (e : Dv → Dv) (hfi : fi ρ = some (ds, ρ)) (h0 : ρ[i]? = some s0) (hs : ∀ o, s0 ≠ .ow o) (hl : ds.length ≤ sizeLine)
    (hc : ∀ d ∈ ds, c (ρ.set i (.sh d)) = some (b d, ρ.set i (.sh d))) (he : ∀ d ∈ ds, b d = true → frM fe (ρ.set i (.sh d)) = some (.sh (e d), ρ.set i (.sh d))) :
    eLc [i] fi (tName i) c fe ρ = some (.ow (.lst ((ds.filter b).map e)), ρ) := by
  obtain ⟨s', h1⟩ := lcS1 b e ds [] s0 hc he (by simpa using hl)
  rw [show ρ.set i s0 = ρ from by
    have := set_back ρ i s0 s0 h0
    rwa [List.set_set] at this] at h1
  have hn : noOw ρ [i] = true := by
    unfold noOw
    cases s0 with
    | no => simp [h0]
    | sh d => simp [h0]
    | ow o => exact absurd rfl (hs o)
    | fd o => simp [h0]
  unfold eLc
  rw [hfi]
  simp only [Option.bind_some]
  rw [if_pos hn, h1]
  simp only [Option.bind_some, putB, h0, List.nil_append]
  rw [set_back ρ i s' s0 h0]
/-! ### closed answers -/
mutual
def eqDv : Dv → Dv → Bool
  | .none, .none => true
  | .bool a, .bool b => a == b
  | .int a, .int b => decide (a = b)
  | .tuple xs, .tuple ys => eqDvs xs ys
  | .list xs, .list ys => eqDvs xs ys
  | _, _ => false
def eqDvs : List Dv → List Dv → Bool
  | [], [] => true
  | x :: xs, y :: ys => eqDv x y && eqDvs xs ys
  | _, _ => false
end
mutual
theorem eqDv_ok : ∀ (d e : Dv), eqDv d e = true → d = e
  | .none, e, h => by cases e <;> simp_all [eqDv]
  | .bool a, e, h => by cases e <;> simp_all [eqDv]
  | .int a, e, h => by cases e <;> simp_all [eqDv]
  | .str a, e, h => by cases e <;> simp_all [eqDv]
  | .dict a, e, h => by cases e <;> simp_all [eqDv]
  | .tuple xs, e, h => by
    cases e with
    | tuple ys => simp only [eqDv] at h; rw [eqDvs_ok xs ys h]
    | _ => simp [eqDv] at h
  | .list xs, e, h => by
    cases e with
    | list ys => simp only [eqDv] at h; rw [eqDvs_ok xs ys h]
    | _ => simp [eqDv] at h
theorem eqDvs_ok : ∀ (xs ys : List Dv), eqDvs xs ys = true → xs = ys
  | [], [], _ => rfl
  | x :: xs, y :: ys, h => by
    simp only [eqDvs, Bool.and_eq_true] at h
    rw [eqDv_ok x y h.1, eqDvs_ok xs ys h.2]
  | [], y :: ys, h => by simp [eqDvs] at h
  | x :: xs, [], h => by simp [eqDvs] at h
end
def eqSls : List Sl → List Dv → Bool
  | [], [] => true
  | .sh x :: xs, y :: ys => eqDv x y && eqSls xs ys
  | _, _ => false
theorem eqSls_ok : ∀ (xs : List Sl) (ys : List Dv), eqSls xs ys = true → xs = ys.map .sh
  | [], [], _ => rfl
  | .sh x :: xs, y :: ys, h => by
    simp only [eqSls, Bool.and_eq_true] at h
    rw [eqDv_ok x y h.1, eqSls_ok xs ys h.2]
    rfl
  | [], y :: ys, h => by simp [eqSls] at h
  | .sh x :: xs, [], h => by simp [eqSls] at h
  | .no :: xs, _, h => by simp [eqSls] at h
  | .ow _ :: xs, _, h => by simp [eqSls] at h
/-- F at shared data gives the data d -/
def gives (F : FnS) (as : List Dv) (d : Dv) : Bool := match F (as.map .sh) with
  | some (.sh e, bs) => eqDv e d && eqSls bs as
  | _ => false
theorem gives_ok {F : FnS} {as : List Dv} {d : Dv} (h : gives F as d = true) : F (as.map .sh) = some (.sh d, as.map .sh) := by
  unfold gives at h
  split at h
  · rename_i e bs he
    simp only [Bool.and_eq_true] at h
    rw [he, eqDv_ok _ _ h.1, eqSls_ok _ _ h.2]
  · cases h
/-! ### comprehensions that draw -/
theorem lcW {i : Nat} {fe : M} (R : Nat → Sl → Rho) (Pv : Dv → Prop) (hR : ∀ n s s', (R n s).set i s' = R n s') (he : ∀ n d, ∃ v, Pv v ∧ frM fe (R n (.sh d)) = some (.sh v, R (n + 1) (.sh d))) : ∀ (ds acc : List Dv) (n : Nat) (s : Sl), acc.length + ds.length ≤ sizeLine →
    ∃ vs n' s', vs.length = ds.length ∧ (∀ v ∈ vs, Pv v) ∧ lcS [i] (tName i) cYes fe ds acc (R n s) = some (acc ++ vs, R n' s')
  | [], acc, n, s, _ => ⟨[], n, s, rfl, by simp, by simp [lcS]⟩
  | d :: ds, acc, n, s, hl => by
    obtain ⟨v, hv, e1⟩ := he n d
    rw [List.length_cons] at hl
    obtain ⟨vs, n', s', h1, h2, h3⟩ := lcW R Pv hR he ds (acc ++ [v]) (n + 1) (.sh d) (by simp; omega)
    refine ⟨v :: vs, n', s', by simp [h1], fun x hx => ?_, ?_⟩
    · rcases List.mem_cons.mp hx with rfl | hx
      · exact hv
      · exact h2 x hx
    · unfold lcS
      simp only [tName, wipeR, hR, Option.bind_some, cYes, if_true, e1]
      rw [if_pos (by omega), h3]
      simp
theorem eLcW {i : Nat} {fi : ML} {fe : M} (R : Nat → Sl → Rho) (Pv : Dv → Prop) (hR : ∀ n s s', (R n s).set i s' = R n s') (he : ∀ n d, ∃ v, Pv v ∧ frM fe (R n (.sh d)) = some (.sh v, R (n + 1) (.sh d))) {ρ : Rho} {s0 : Sl} {ds : List Dv} (n : Nat) (hfi : fi ρ = some (ds, R n s0)) (h0 : (R n s0)[i]? = some s0) (hs : ∀ o, s0 ≠ .ow o) (hl : ds.length ≤ sizeLine) :
    ∃ vs n', vs.length = ds.length ∧ (∀ v ∈ vs, Pv v) ∧ eLc [i] fi (tName i) cYes fe ρ = some (.ow (.lst vs), R n' s0) := by
  obtain ⟨vs, n', s', h1, h2, h3⟩ := lcW R Pv hR he ds [] n s0 (by simpa using hl)
  refine ⟨vs, n', h1, h2, ?_⟩
  have hn : noOw (R n s0) [i] = true := by
    unfold noOw
    cases s0 with
    | no => simp [h0]
    | sh d => simp [h0]
    | ow o => exact absurd rfl (hs o)
    | fd o => simp [h0]
  unfold eLc
  rw [hfi]
  simp only [Option.bind_some]
  rw [if_pos hn, h3]
  simp only [Option.bind_some, putB, h0, List.nil_append, hR]
/-! ### told as due -/
def alikeG (self : FnS) : MS :=
    (sSeq (sIf (tV (unS (isiD "tuple") (eVar 1))) (sSeq (sIf (tOr' (tNo (tV (unS (isiD "tuple") (eVar 0)))) (tB (binS neqD (eCall lenG (aCons (eVar 0) aNil)) (eCall lenG (aCons (eVar 1) aNil))))) (sRet [] (eC (.bool false))) sNil)
    (sRet [] (binS eqqD (eLc [2] (iRng rng1 (aCons (eCall lenG (aCons (eVar 1) aNil)) aNil)) (tName 2) (tNo (tV (eFn self (aCons (frM (binS ixA (eVar 0) (eVar 2))) (aCons (frM (binS ixA (eVar 1) (eVar 2))) aNil))))) (eVar 2)) (eLst aNil)))) sNil)
    (sSeq (sIf (tB (binS isND (eVar 1) (eC .none))) (sRet [] (binS isND (eVar 0) (eC .none))) sNil)
    (sSeq (sIf (tV (unS (isiD "bool") (eVar 1))) (sRet [] (eAnd (unS (isiD "bool") (eVar 0)) (binS eqqD (eVar 0) (eVar 1)))) sNil)
    (sSeq (sIf (tV (unS (isiD "int") (eVar 1))) (sRet [] (eAnd (unS (isiD "int") (eVar 0)) (eAnd (eNot (unS (isiD "bool") (eVar 0))) (binS eqqD (eVar 0) (eVar 1))))) sNil)
    (sRet [] (eAnd (unS (isiD "str") (eVar 0)) (binS eqqD (eVar 0) (eVar 1))))))))
def alikeF : Nat → FnS
  | 0 => runF 2 3 [] (fun _ => none)
  | n + 1 => runF 2 3 [] (alikeG (alikeF n))
mutual
/-- ints, truths, nothing and tuples of these, so deep -/
def plainN : Nat → Dv → Bool
  | _, .none => true
  | _, .bool _ => true
  | _, .int _ => true
  | 0, .tuple _ => false
  | n + 1, .tuple xs => decide (xs.length < 1000000) && plainNs n xs
  | _, _ => false
def plainNs : Nat → List Dv → Bool
  | _, [] => true
  | n, x :: xs => plainN n x && plainNs n xs
end
theorem plainNs_all : ∀ {n : Nat} {xs : List Dv}, plainNs n xs = true → ∀ d ∈ xs, plainN n d = true
  | n, x :: xs, h, d, hd => by
    simp only [plainNs, Bool.and_eq_true] at h
    rcases List.mem_cons.mp hd with rfl | hd
    · exact h.1
    · exact plainNs_all h.2 d hd
theorem nilEq : eqqD (.list []) (.list []) = some (.sh (.bool true)) := rfl
theorem szl_6 : 1000000 ≤ sizeLine := by decide +kernel
theorem alike_ok : ∀ (n : Nat) (d : Dv), plainN n d = true → alikeF (n + 1) [.sh d, .sh d] = some (.sh (.bool true), [.sh d, .sh d]) := by
  intro n
  induction n with
  | zero =>
    intro d h
    cases d with
    | tuple xs => simp [plainN] at h
    | str z => simp [plainN] at h
    | list z => simp [plainN] at h
    | dict z => simp [plainN] at h
    | none => exact runF_eq (fl := .rt (.sh (.bool true)) [.sh .none, .sh .none, .no]) rfl (by simp [alikeG, sSeq, sIf, tV, unS, pkM, eVar, isiD, tagD, isT, Rz.rv, dat, truD, sNil, tB, binS, eC, isND, isNone, sRet]) rfl
    | bool b => exact runF_eq (fl := .rt (.sh (.bool true)) [.sh (.bool b), .sh (.bool b), .no]) rfl (by cases b <;> rfl) rfl
    | int b => exact runF_eq (fl := .rt (.sh (.bool true)) [.sh (.int b), .sh (.int b), .no]) rfl (by simp [alikeG, sSeq, sIf, tV, unS, pkM, eVar, isiD, tagD, isT, Rz.rv, dat, truD, sNil, tB, binS, eC, isND, isNone, sRet, eAnd, eNot, eqqD, eqD]) rfl
  | succ n ih =>
    intro d h
    cases d with
    | str z => simp [plainN] at h
    | list z => simp [plainN] at h
    | dict z => simp [plainN] at h
    | none => exact runF_eq (fl := .rt (.sh (.bool true)) [.sh .none, .sh .none, .no]) rfl (by simp [alikeG, sSeq, sIf, tV, unS, pkM, eVar, isiD, tagD, isT, Rz.rv, dat, truD, sNil, tB, binS, eC, isND, isNone, sRet]) rfl
    | bool b => exact runF_eq (fl := .rt (.sh (.bool true)) [.sh (.bool b), .sh (.bool b), .no]) rfl (by cases b <;> rfl) rfl
    | int b => exact runF_eq (fl := .rt (.sh (.bool true)) [.sh (.int b), .sh (.int b), .no]) rfl (by simp [alikeG, sSeq, sIf, tV, unS, pkM, eVar, isiD, tagD, isT, Rz.rv, dat, truD, sNil, tB, binS, eC, isND, isNone, sRet, eAnd, eNot, eqqD, eqD]) rfl
    | tuple xs =>
      simp only [plainN, Bool.and_eq_true, decide_eq_true_eq] at h
      have hz := szl_6
      have r1 : rng1 [.int (xs.length : Int)] = some (rangeD 0 xs.length) := range1_eval (by omega)
      have a1 : eLc [2] (iRng rng1 (aCons (eCall lenG (aCons (eVar 1) aNil)) aNil)) (tName 2) (tNo (tV (eFn (alikeF (n + 1)) (aCons (frM (binS ixA (eVar 0) (eVar 2))) (aCons (frM (binS ixA (eVar 1) (eVar 2))) aNil))))) (eVar 2) [.sh (.tuple xs), .sh (.tuple xs), .no] = some (.ow (.lst []), [.sh (.tuple xs), .sh (.tuple xs), .no]) := by
        have := eLc1 (i := 2) (fi := iRng rng1 (aCons (eCall lenG (aCons (eVar 1) aNil)) aNil)) (c := tNo (tV (eFn (alikeF (n + 1)) (aCons (frM (binS ixA (eVar 0) (eVar 2))) (aCons (frM (binS ixA (eVar 1) (eVar 2))) aNil))))) (fe := eVar 2) (ρ := [.sh (.tuple xs), .sh (.tuple xs), .no]) (s0 := .no) (ds := rangeD 0 xs.length) (fun _ => false) id
          (iRng_eq (rs := [.sh (.int (xs.length : Int))]) (by simp [aCons, aNil, eCall, eVar, dats, dat, lenG, Rz.rv]) rfl r1) rfl (by intro o; simp) (by rw [rangeD_len]; omega) (fun d hd => by
            obtain ⟨j, hj⟩ := List.mem_iff_getElem?.mp hd
            obtain ⟨hj2, rfl⟩ := rangeD_get hj
            have e2 : atI xs (j : Int) = some xs[j] := atI_nat (List.getElem?_eq_getElem hj2)
            have e3 := ih xs[j] (plainNs_all h.2 _ (List.getElem_mem _))
            simp [tNo, tV, eFn, aCons, aNil, frM, binS, pkM, eVar, dat, ixA, ixD, e2, Rz.rv, toSls, toSl, alsOk, als, e3, wback, truD]) (fun d hd hb => nomatch hb)
        rw [show ∀ l : List Dv, l.filter (fun _ => false) = [] from fun l => by simp] at this
        exact this
      have a2 : alikeG (alikeF (n + 1)) [.sh (.tuple xs), .sh (.tuple xs), .no] = some (.rt (.sh (.bool true)) [.sh (.tuple xs), .sh (.tuple xs), .no]) := by
        have b1 : sIf (tOr' (tNo (tV (unS (isiD "tuple") (eVar 0)))) (tB (binS neqD (eCall lenG (aCons (eVar 0) aNil)) (eCall lenG (aCons (eVar 1) aNil))))) (sRet [] (eC (.bool false))) sNil [.sh (.tuple xs), .sh (.tuple xs), .no] = some (.nx [.sh (.tuple xs), .sh (.tuple xs), .no]) := by
          simp [sIf, tOr', tNo, tV, unS, pkM, eVar, isiD, tagD, isT, Rz.rv, dat, truD, tB, binS, neqD, eqD, eCall, aCons, aNil, dats, lenG, sNil]
        have b2 : sRet [] (binS eqqD (eLc [2] (iRng rng1 (aCons (eCall lenG (aCons (eVar 1) aNil)) aNil)) (tName 2) (tNo (tV (eFn (alikeF (n + 1)) (aCons (frM (binS ixA (eVar 0) (eVar 2))) (aCons (frM (binS ixA (eVar 1) (eVar 2))) aNil))))) (eVar 2)) (eLst aNil)) [.sh (.tuple xs), .sh (.tuple xs), .no] = some (.rt (.sh (.bool true)) [.sh (.tuple xs), .sh (.tuple xs), .no]) := by
          exact sRet_sh (bin_sh (pk_ow a1) (pk_ow (by simp [eLst, aNil, shs])) nilEq)
        unfold alikeG
        rw [sSeq_rt]
        rw [sIf_t (ρ1 := [.sh (.tuple xs), .sh (.tuple xs), .no]) (by simp [tV, unS, pkM, eVar, isiD, tagD, isT, Rz.rv, dat, truD])]
        rw [sSeq_nx b1, b2]
      exact runF_eq rfl a2 rfl
theorem alike_rw (n : Nat) (d : Dv) (h : plainN n d = true) : alikeF (n + 1) [.sh d, .sh d] = some (.sh (.bool true), [.sh d, .sh d]) := alike_ok n d h
end DL

set_option Elab.async false
set_option linter.all false
set_option autoImplicit false
set_option maxRecDepth 100000
set_option maxHeartbeats 1000000
namespace DL
open PySem PySem.Spec PyProof.Rows L2
/-! ### comprehensions of two clauses -/
def lcS2 (own vs1 : List Nat) (t : MT) (c : MB) (fi1 : ML) (t1 : MT) (c1 : MB) (fe : M) : List Dv → List Dv → Rho → Option (List Dv × Rho)
  | [], acc, ρ => some (acc, ρ)
  | d :: ds, acc, ρ => (t d (wipeR ρ own)).bind fun ρ1 => (c ρ1).bind fun x => if x.1 = true then (fi1 x.2).bind fun z => (lcS vs1 t1 c1 fe z.1 acc z.2).bind fun y => lcS2 own vs1 t c fi1 t1 c1 fe ds y.1 y.2
      else lcS2 own vs1 t c fi1 t1 c1 fe ds acc x.2
def eLc2 (own vs1 : List Nat) (fi : ML) (t : MT) (c : MB) (fi1 : ML) (t1 : MT) (c1 : MB) (fe : M) : M := fun ρ => (fi ρ).bind fun x => if noOw x.2 own = true then (lcS2 own vs1 t c fi1 t1 c1 fe x.1 [] x.2).bind fun y => some (.ow (.lst y.1), putB y.2 x.2 own) else none
section
variable {X : Cx} {ix : List Nat} {own tis tis1 vs1 : List Nat} {fi fi1 : ML} {t t1 : MT} {c c1 : MB} {fe : M}
theorem wipeR_sub (ρ : Rho) {vs own : List Nat} (h : ∀ i ∈ vs, i ∈ own) : wipeR (wipeR ρ vs) own = wipeR ρ own := by
  refine List.ext_getElem? fun j => ?_
  by_cases hj : j ∈ own
  · by_cases hlt : j < ρ.length
    · have h1 : j < (wipeR (wipeR ρ vs) own).length := by rw [wipeR_length, wipeR_length]; exact hlt
      have h2 : j < (wipeR ρ own).length := by rw [wipeR_length]; exact hlt
      have e1 := List.getElem?_eq_getElem h1
      have e2 := List.getElem?_eq_getElem h2
      rw [e1, e2, wipeR_in hj e1, wipeR_in hj e2]
    · rw [List.getElem?_eq_none (by rw [wipeR_length, wipeR_length]; omega), List.getElem?_eq_none (by rw [wipeR_length]; omega)]
  · rw [wipeR_out hj, wipeR_out hj, wipeR_out fun z => hj (h j z)]
theorem wipe_sub (σ : L2.St) {vs own : List Nat} (h : ∀ i ∈ vs, i ∈ own) : wipe (wipe σ vs) own = wipe σ own := by
  refine wipe_eq (is := own) (wipe_length _ _) fun j hj => wipe_out fun z => hj (h j z)
theorem nD_of {K : PySem.W.Frag} {Fr G H : Hp} {FX : Nat → Option V} {ρ : Rho} {σ : L2.St} {D : Addr} {u : HO} (R : RS K ix (upd Fr D u) FX G ρ σ H) : ∀ (i : Nat) (o' : Ob), ρ[i]? = some (.ow o') → σ[i]? ≠ some (some (.ref D)) := fun i o' z1 z2 => by
  obtain ⟨a, ea, _, fa, _⟩ := R.sl i _ z1
  rw [z2] at ea
  cases ea
  rw [upd_same] at fa
  cases fa
theorem lc2_ok {σ : L2.St} {H : Hp} {Q : VK} (ho : ∀ i ∈ own, i ∉ ix) (ht : ∀ i ∈ tis, i ∈ own) (hv : ∀ i ∈ vs1, i ∈ own) (ht1 : ∀ i ∈ tis1, i ∈ vs1) (h : TE' X.K ix (eLc2 own vs1 fi t c fi1 t1 c1 fe) σ H Q) :
    tLc2 (TI' X.K ix fi) (TG' X.K ix tis t) (TT' X.K ix c) (TI' X.K ix fi1) (TG' X.K ix tis1 t1) (TT' X.K ix c1) (TE' X.K ix (frM fe)) own vs1 σ H Q := by
  obtain ⟨Fr, FX, G, ρ, r, ρ', R, hf, k⟩ := h
  have ho1 : ∀ i ∈ vs1, i ∉ ix := fun i hi => ho i (hv i hi)
  unfold eLc2 at hf
  obtain ⟨⟨ds, ρ0⟩, h0, hf⟩ := Option.bind_eq_some_iff.mp hf
  simp only at hf
  split at hf
  rotate_left
  · cases hf
  rename_i hno
  obtain ⟨⟨accF, ρF⟩, h1, hf⟩ := Option.bind_eq_some_iff.mp hf
  cases hf
  refine ⟨Fr, FX, G, ρ, ds, ρ0, R, h0, fun J G0 H0 s0 R0 jk D hD => ?_⟩
  have gD := (R0.none_of hD).1
  have fD := (R0.none_of hD).2
  refine ⟨fun i m H => m = ds.length - i ∧ i ≤ ds.length ∧ ∃ G1 ρ1 acc accv, Sub G0 G1 ∧ H D = some (.lst accv) ∧ DpAll X.K G1 accv acc ∧ RS X.K ix (upd Fr D (.lst accv)) FX G1 (wipeR ρ1 own) (wipe σ own) H ∧ lcS2 own vs1 t c fi1 t1 c1 fe (ds.drop i) acc ρ1 = some (accF, ρF),
    ⟨ds.length, by simp, Nat.zero_le _, G0, ρ0, [], [], Sub.refl _, upd_same, .nil, ?_, h1⟩, ?_⟩
  · exact ((R0.wiped ho).newH hD).frame gD upd_same ((R0.wiped ho).notIn hD)
  rintro i m H1 ⟨rfl, hle, G1, ρ1, acc, accv, s1, hv', qa, R1, e1⟩
  have gD1 : G1 D = none := R1.gf D (by rw [upd_same]; simp)
  obtain ⟨j1, j2⟩ := jk i G1 H1 s1 R1.gh
  by_cases hlt : i < ds.length
  · have hd : ds[i]? = some ds[i] := List.getElem?_eq_getElem hlt
    obtain ⟨j3, j4⟩ := j1 _ hd
    rw [List.drop_eq_getElem_cons hlt] at e1
    unfold lcS2 at e1
    obtain ⟨ρ2, e2, e1⟩ := Option.bind_eq_some_iff.mp e1
    obtain ⟨⟨kb, ρ3⟩, e3, e1⟩ := Option.bind_eq_some_iff.mp e1
    refine .inr ⟨j3, fun H => ∃ G1 ρ1 acc accv, Sub G0 G1 ∧ H D = some (.lst accv) ∧ DpAll X.K G1 accv acc ∧ RS X.K ix (upd Fr D (.lst accv)) FX G1 (wipeR ρ1 own) (wipe σ own) H ∧ lcS2 own vs1 t c fi1 t1 c1 fe (ds.drop (i + 1)) acc ρ1 = some (accF, ρF), fun H' w => ⟨ds.length - (i + 1), by omega, rfl, hlt, w⟩, fun x H2 y => ?_⟩
    have key : ∃ G2, Sub G1 G2 ∧ RS X.K ix (upd Fr D (.lst accv)) FX G2 (wipeR ρ1 own) (wipe σ own) H2 ∧ Dp X.K G2 x ds[i] := by
      rcases j4 x H2 y with ⟨rfl, q⟩ | ⟨p, o, hp, rfl, q⟩
      · exact ⟨G1, Sub.refl _, R1, q⟩
      · exact ⟨_, sub_upd (R1.none_of hp).1, R1.newG hp, q⟩
    obtain ⟨G2, s2, R2, q⟩ := key
    refine ⟨_, FX, G2, _, _, ρ2, R2, q, e2, fun G3 σ3 H3 s3 n3 R3 => ?_⟩
    have hw : wipe σ3 own = wipe σ own := by
      have := wipe_eq (is := own) n3.1 fun j hj => n3.2 j fun z => hj (ht j z)
      rw [this, wipe_wipe]
    refine ⟨hw, _, FX, G3, ρ2, kb, ρ3, R3, e3, fun G4 H4 s4 R4 => ?_⟩
    cases kb with
    | false =>
      rw [if_neg Bool.false_ne_true]
      simp only [Bool.false_eq_true, if_false] at e1
      have W4 := R4.wiped (own := own) ho
      rw [hw] at W4
      exact ⟨G4, ρ3, acc, accv, ((s1.trans s2).trans s3).trans s4, R4.fh D _ upd_same, dpAll_mono ((s2.trans s3).trans s4) _ _ qa, W4, e1⟩
    | true =>
      rw [if_pos rfl]
      simp only [if_true] at e1
      obtain ⟨⟨es, ρ4⟩, e4, e1⟩ := Option.bind_eq_some_iff.mp e1
      obtain ⟨⟨accI, ρI⟩, e5, e1⟩ := Option.bind_eq_some_iff.mp e1
      simp only at e1 e5
      have s04 : Sub G0 G4 := ((s1.trans s2).trans s3).trans s4
      have q04 := dpAll_mono ((s2.trans s3).trans s4) _ _ qa
      refine ⟨_, FX, G4, ρ3, es, ρ4, R4, e4, fun J1 G5 H5 s5 R5 jk1 => ?_⟩
      refine ⟨fun j m H => m = es.length - j ∧ j ≤ es.length ∧ ∃ G6 ρ6 acc6 accv6, Sub G5 G6 ∧ H D = some (.lst accv6) ∧ DpAll X.K G6 accv6 acc6 ∧ RS X.K ix (upd Fr D (.lst accv6)) FX G6 (wipeR ρ6 vs1) (wipe σ3 vs1) H ∧ lcS vs1 t1 c1 fe (es.drop j) acc6 ρ6 = some (accI, ρI),
        ⟨es.length, by simp, Nat.zero_le _, G5, ρ4, acc, accv, Sub.refl _, R5.fh D _ upd_same, dpAll_mono s5 _ _ q04, R5.wiped ho1, e5⟩, ?_⟩
      rintro j m' H6 ⟨rfl, hle6, G6, ρ6, acc6, accv6, s6, hv6, qa6, R6, e6⟩
      have gD6 : G6 D = none := R6.gf D (by rw [upd_same]; simp)
      obtain ⟨i1, i2⟩ := jk1 j G6 H6 s6 R6.gh
      by_cases hlt6 : j < es.length
      · have hd6 : es[j]? = some es[j] := List.getElem?_eq_getElem hlt6
        obtain ⟨i3, i4⟩ := i1 _ hd6
        rw [List.drop_eq_getElem_cons hlt6] at e6
        unfold lcS at e6
        obtain ⟨ρ7, e7, e6⟩ := Option.bind_eq_some_iff.mp e6
        obtain ⟨⟨kb7, ρ8⟩, e8, e6⟩ := Option.bind_eq_some_iff.mp e6
        refine .inr ⟨i3, fun H => ∃ G6 ρ6 acc6 accv6, Sub G5 G6 ∧ H D = some (.lst accv6) ∧ DpAll X.K G6 accv6 acc6 ∧ RS X.K ix (upd Fr D (.lst accv6)) FX G6 (wipeR ρ6 vs1) (wipe σ3 vs1) H ∧ lcS vs1 t1 c1 fe (es.drop (j + 1)) acc6 ρ6 = some (accI, ρI), fun H' w => ⟨es.length - (j + 1), by omega, rfl, hlt6, w⟩, fun x6 H7 y6 => ?_⟩
        have key : ∃ G7, Sub G6 G7 ∧ RS X.K ix (upd Fr D (.lst accv6)) FX G7 (wipeR ρ6 vs1) (wipe σ3 vs1) H7 ∧ Dp X.K G7 x6 es[j] := by
          rcases i4 x6 H7 y6 with ⟨rfl, q⟩ | ⟨p, o, hp, rfl, q⟩
          · exact ⟨G6, Sub.refl _, R6, q⟩
          · exact ⟨_, sub_upd (R6.none_of hp).1, R6.newG hp, q⟩
        obtain ⟨G7, s7, R7, q7⟩ := key
        refine ⟨_, FX, G7, _, _, ρ7, R7, q7, e7, fun G8 σ8 H8 s8 n8 R8 => ?_⟩
        have hw8 : wipe σ8 vs1 = wipe σ3 vs1 := by
          have := wipe_eq (is := vs1) n8.1 fun j hj => n8.2 j fun z => hj (ht1 j z)
          rw [this, wipe_wipe]
        refine ⟨hw8, _, FX, G8, ρ7, kb7, ρ8, R8, e8, fun G9 H9 s9 R9 => ?_⟩
        cases kb7 with
        | false =>
          rw [if_neg Bool.false_ne_true]
          simp only [Bool.false_eq_true, if_false] at e6
          have W9 := R9.wiped (own := vs1) ho1
          rw [hw8] at W9
          exact ⟨G9, ρ8, acc6, accv6, ((s6.trans s7).trans s8).trans s9, R9.fh D _ upd_same, dpAll_mono ((s7.trans s8).trans s9) _ _ qa6, W9, e6⟩
        | true =>
          rw [if_pos rfl]
          simp only [if_true] at e6
          obtain ⟨⟨ra, ρa⟩, ea, e6⟩ := Option.bind_eq_some_iff.mp e6
          refine ⟨_, FX, G9, ρ8, ra, ρa, R9, ea, fun z Ga Ha sa Ra va => ?_⟩
          cases ra with
          | ow o => cases e6
          | fd o => cases e6
          | al o => cases e6
          | sh da =>
            simp only at e6
            split at e6
            · rename_i hz
              have hDa : Ha D = some (.lst accv6) := Ra.fh D _ upd_same
              have gDa : Ga D = none := Ra.gf D (by rw [upd_same]; simp)
              refine ⟨accv6, hDa, by rw [dpAll_length qa6]; exact hz, ?_⟩
              have Wa := Ra.wiped (own := vs1) ho1
              rw [hw8] at Wa
              have nD := nD_of Wa
              have Wb := (Wa.unframe fD).out (u := .lst (accv6 ++ [z])) gDa fD nD
              have sb : Sub G6 Ga := ((s7.trans s8).trans s9).trans sa
              exact ⟨Ga, ρa, acc6 ++ [da], accv6 ++ [z], s6.trans sb, upd_same, dpAll_append (dpAll_mono sb _ _ qa6) (.cons va .nil), Wb.frame gDa upd_same nD, e6⟩
            · cases e6
      · have hj : j = es.length := by omega
        subst hj
        rw [List.drop_length] at e6
        unfold lcS at e6
        cases e6
        refine .inl ⟨i2 (Nat.le_refl _), ?_⟩
        have W6 := R6.wiped (own := own) ho
        rw [wipeR_sub _ hv, wipe_sub _ hv, hw] at W6
        exact ⟨G6, ρI, accI, accv6, (s04.trans s5).trans s6, hv6, qa6, W6, e1⟩
  · have hi : i = ds.length := by omega
    subst hi
    rw [List.drop_length] at e1
    unfold lcS2 at e1
    cases e1
    refine .inl ⟨j2 (Nat.le_refl _), ?_⟩
    have nD := nD_of R1
    have RZ := RS.unwiped R0 (R1.unframe fD) s1 hno
    refine k _ G1 H1 (s0.trans s1) RZ ⟨D, rfl, gD1, fD, ⟨accv, hv', qa⟩, fun i o' z1 z2 => ?_⟩
    by_cases hi : i ∈ own
    · have hl : ρ0.length = ρF.length := by
        have l1 := R0.len
        have l2 := R1.len
        rw [wipeR_length, wipe_length] at l2
        omega
      have e' := putB_in hl hi z1
      have := List.all_eq_true.mp hno i hi
      rw [e'] at this
      cases this
    · rw [putB_out hi] at z1
      exact nD i o' (by rw [wipeR_out hi]; exact z1) (by rw [wipe_out hi]; exact z2)
end
section
variable {X : Cx} {ix : List Nat} {tis tis1 : List Nat} {fi fi1 : ML} {t t1 : MT} {c c1 : MB} {fe : M} {pos : Pos}
theorem de_lc2 {elt tg iter tg1 iter1 : Expr} {ifs ifs1 : List Expr} {scope : Scope} {own : List (Str × Nat)} {vs1 : List Nat} (hc : X.calm = true) (hN : X.N.Nodup) (hi : PI X tg iter (TI' X.K ix fi)) (ok : BlkOk X.N X.env.scope scope own)
    (hg : ∀ (s : Shared) (H : Hp) (C : Addr) (cl : List (Str × Addr)) (fp : List Addr), PG (X.blk s H scope (compEnvC scope cl C X.env) fp) tg (TG' X.K ix tis t))
    (ht : ∀ (s : Shared) (H : Hp) (C : Addr) (cl : List (Str × Addr)) (fp : List Addr), PTs (X.blk s H scope (compEnvC scope cl C X.env) fp) ifs (TT' X.K ix c))
    (hi1 : ∀ (s : Shared) (H : Hp) (C : Addr) (cl : List (Str × Addr)) (fp : List Addr), PI (X.blk s H scope (compEnvC scope cl C X.env) fp) tg1 iter1 (TI' X.K ix fi1))
    (hg1 : ∀ (s : Shared) (H : Hp) (C : Addr) (cl : List (Str × Addr)) (fp : List Addr), PG (X.blk s H scope (compEnvC scope cl C X.env) fp) tg1 (TG' X.K ix tis1 t1))
    (ht1 : ∀ (s : Shared) (H : Hp) (C : Addr) (cl : List (Str × Addr)) (fp : List Addr), PTs (X.blk s H scope (compEnvC scope cl C X.env) fp) ifs1 (TT' X.K ix c1))
    (he : ∀ (s : Shared) (H : Hp) (C : Addr) (cl : List (Str × Addr)) (fp : List Addr), PE (X.blk s H scope (compEnvC scope cl C X.env) fp) elt (TE' X.K ix fe))
    (hv : ∀ i ∈ vs1, i ∈ own.map (·.2) := by decide) (ho : ∀ i ∈ own.map (·.2), i ∉ ix := by decide) (hti : ∀ i ∈ tis, i ∈ own.map (·.2) := by decide) (hti1 : ∀ i ∈ tis1, i ∈ vs1 := by decide) (hs : ∀ x, foldedSetIterable iter X.env x = pure x := by intro _; rfl) (hs1 : ∀ env x, foldedSetIterable iter1 env x = pure x := by intro _ _; rfl) :
    PE X (.ListComp elt [⟨tg, iter, ifs, 0⟩, ⟨tg1, iter1, ifs1, 0⟩] scope pos) (TE' X.K ix (eLc2 (own.map (·.2)) vs1 fi t c fi1 t1 c1 fe)) :=
  pe_imp (pe_lc2 hc hN hi ok hv hg ht hi1 hg1 ht1 (fun s H C cl fp => de_fr (he s H C cl fp)) hs hs1) fun _ _ _ h => lc2_ok ho hti hv hti1 h
theorem ds_setLc2 {i : Nat} {y : Str} {py spos : Pos} {elt tg iter tg1 iter1 : Expr} {ifs ifs1 : List Expr} {scope : Scope} {own : List (Str × Nat)} {vs1 : List Nat} (hc : X.calm = true) (hN : X.N.Nodup) (hy : X.N[i]? = some y) (hyl : X.env.scope.names.lookup y = some .local) (hix : i ∉ ix)
    (hsw : swapsWith (.ListComp elt [⟨tg, iter, ifs, 0⟩, ⟨tg1, iter1, ifs1, 0⟩] scope pos) (some (.Name y py)) spos.line X.env = pure true) (hi : PI X tg iter (TI' X.K ix fi)) (ok : BlkOk X.N X.env.scope scope own)
    (hg : ∀ (s : Shared) (H : Hp) (C : Addr) (cl : List (Str × Addr)) (fp : List Addr), PG (X.blk s H scope (compEnvC scope cl C X.env) fp) tg (TG' X.K ix tis t))
    (ht : ∀ (s : Shared) (H : Hp) (C : Addr) (cl : List (Str × Addr)) (fp : List Addr), PTs (X.blk s H scope (compEnvC scope cl C X.env) fp) ifs (TT' X.K ix c))
    (hi1 : ∀ (s : Shared) (H : Hp) (C : Addr) (cl : List (Str × Addr)) (fp : List Addr), PI (X.blk s H scope (compEnvC scope cl C X.env) fp) tg1 iter1 (TI' X.K ix fi1))
    (hg1 : ∀ (s : Shared) (H : Hp) (C : Addr) (cl : List (Str × Addr)) (fp : List Addr), PG (X.blk s H scope (compEnvC scope cl C X.env) fp) tg1 (TG' X.K ix tis1 t1))
    (ht1 : ∀ (s : Shared) (H : Hp) (C : Addr) (cl : List (Str × Addr)) (fp : List Addr), PTs (X.blk s H scope (compEnvC scope cl C X.env) fp) ifs1 (TT' X.K ix c1))
    (he : ∀ (s : Shared) (H : Hp) (C : Addr) (cl : List (Str × Addr)) (fp : List Addr), PE (X.blk s H scope (compEnvC scope cl C X.env) fp) elt (TE' X.K ix fe))
    (hv : ∀ i ∈ vs1, i ∈ own.map (·.2) := by decide) (ho : ∀ i ∈ own.map (·.2), i ∉ ix := by decide) (hti : ∀ i ∈ tis, i ∈ own.map (·.2) := by decide) (hti1 : ∀ i ∈ tis1, i ∈ vs1 := by decide) (hs : ∀ x, foldedSetIterable iter X.env x = pure x := by intro _; rfl) (hs1 : ∀ env x, foldedSetIterable iter1 env x = pure x := by intro _ _; rfl) :
    PS X (.Assign [.Name y py] (.ListComp elt [⟨tg, iter, ifs, 0⟩, ⟨tg1, iter1, ifs1, 0⟩] scope pos) spos) (TS' X.K ix (sSet i (eLc2 (own.map (·.2)) vs1 fi t c fi1 t1 c1 fe))) :=
  ps_imp (ps_setLc2 hc hN hy hyl hsw hi ok hv hg ht hi1 hg1 ht1 (fun s H C cl fp => de_fr (he s H C cl fp)) hs hs1) fun _ _ _ h => lc2_ok ho hti hv hti1 (asg_ok hix h)
end
end DL

set_option Elab.async false
set_option linter.all false
set_option autoImplicit false
set_option maxRecDepth 100000
set_option maxHeartbeats 1000000
namespace DL
open PySem PySem.Spec PyProof.Rows L2
/-! ### sorted -/
def isTup : Dv → Bool
  | .tuple (_ :: _) => true
  | _ => false
def noTup : Dv → Bool
  | .tuple _ => false
  | .none => false
  | _ => true
def okSo (ds : List Dv) : Bool := (ds.all isTup || ds.all noTup) && (ds.all fun d => ds.all fun e => PySem.W.alike d e) && (ds.all fun d => decide (d.depth ≤ 64)) && decide (ds.length ≤ sizeLine)
def sortD (ds : List Dv) : List Dv := ds.mergeSort (PySem.W.dataLe false fun d : Dv => d)
def sortG : List Dv → Option Rz
  | [.list ds] => if okSo ds = true then some (.ow (.lst (sortD ds))) else none
  | _ => none
theorem okSo_all {ds : List Dv} (h : okSo ds = true) : PySem.W.Sortable ds ∧ PySem.W.AllAlike ds ∧ (∀ d ∈ ds, d.depth ≤ 64) ∧ ds.length ≤ sizeLine := by
  unfold okSo at h
  simp only [Bool.and_eq_true, decide_eq_true_eq, Bool.or_eq_true] at h
  obtain ⟨⟨⟨h1, h2⟩, h3⟩, h4⟩ := h
  refine ⟨?_, fun d hd d' hd' => List.all_eq_true.mp (List.all_eq_true.mp h2 d hd) d' hd', fun d hd => of_decide_eq_true (List.all_eq_true.mp h3 d hd), h4⟩
  rcases h1 with h1 | h1
  · refine .inl fun d hd => ?_
    have := List.all_eq_true.mp h1 d hd
    unfold isTup at this
    split at this
    · exact ⟨_, _, rfl⟩
    · cases this
  · refine .inr fun d hd => ?_
    have := List.all_eq_true.mp h1 d hd
    refine ⟨fun e => ?_, fun xs e => ?_⟩ <;> (subst e; cases this)
theorem each_of {X : Cx} {pins : List (Addr × Obj)} {σ : L2.St} {H : Hp} {s : Shared} (I : Inv X pins σ H s) {G : Hp} (gh : Sub G H) : ∀ {ds : List Dv} {vs : List V} {us : List Value}, DpAll X.K G vs ds → Vals vs us →
    PySem.W.EachIs (fun u d => ∃ v, RelV v u ∧ Dp X.K G v d) us ds ∧ PySem.W.EachIs (fun u d => ∃ as, Reads s.heap u d as) us ds
  | [], _, _, h, r => by
    cases h
    cases r
    exact ⟨.nil, .nil⟩
  | d :: ds, _, _, h, r => by
    cases h with
    | cons h1 h2 =>
      cases r with
      | cons r1 r2 =>
        obtain ⟨a, b⟩ := each_of I gh h2 r2
        exact ⟨.cons ⟨_, r1, h1⟩ a, .cons (Dp.reads I d _ _ (dp_mono gh _ _ h1) r1) b⟩
theorem of_each {K : PySem.W.Frag} {G : Hp} : ∀ {us : List Value} {ds : List Dv}, PySem.W.EachIs (fun u d => ∃ v, RelV v u ∧ Dp K G v d) us ds → ∃ vs, Vals vs us ∧ DpAll K G vs ds
  | _, _, .nil => ⟨[], .nil, .nil⟩
  | _, _, .cons ⟨v, r, h⟩ t => by
    obtain ⟨vs, a, b⟩ := of_each t
    exact ⟨v :: vs, .cons r a, .cons h b⟩
theorem sorted_d {X : Cx} (hu : X.A.units + 200 < cLine) : CallD X (.builtin "sorted") sortG := by
  intro pins s σ H xs us Q I r h
  obtain ⟨G, ds, z, gh, vd, hz, q⟩ := h
  unfold sortG at hz
  split at hz
  rotate_left
  · cases hz
  rename_i es
  split at hz
  rotate_left
  · cases hz
  rename_i hok
  cases hz
  obtain ⟨h1, h2, h3, h4⟩ := okSo_all hok
  obtain ⟨v, rfl, hv⟩ := vds1 vd
  obtain ⟨a, vs, rfl, hs, p1⟩ := vd_list hv
  rw [Vals.ref1 r]
  obtain ⟨its, rv, pl, hz'⟩ := I.list hs
  obtain ⟨e1, e2⟩ := each_of I (sub_le gh) p1 rv
  refine PySem.W.sorted_data (enc := fun d : Dv => d) pl.isList e1 e2 (by rw [List.map_id']; exact h2) (by rw [List.map_id']; exact h1) h4 (fun b hb => by have := h3 b hb; omega) fun out ho ho2 => ?_
  obtain ⟨ws, rw', dw⟩ := of_each ho2
  obtain ⟨ep, he'⟩ := PyProof.Rows.sortedAll_at s.heap its out.toArray
  have hlen : ws.length ≤ sizeLine := by
    rw [rw'.length, ho]
    exact h4
  have hp := I.hok.fresh (Nat.le_succ s.heap.objs.size)
  exact ⟨.ref _, upd H (s.heap.objs.size + 1) (.lst ws), I.laid (t' := s.toks) (fun _ _ => PyProof.Rows.sortedAll_old) (Nat.le_succ _) ⟨hlen, out, ep, rw', he'⟩, rfl, res_lst q hp dw⟩
end DL

set_option Elab.async false
set_option linter.all false
set_option autoImplicit false
set_option maxRecDepth 100000
set_option maxHeartbeats 1000000
namespace DL
open PySem PySem.Spec PyProof.Rows L2
section
variable {X : Cx} {ix : List Nat} {a b c e : Expr} {ga : MA} {fo : M} {pos : Pos}
/-- three names at once, all shared -/
def sPar3 (i j l : Nat) (ga : MA) : MS := fun ρ => (ga ρ).bind fun x => match x.1 with
  | [.sh d, .sh e, .sh f] => some (.nx (((x.2.set i (.sh d)).set j (.sh e)).set l (.sh f)))
  | _ => none
theorem ds_par3 {i j l : Nat} {x y z : Str} {px py pz pt : Pos} {kt k2 pt2} (hc : X.calm = true) (hN : X.N.Nodup) (hi : X.N[i]? = some x) (hj : X.N[j]? = some y) (hl : X.N[l]? = some z) (hij : i ≠ j) (hil : i ≠ l) (hjl : j ≠ l) (hii : i ∉ ix) (hjj : j ∉ ix) (hll : l ∉ ix)
    (hx : X.env.scope.names.lookup x = some .local) (hy : X.env.scope.names.lookup y = some .local) (hz : X.env.scope.names.lookup z = some .local) (ha : PA X [a, b, c] (TA' X.K ix ga))
    (hw : swappedStores [.Tuple [.Name x px, .Name y py, .Name z pz] kt pt] (.Tuple [a, b, c] k2 pt2) X.env = pure (some [x, y, z]) := by rfl)
    (hs : swapsWithSole [.Tuple [.Name x px, .Name y py, .Name z pz] kt pt] (.Tuple [a, b, c] k2 pt2) pos.line X.env = pure false := by rfl) :
    PS X (.Assign [.Tuple [.Name x px, .Name y py, .Name z pz] kt pt] (.Tuple [a, b, c] k2 pt2) pos) (TS' X.K ix (sPar3 i j l ga)) :=
  ps_imp (ps_par3 hc hN hi hj hl hij hil hjl hx hy hz ha hw hs) fun D σ H ⟨Fr, FX, G, ρ, fl, R, hf, k⟩ => by
    unfold sPar3 at hf
    obtain ⟨⟨rs, ρ0⟩, h0, hf⟩ := Option.bind_eq_some_iff.mp hf
    refine ⟨Fr, FX, G, ρ, rs, ρ0, R, h0, fun vs G1 H1 s1 R1 v1 => ?_⟩
    simp only at hf
    split at hf
    · rename_i d e f
      cases hf
      cases vs with
      | nil => exact False.elim v1
      | cons u vs =>
        cases vs with
        | nil => exact False.elim v1.2.2
        | cons v vs =>
          cases vs with
          | nil => exact False.elim v1.2.2.2.2
          | cons w vs =>
            cases vs with
            | cons _ _ => exact False.elim v1.2.2.2.2.2.2
            | nil =>
              have q1 : Dp X.K G1 u d := v1.1
              have q2 : Dp X.K G1 v e := v1.2.2.1
              have q3 : Dp X.K G1 w f := v1.2.2.2.2.1
              have K1 := R1.set (v := u) (s := .sh d) hii ⟨u, rfl, q1⟩ (fun o a z => nomatch z)
              have K2 := K1.set (v := v) (s := .sh e) hjj ⟨v, rfl, q2⟩ (fun o a z => nomatch z)
              have K3 := K2.set (v := w) (s := .sh f) hll ⟨w, rfl, q3⟩ (fun o a z => nomatch z)
              exact ⟨u, v, w, rfl, k G1 _ H1 s1 K3⟩
    · cases hf
end
end DL

set_option Elab.async false
set_option linter.all false
set_option autoImplicit false
set_option maxRecDepth 100000
set_option maxHeartbeats 1000000
namespace DL
open PySem PySem.Spec PyProof.Rows L2
/-! ### len of a dict with tuple keys too -/
def lenA (ds : List Dv) : Option Rz := match ds with
  | [.dict kvs] => if plD kvs = true then some (.sh (.int kvs.length)) else if kvs.tail.length < 1000000 then some (.sh (.int kvs.tail.length)) else none
  | _ => lenG ds
theorem lenA_d {X : Cx} : CallD X (.builtin "len") lenA := by
  intro pins s σ H xs us Q I r h
  obtain ⟨G, ds, z, gh, vd, hz, q⟩ := h
  unfold lenA at hz
  split at hz
  · rename_i kvs
    by_cases hp : plD kvs = true
    · rw [if_pos hp] at hz
      refine len_d pins s σ H xs us Q I r ⟨G, [.dict kvs], z, gh, vd, ?_, q⟩
      unfold lenG
      simp only
      rw [if_pos hp]
      exact hz
    · rw [if_neg hp] at hz
      split at hz
      rotate_left
      · cases hz
      rename_i hlt
      cases hz
      obtain ⟨v, rfl, h1⟩ := vds1 vd
      obtain ⟨a, ps, rfl, h2, t⟩ := vd_dn h1 (by simpa using hp)
      rw [Vals.ref1 r]
      obtain ⟨xs, pr, hdk, hsys⟩ := tk_of I h2 (t.mono (sub_le gh))
      have hl : xs.length = kvs.tail.length := by rw [pr_len pr, tkv_len t]
      refine call_len_dictH hsys hdk (by omega) ?_
      rw [hl]
      exact ⟨.int kvs.tail.length, H, I.tok _, ⟨_, rfl⟩, res_int q⟩
  · exact len_d pins s σ H xs us Q I r ⟨G, ds, z, gh, vd, hz, q⟩
end DL

set_option Elab.async false
set_option linter.all false
set_option autoImplicit false
set_option maxRecDepth 100000
set_option maxHeartbeats 1000000
namespace DL
open PySem PySem.Spec PyProof.Rows L2
/-! ### is, also of truths -/
def isXD (d e : Dv) : Option Rz := match d, e with
  | .bool a, .bool b => some (.sh (.bool (decide (a = b))))
  | d, e => isND d e
def notXD (d e : Dv) : Option Rz := match d, e with
  | .bool a, .bool b => some (.sh (.bool (!decide (a = b))))
  | d, e => notND d e
section
variable {X : Cx}
theorem is_x : OpD X (compareOp .Is) isXD := by
  intro pins s σ H x y v u Q I rx ry h
  obtain ⟨G, d, e, z, gh, vx, vy, hz, q⟩ := h
  unfold isXD at hz
  split at hz
  · rename_i a b
    cases hz
    exact op_isBl pins s σ H x y v u Q I rx ry ⟨a, b, vd_bool vx, vd_bool vy, res_bl q⟩
  · exact is_d pins s σ H x y v u Q I rx ry ⟨G, d, e, z, gh, vx, vy, hz, q⟩
theorem isnot_x : OpD X (compareOp .IsNot) notXD := by
  intro pins s σ H x y v u Q I rx ry h
  obtain ⟨G, d, e, z, gh, vx, vy, hz, q⟩ := h
  unfold notXD at hz
  split at hz
  · rename_i a b
    cases hz
    exact op_notBl pins s σ H x y v u Q I rx ry ⟨a, b, vd_bool vx, vd_bool vy, res_bl q⟩
  · exact isnot_d pins s σ H x y v u Q I rx ry ⟨G, d, e, z, gh, vx, vy, hz, q⟩
end
section
variable {X : Cx} {ix : List Nat} {tis tis1 : List Nat} {fi fi1 : ML} {t t1 : MT} {c c1 : MB} {fe : M} {pos : Pos}
theorem ds_setLcP {i : Nat} {y : Str} {py spos : Pos} {elt tg iter : Expr} {ifs : List Expr} {scope : Scope} {own : List (Str × Nat)} (hc : X.calm = true) (hN : X.N.Nodup) (hy : X.N[i]? = some y) (hyl : X.env.scope.names.lookup y = some .local) (hix : i ∉ ix)
    (hsw : swapsWith (.ListComp elt [⟨tg, iter, ifs, 0⟩] scope pos) (some (.Name y py)) spos.line X.env = pure true) (hi : PI X tg iter (TI' X.K ix fi)) (ok : BlkOk X.N X.env.scope scope own)
    (hg : ∀ (s : Shared) (H : Hp) (C : Addr) (cl : List (Str × Addr)) (fp : List Addr), PG (X.blk s H scope (compEnvC scope cl C X.env) fp) tg (TG' X.K ix tis t))
    (ht : ∀ (s : Shared) (H : Hp) (C : Addr) (cl : List (Str × Addr)) (fp : List Addr), PTs (X.blk s H scope (compEnvC scope cl C X.env) fp) ifs (TT' X.K ix c))
    (he : ∀ (s : Shared) (H : Hp) (C : Addr) (cl : List (Str × Addr)) (fp : List Addr), PE (X.blk s H scope (compEnvC scope cl C X.env) fp) elt (TE' X.K ix fe))
    (ho : ∀ i ∈ own.map (·.2), i ∉ ix := by decide) (hti : ∀ i ∈ tis, i ∈ own.map (·.2) := by decide) (hs : ∀ x, foldedSetIterable iter X.env x = pure x := by intro _; rfl) :
    PS X (.Assign [.Name y py] (.ListComp elt [⟨tg, iter, ifs, 0⟩] scope pos) spos) (TS' X.K ix (sSet i (pkM (eLc (own.map (·.2)) fi t c fe)))) :=
  ps_imp (ps_setLc hc hN hy hyl hsw hi ok hg ht (fun s H C cl fp => de_fr (he s H C cl fp)) hs) fun _ _ _ h => lc_ok ho hti (pk_ok (asg_ok hix h))
theorem ds_setLc2P {i : Nat} {y : Str} {py spos : Pos} {elt tg iter tg1 iter1 : Expr} {ifs ifs1 : List Expr} {scope : Scope} {own : List (Str × Nat)} {vs1 : List Nat} (hc : X.calm = true) (hN : X.N.Nodup) (hy : X.N[i]? = some y) (hyl : X.env.scope.names.lookup y = some .local) (hix : i ∉ ix)
    (hsw : swapsWith (.ListComp elt [⟨tg, iter, ifs, 0⟩, ⟨tg1, iter1, ifs1, 0⟩] scope pos) (some (.Name y py)) spos.line X.env = pure true) (hi : PI X tg iter (TI' X.K ix fi)) (ok : BlkOk X.N X.env.scope scope own)
    (hg : ∀ (s : Shared) (H : Hp) (C : Addr) (cl : List (Str × Addr)) (fp : List Addr), PG (X.blk s H scope (compEnvC scope cl C X.env) fp) tg (TG' X.K ix tis t))
    (ht : ∀ (s : Shared) (H : Hp) (C : Addr) (cl : List (Str × Addr)) (fp : List Addr), PTs (X.blk s H scope (compEnvC scope cl C X.env) fp) ifs (TT' X.K ix c))
    (hi1 : ∀ (s : Shared) (H : Hp) (C : Addr) (cl : List (Str × Addr)) (fp : List Addr), PI (X.blk s H scope (compEnvC scope cl C X.env) fp) tg1 iter1 (TI' X.K ix fi1))
    (hg1 : ∀ (s : Shared) (H : Hp) (C : Addr) (cl : List (Str × Addr)) (fp : List Addr), PG (X.blk s H scope (compEnvC scope cl C X.env) fp) tg1 (TG' X.K ix tis1 t1))
    (ht1 : ∀ (s : Shared) (H : Hp) (C : Addr) (cl : List (Str × Addr)) (fp : List Addr), PTs (X.blk s H scope (compEnvC scope cl C X.env) fp) ifs1 (TT' X.K ix c1))
    (he : ∀ (s : Shared) (H : Hp) (C : Addr) (cl : List (Str × Addr)) (fp : List Addr), PE (X.blk s H scope (compEnvC scope cl C X.env) fp) elt (TE' X.K ix fe))
    (hv : ∀ i ∈ vs1, i ∈ own.map (·.2) := by decide) (ho : ∀ i ∈ own.map (·.2), i ∉ ix := by decide) (hti : ∀ i ∈ tis, i ∈ own.map (·.2) := by decide) (hti1 : ∀ i ∈ tis1, i ∈ vs1 := by decide) (hs : ∀ x, foldedSetIterable iter X.env x = pure x := by intro _; rfl) (hs1 : ∀ env x, foldedSetIterable iter1 env x = pure x := by intro _ _; rfl) :
    PS X (.Assign [.Name y py] (.ListComp elt [⟨tg, iter, ifs, 0⟩, ⟨tg1, iter1, ifs1, 0⟩] scope pos) spos) (TS' X.K ix (sSet i (pkM (eLc2 (own.map (·.2)) vs1 fi t c fi1 t1 c1 fe)))) :=
  ps_imp (ps_setLc2 hc hN hy hyl hsw hi ok hv hg ht hi1 hg1 ht1 (fun s H C cl fp => de_fr (he s H C cl fp)) hs hs1) fun _ _ _ h => lc2_ok ho hti hv hti1 (pk_ok (asg_ok hix h))
end
end DL

set_option Elab.async false
set_option linter.all false
set_option autoImplicit false
set_option maxRecDepth 100000
set_option maxHeartbeats 1000000
namespace DL
open PySem PySem.Spec PyProof.Rows L2
/-! ### for x in xs: d.setdefault(k, []).append(e), d a new dict with ints as keys: the lists are shared when the loop is over -/
def addK : List (Dv × List Dv) → Dv → Dv → List (Dv × List Dv)
  | [], k, d => [(k, [d])]
  | p :: r, k, d => if eqKey p.1 k = true then (p.1, p.2 ++ [d]) :: r else p :: addK r k d
def sdfL (j : Nat) (fk fe : M) : List Dv → List (Dv × List Dv) → Rho → Option (List (Dv × List Dv) × Rho)
  | [], kvs, ρ => some (kvs, ρ)
  | d :: ds, kvs, ρ => (pkM fk (ρ.set j (.sh d))).bind fun x => match x.1 with
    | .sh (.int k) => (frM fe x.2).bind fun y => (match y.1 with
      | .sh e => if kvs.length < 100000 ∧ (kvs.all fun p => decide (p.2.length < 100000)) = true then sdfL j fk fe ds (addK kvs (.int k) e) y.2 else none
      | _ => none)
    | _ => none
def shK (kvs : List (Dv × List Dv)) : List (Dv × Dv) := kvs.map fun p => (p.1, .list p.2)
def sSdf (i j : Nat) (fi : ML) (fk fe : M) : MS := fun ρ => (fi ρ).bind fun x => match x.2[i]? with
  | some (.ow (.dct [])) => (sdfL j fk fe x.1 [] (x.2.set i .no)).bind fun y => some (.nx ((y.2.set i (.ow (.dct (shK y.1)))).set j .no))
  | _ => none
section
variable {K : PySem.W.Frag} {ix : List Nat} {Fr Fr1 Fr2 G G' H H' : Hp} {FX : Nat → Option V} {ρ : Rho} {σ : L2.St}
theorem RS.reframe (R : RS K ix Fr1 FX G ρ σ H) (S : Addr → Prop) (hg : ∀ x, S x → G x = none) (hs : ∀ x, S x → ∀ (i : Nat) (o : Ob), ρ[i]? = some (.ow o) → σ[i]? ≠ some (some (.ref x))) (hH : ∀ x, ¬ S x → H' x = H x) (hF : ∀ x, ¬ S x → Fr2 x = Fr1 x) (hSF : ∀ x o, S x → Fr2 x = some o → H' x = some o) : RS K ix Fr2 FX G ρ σ H' := by
  refine ⟨fun a o e => ?_, fun a o e => ?_, fun a n => ?_, R.len, fun i s e => ?_, R.sep, R.fx⟩
  · rw [hH a fun z => by rw [hg a z] at e; cases e]
    exact R.gh a o e
  · by_cases z : S a
    · exact hSF a o z e
    · rw [hH a z]
      rw [hF a z] at e
      exact R.fh a o e
  · by_cases z : S a
    · exact hg a z
    · rw [hF a z] at n
      exact R.gf a n
  · have h := R.sl i s e
    cases s with
    | no => trivial
    | sh d => exact h
    | fd d => exact h
    | ow o =>
      obtain ⟨a, e1, g1, f1, c1⟩ := h
      have z : ¬ S a := fun z => hs a z i o e e1
      exact ⟨a, e1, g1, by rw [hF a z]; exact f1, c1.mono (Sub.refl _) (hH a z)⟩
end
/-- the lists of the dict, where they stand -/
abbrev Ent := Key × Addr × List V
def ksOf (ls : List Ent) : List (Key × V) := ls.map fun t => (t.1, V.ref t.2.1)
def frA (Fr : Hp) (a : Addr) (ls : List Ent) : Hp := fun x => if x = a then some (.dK (ksOf ls)) else match ls.find? (fun t => t.2.1 == x) with
  | some t => some (.lst t.2.2)
  | none => Fr x
inductive LK (K : PySem.W.Frag) (G : Hp) : List Ent → List (Dv × List Dv) → Prop
  | nil : LK K G [] []
  | cons {k : Key} {b : Addr} {vs : List V} {ds : List Dv} {r : List Ent} {s : List (Dv × List Dv)} : DpAll K G vs ds → LK K G r s → LK K G ((k, b, vs) :: r) ((keyD k, ds) :: s)
theorem LK.mono {K : PySem.W.Frag} {G G' : Hp} (su : Sub G G') : ∀ {ls : List Ent} {kvs : List (Dv × List Dv)}, LK K G ls kvs → LK K G' ls kvs
  | _, _, .nil => .nil
  | _, _, .cons h t => .cons (dpAll_mono su _ _ h) (t.mono su)
theorem LK.length {K : PySem.W.Frag} {G : Hp} : ∀ {ls : List Ent} {kvs : List (Dv × List Dv)}, LK K G ls kvs → ls.length = kvs.length
  | _, _, .nil => rfl
  | _, _, .cons _ t => by simp [t.length]
/-- the value that a key has -/
theorem lk_find {K : PySem.W.Frag} {G : Hp} (k : Key) (e : Dv) : ∀ {ls : List Ent} {kvs : List (Dv × List Dv)}, LK K G ls kvs →
    (valV (ksOf ls) k = none ∧ addK kvs (keyD k) e = kvs ++ [(keyD k, [e])]) ∨
    ∃ (l1 : List Ent) (b : Addr) (vs : List V) (l2 : List Ent) (ds : List Dv), ls = l1 ++ (k, b, vs) :: l2 ∧ valV (ksOf ls) k = some (.ref b) ∧ DpAll K G vs ds ∧ (keyD k, ds) ∈ kvs ∧
      (∀ (G' : Hp) (vs' : List V), Sub G G' → DpAll K G' vs' (ds ++ [e]) → LK K G' (l1 ++ (k, b, vs') :: l2) (addK kvs (keyD k) e))
  | _, _, .nil => .inl ⟨rfl, rfl⟩
  | _, _, .cons (k := k0) (b := b0) (vs := vs0) (ds := ds0) (r := r) (s := s) h t => by
    by_cases z : k0 = k
    · subst z
      refine .inr ⟨[], b0, vs0, r, ds0, rfl, valV_pos rfl, h, List.mem_cons_self .., fun G' vs' su q => ?_⟩
      unfold addK
      rw [eqKey_keyD, if_pos (by simp)]
      exact .cons q (t.mono su)
    · rcases lk_find k e t with ⟨h1, h2⟩ | ⟨l1, b, vs, l2, ds, e1, h1, h2, h3, h4⟩
      · refine .inl ⟨?_, ?_⟩
        · show valV ((k0, V.ref b0) :: ksOf r) k = none
          rw [valV_neg z]
          exact h1
        · unfold addK
          rw [eqKey_keyD, if_neg (by simp [z]), h2]
          rfl
      · refine .inr ⟨(k0, b0, vs0) :: l1, b, vs, l2, ds, by rw [e1]; rfl, ?_, h2, List.mem_cons_of_mem _ h3, fun G' vs' su q => ?_⟩
        · show valV ((k0, V.ref b0) :: ksOf r) k = some (.ref b)
          rw [valV_neg z]
          exact h1
        · unfold addK
          rw [eqKey_keyD, if_neg (by simp [z])]
          exact .cons (dpAll_mono su _ _ h) (h4 G' vs' su q)
theorem lk_snoc {K : PySem.W.Frag} {G : Hp} {k : Key} {b : Addr} {vs : List V} {ds : List Dv} (q : DpAll K G vs ds) : ∀ {ls : List Ent} {kvs : List (Dv × List Dv)}, LK K G ls kvs → LK K G (ls ++ [(k, b, vs)]) (kvs ++ [(keyD k, ds)])
  | _, _, .nil => .cons q .nil
  | _, _, .cons h t => .cons h (lk_snoc q t)
theorem find_mid {l1 l2 : List Ent} {k : Key} {b : Addr} {vs : List V} (nd : ((l1 ++ (k, b, vs) :: l2).map (·.2.1)).Nodup) : (l1 ++ (k, b, vs) :: l2).find? (fun t => t.2.1 == b) = some (k, b, vs) := by
  rw [List.map_append, List.map_cons] at nd
  have h1 : ∀ t ∈ l1, t.2.1 ≠ b := fun t ht e => by
    have := (List.nodup_append.mp nd).2.2 t.2.1 (List.mem_map.mpr ⟨t, ht, rfl⟩) b (List.mem_cons_self ..)
    exact this e
  rw [List.find?_append, List.find?_eq_none.mpr (fun t ht => by simpa using h1 t ht)]
  simp
theorem find_other {l1 l2 : List Ent} {k : Key} {b : Addr} {vs vs' : List V} {x : Addr} (hx : x ≠ b) : ((l1 ++ (k, b, vs) :: l2).find? (fun t => t.2.1 == x)) = ((l1 ++ (k, b, vs') :: l2).find? (fun t => t.2.1 == x)) := by
  rw [List.find?_append, List.find?_append]
  congr 1
  rw [List.find?_cons_of_neg (by simpa using fun e => hx e.symm), List.find?_cons_of_neg (by simpa using fun e => hx e.symm)]
theorem find_none {ls : List Ent} {x : Addr} : ls.find? (fun t => t.2.1 == x) = none ↔ x ∉ ls.map (·.2.1) := by
  rw [List.find?_eq_none]
  simp only [List.mem_map, not_exists, not_and, beq_iff_eq]
theorem ksOf_put {k : Key} {q : Addr} : ∀ {ls : List Ent}, valV (ksOf ls) k = none → putK (ksOf ls) k (.ref q) = ksOf (ls ++ [(k, q, [])])
  | ls, h => by
    have h2 : (ksOf ls).any (fun p => decide (p.1 = k)) = false := by
      induction ls with
      | nil => rfl
      | cons t ls ih =>
        obtain ⟨k0, b0, vs0⟩ := t
        by_cases z : k0 = k
        · rw [show ksOf ((k0, b0, vs0) :: ls) = (k0, V.ref b0) :: ksOf ls from rfl, valV_pos z] at h
          cases h
        · rw [show ksOf ((k0, b0, vs0) :: ls) = (k0, V.ref b0) :: ksOf ls from rfl, valV_neg z] at h
          show (decide (k0 = k) || (ksOf ls).any _) = false
          rw [ih h]
          simp [z]
    unfold putK
    rw [h2]
    simp [ksOf]
/-- what stands at an address of a list -/
theorem frA_b {Fr : Hp} {a : Addr} {l1 l2 : List Ent} {k : Key} {b : Addr} {vs : List V} (nd : ((l1 ++ (k, b, vs) :: l2).map (·.2.1)).Nodup) (ha : b ≠ a) : frA Fr a (l1 ++ (k, b, vs) :: l2) b = some (.lst vs) := by
  unfold frA
  rw [if_neg ha, find_mid nd]
theorem frA_a {Fr : Hp} {a : Addr} {ls : List Ent} : frA Fr a ls a = some (.dK (ksOf ls)) := if_pos rfl
theorem frA_o {Fr : Hp} {a : Addr} {ls : List Ent} {x : Addr} (h1 : x ≠ a) (h2 : x ∉ ls.map (·.2.1)) : frA Fr a ls x = Fr x := by
  unfold frA
  rw [if_neg h1, find_none.mpr h2]
theorem ksOf_set {l1 l2 : List Ent} {k : Key} {b : Addr} {vs vs' : List V} : ksOf (l1 ++ (k, b, vs') :: l2) = ksOf (l1 ++ (k, b, vs) :: l2) := by
  simp [ksOf]
end DL
namespace DL
open PySem PySem.Spec PyProof.Rows L2
theorem frA_f {Fr : Hp} {a x : Addr} {ls : List Ent} {t : Ent} (h : x ≠ a) (f : ls.find? (fun t => t.2.1 == x) = some t) : frA Fr a ls x = some (.lst t.2.2) := by
  unfold frA
  rw [if_neg h, f]
def shG (G : Hp) (ls : List Ent) : Hp := fun x => match ls.find? (fun t => t.2.1 == x) with
  | some t => some (.lst t.2.2)
  | none => G x
theorem shG_o {G : Hp} {ls : List Ent} {x : Addr} (h : x ∉ ls.map (·.2.1)) : shG G ls x = G x := by
  unfold shG
  rw [find_none.mpr h]
theorem find_in {ls : List Ent} {x : Addr} (h : x ∈ ls.map (·.2.1)) : ∃ t ∈ ls, t.2.1 = x ∧ ls.find? (fun t => t.2.1 == x) = some t := by
  cases e : ls.find? (fun t => t.2.1 == x) with
  | none => exact absurd h (find_none.mp e)
  | some t => exact ⟨t, List.mem_of_find?_eq_some e, by simpa using List.find?_some e, rfl⟩
theorem lk_dkv {K : PySem.W.Frag} {G1 G : Hp} (su : Sub G1 G) : ∀ {ls : List Ent} {kvs : List (Dv × List Dv)}, LK K G1 ls kvs → (∀ t ∈ ls, G t.2.1 = some (.lst t.2.2)) → DKV K G (ksOf ls) (shK kvs)
  | _, _, .nil, _ => .nil
  | _, _, .cons (b := b) (vs := vs) h t, hG => .cons (.lst (.inl (.inl (hG _ (List.mem_cons_self ..)))) (dpAll_mono su _ _ h)) (lk_dkv su t fun u hu => hG u (List.mem_cons_of_mem _ hu))
theorem nodup_find {ls : List Ent} (nd : (ls.map (·.2.1)).Nodup) {t : Ent} (h : t ∈ ls) : ls.find? (fun u => u.2.1 == t.2.1) = some t := by
  obtain ⟨l1, l2, rfl⟩ := List.append_of_mem h
  obtain ⟨k, b, vs⟩ := t
  exact find_mid nd
/-- the end of the loop: the lists are shared, the dict is the slot's -/
theorem sdf_end {K : PySem.W.Frag} {ix : List Nat} {Fr G1 H1 : Hp} {FX : Nat → Option V} {ρ1 : Rho} {σ1 : L2.St} {a : Addr} {i : Nat} {ls : List Ent} {kvs : List (Dv × List Dv)} (R1 : RS K ix (frA Fr a ls) FX G1 ρ1 σ1 H1) (hi : i < ρ1.length) (ea1 : σ1[i]? = some (some (.ref a))) (lk : LK K G1 ls kvs) (nd : (ls.map (·.2.1)).Nodup) (na : a ∉ ls.map (·.2.1)) (nf : ∀ b ∈ ls.map (·.2.1), Fr b = none) (fa : Fr a = none) :
    Sub G1 (shG G1 ls) ∧ RS K ix Fr FX (shG G1 ls) (ρ1.set i (.ow (.dct (shK kvs)))) σ1 H1 := by
  have gb : ∀ b ∈ ls.map (·.2.1), G1 b = none := fun b hb => R1.gf b (by
    obtain ⟨t, ht, e, f⟩ := find_in hb
    have hba : b ≠ a := fun z => by subst z; exact na hb
    rw [frA_f hba f]
    simp)
  have ga : G1 a = none := R1.gf a (by rw [frA_a]; simp)
  have le : ∀ x o, G1 x = some o → shG G1 ls x = some o := fun x o e => by
    rw [shG_o (fun z => by rw [gb x z] at e; cases e)]
    exact e
  have su : Sub G1 (shG G1 ls) := sub_le le
  have hb : ∀ t ∈ ls, shG G1 ls t.2.1 = some (.lst t.2.2) := fun t ht => by
    unfold shG
    rw [nodup_find nd ht]
  have hHb : ∀ t ∈ ls, H1 t.2.1 = some (.lst t.2.2) := fun t ht => R1.fh _ _ (frA_f (fun z => na (z ▸ List.mem_map.mpr ⟨t, ht, rfl⟩)) (nodup_find nd ht))
  refine ⟨su, ?_, ?_, ?_, by simp [R1.len], ?_, ?_, R1.fx⟩
  · intro x o e
    by_cases hx : x ∈ ls.map (·.2.1)
    · obtain ⟨t, ht, rfl⟩ := List.mem_map.mp hx
      rw [hb t ht] at e
      cases e
      exact hHb t ht
    · rw [shG_o hx] at e
      exact R1.gh x o e
  · intro x o e
    refine R1.fh x o ?_
    rw [frA_o (fun z => by rw [z, fa] at e; cases e) (fun z => by rw [nf x z] at e; cases e)]
    exact e
  · intro x n
    have hx : x ∉ ls.map (·.2.1) := fun z => n (nf x z)
    rw [shG_o hx]
    refine R1.gf x ?_
    have hxa : x ≠ a := fun z => by subst z; exact n fa
    rw [frA_o hxa hx]
    exact n
  · intro n s e
    by_cases hn : i = n
    · subst hn
      rw [List.getElem?_set_self hi] at e
      cases e
      exact ⟨a, ea1, by rw [shG_o na]; exact ga, fa, ksOf ls, R1.fh a _ frA_a, lk_dkv su lk hb⟩
    · rw [List.getElem?_set_ne hn] at e
      refine SlOk.mono (Fr := Fr) (H := H1) ?_ su ?_
      · have h := R1.sl n s e
        cases s with
        | no => trivial
        | sh d => exact h
        | fd d => exact h
        | ow o =>
          obtain ⟨b, e1, g1, f1, c1⟩ := h
          have hba : b ≠ a := fun z => by rw [z, frA_a] at f1; cases f1
          have hbl : b ∉ ls.map (·.2.1) := fun z => by
            obtain ⟨t, ht, e, f⟩ := find_in z
            rw [frA_f hba f] at f1
            cases f1
          rw [frA_o hba hbl] at f1
          exact ⟨b, e1, g1, f1, c1⟩
      · intro b o e1 es g1 f1
        subst es
        refine ⟨?_, rfl⟩
        obtain ⟨b', e1', g1', f1', c1'⟩ := R1.sl n _ e
        rw [e1] at e1'
        cases e1'
        have hbl : b ∉ ls.map (·.2.1) := fun z => by
          obtain ⟨t, ht, e, f⟩ := find_in z
          rw [frA_f (fun z => by rw [z, frA_a] at f1'; cases f1') f] at f1'
          cases f1'
        rw [shG_o hbl]
        exact g1
  · intro n l b o o' hne e1 e2 e3 e4
    have key : ∀ l o', (ρ1.set i (.ow (.dct (shK kvs))))[l]? = some (.ow o') → l ≠ i → σ1[l]? ≠ some (some (.ref a)) := fun l o' e hl e4 => by
      rw [List.getElem?_set_ne (fun z => hl z.symm)] at e
      obtain ⟨b', e1', g1', f1', c1'⟩ := R1.sl l _ e
      rw [e4] at e1'
      cases e1'
      rw [frA_a] at f1'
      cases f1'
    by_cases hn : n = i
    · subst hn
      rw [ea1] at e3
      cases e3
      exact key l o' e2 (fun z => hne z.symm) e4
    · by_cases hl : l = i
      · subst hl
        rw [ea1] at e4
        cases e4
        exact key n o e1 hn e3
      · rw [List.getElem?_set_ne (fun z => hn z.symm)] at e1
        rw [List.getElem?_set_ne (fun z => hl z.symm)] at e2
        exact R1.sep n l b o o' hne e1 e2 e3 e4
section
variable {X : Cx} {ix : List Nat} {fi : ML} {fk fe : M} {i j : Nat} {dn : Str} {tg iter ke le ae : Expr} {pn ap1 cp1 ap2 cp2 ep pos : Pos}
theorem ds_sdf (hp : PassesOwn (model X.prog X.w) X.A X.env X.xe) (hc : X.calm = true) (hij : i ≠ j) (hjx : j ∉ ix) (hi : PI X tg iter (TI' X.K ix fi)) (hg : PG X tg (gName j)) (hv : PE X (.Name dn pn) (tVar i)) (hk : PE X ke (TE' X.K ix fk)) (hl : PE X le (TE' X.K ix (eLst aNil))) (ha : PE X ae (TE' X.K ix fe))
    (m : M2 X (.Name dn pn) "setdefault" ap1 ke le cp1)
    (hb : ∀ (to : TE) (t : TA), PE X (.Call (.Attribute (.Name dn pn) "setdefault" ap1) [ke, le] [] cp1) to → PA X [ae] t → PE X (.Call (.Attribute (.Call (.Attribute (.Name dn pn) "setdefault" ap1) [ke, le] [] cp1) "append" ap2) [ae] [] cp2) (tBM X.K "list" (RMd X.K appG) to t))
    (hs : swapsWith (.Call (.Attribute (.Call (.Attribute (.Name dn pn) "setdefault" ap1) [ke, le] [] cp1) "append" ap2) [ae] [] cp2) none ep.line X.env = pure false)
    (hf : ∀ x, foldedSetIterable iter X.env x = pure x) (hst : starEach [ae] X.env = (false, eval ae X.env) :: starEach [] X.env) :
    PS X (.For tg iter [.Expr (.Call (.Attribute (.Call (.Attribute (.Name dn pn) "setdefault" ap1) [ke, le] [] cp1) "append" ap2) [ae] [] cp2) ep] [] pos) (TS' X.K ix (sSdf i j fi fk fe)) :=
  ps_imp (ps_for hp hc hi hg (pss_one (ps_expr (hb _ _ (pe_dsetd hv (de_pk hk) hl m) (da_cons (de_fr ha) da_nil hst)) hs)) hf) fun D σ H ⟨Fr, FX, G, ρ, fl, R, h0, k⟩ => by
    unfold sSdf at h0
    obtain ⟨⟨ds, ρ0⟩, h1, h0⟩ := Option.bind_eq_some_iff.mp h0
    simp only at h0
    split at h0
    rotate_left
    · cases h0
    rename_i hslot
    obtain ⟨⟨kvsF, ρF⟩, h2, h0⟩ := Option.bind_eq_some_iff.mp h0
    cases h0
    refine ⟨Fr, FX, G, ρ, ds, ρ0, R, h1, fun J G0 H0 s0 R0 jk => ?_⟩
    obtain ⟨a, ea, ga, fa, ks0, hH0, q0⟩ := R0.sl i _ hslot
    cases q0
    have R0' : RS X.K ix (frA Fr a []) FX G0 (ρ0.set i .no) σ H0 := by
      have R1 := R0.weak (i := i) (s := .no) trivial (fun o z => nomatch z)
      refine R1.reframe (fun x => x = a) (fun x z => z ▸ ga) (fun x z n o e1 e2 => ?_) (fun _ _ => rfl) (fun x z => frA_o z (by simp)) (fun x o z e => ?_)
      · subst z
        by_cases hn : i = n
        · subst hn
          have hlt : i < ρ0.length := (List.getElem?_eq_some_iff.mp hslot).1
          rw [List.getElem?_set_self hlt] at e1
          cases e1
        · rw [List.getElem?_set_ne hn] at e1
          exact R0.sep i n x _ _ hn hslot e1 ea e2
      · subst z
        rw [frA_a] at e
        cases e
        exact hH0
    have him : i < ρ0.length := (List.getElem?_eq_some_iff.mp hslot).1
    refine ⟨fun n m σ H => m = ds.length - n ∧ n ≤ ds.length ∧ ∃ G1 ρ1 kvs ls, Sub G0 G1 ∧ σ[i]? = some (some (.ref a)) ∧ ρ1.length = ρ0.length ∧ RS X.K ix (frA Fr a ls) FX G1 ρ1 σ H ∧ LK X.K G1 ls kvs ∧ (ls.map (·.2.1)).Nodup ∧ a ∉ ls.map (·.2.1) ∧ (∀ b ∈ ls.map (·.2.1), Fr b = none) ∧
      sdfL j fk fe (ds.drop n) kvs ρ1 = some (kvsF, ρF), ⟨ds.length, by simp, Nat.zero_le _, G0, ρ0.set i .no, [], [], Sub.refl _, ea, by simp, R0', .nil, by simp, by simp, by simp, h2⟩, ?_⟩
    rintro n m σ1 H1 ⟨rfl, hle, G1, ρ1, kvs, ls, s1, ea1, hlen, R1, lk, nd, na, nf, e1⟩
    obtain ⟨j1, j2⟩ := jk n G1 H1 s1 R1.gh
    by_cases hlt : n < ds.length
    rotate_left
    · refine .inl ⟨j2 (by omega), ?_⟩
      rw [List.drop_eq_nil_of_le (by omega)] at e1
      cases e1
      obtain ⟨su, R2⟩ := sdf_end R1 (by omega) ea1 lk nd na nf fa
      exact k _ _ _ ((s0.trans s1).trans su) (R2.weak (i := j) (s := .no) trivial (fun o z => nomatch z))
    have hd : ds[n]? = some ds[n] := List.getElem?_eq_getElem hlt
    obtain ⟨j3, j4⟩ := j1 _ hd
    rw [List.drop_eq_getElem_cons hlt] at e1
    unfold sdfL at e1
    obtain ⟨⟨r1, ρ2⟩, e2, e1⟩ := Option.bind_eq_some_iff.mp e1
    simp only at e1
    split at e1
    rotate_left
    · cases e1
    rename_i kk
    obtain ⟨⟨r2, ρ3⟩, e3, e1⟩ := Option.bind_eq_some_iff.mp e1
    simp only at e1
    split at e1
    rotate_left
    · cases e1
    rename_i e
    split at e1
    rotate_left
    · cases e1
    rename_i hsz
    refine .inr ⟨j3, fun σ H => ∃ G1 ρ1 kvs ls, Sub G0 G1 ∧ σ[i]? = some (some (.ref a)) ∧ ρ1.length = ρ0.length ∧ RS X.K ix (frA Fr a ls) FX G1 ρ1 σ H ∧ LK X.K G1 ls kvs ∧ (ls.map (·.2.1)).Nodup ∧ a ∉ ls.map (·.2.1) ∧ (∀ b ∈ ls.map (·.2.1), Fr b = none) ∧
      sdfL j fk fe (ds.drop (n + 1)) kvs ρ1 = some (kvsF, ρF), fun σ' H' w => ⟨ds.length - (n + 1), by omega, rfl, hlt, w⟩, fun x H2 y => ?_⟩
    have key : ∃ G2, Sub G1 G2 ∧ RS X.K ix (frA Fr a ls) FX G2 ρ1 σ1 H2 ∧ Dp X.K G2 x ds[n] := by
      rcases j4 x H2 y with ⟨rfl, q⟩ | ⟨p, o, hp, rfl, q⟩
      · exact ⟨G1, Sub.refl _, R1, q⟩
      · exact ⟨_, sub_upd (R1.none_of hp).1, R1.newG hp, q⟩
    obtain ⟨G2, s2, R2, q⟩ := key
    have R3 := R2.set (i := j) (v := x) (s := .sh ds[n]) hjx ⟨x, rfl, q⟩ (fun o a z => nomatch z)
    have ea3 : (σ1.set j (some x))[i]? = some (some (.ref a)) := by rw [List.getElem?_set_ne (fun z => hij z.symm)]; exact ea1
    have hlen3 : (σ1.set j (some x)).length = ρ0.length := by rw [List.length_set, ← R1.len, hlen]
    have harg : aCons (frM fe) aNil ρ2 = some ([.sh e], ρ3) := by
      unfold aCons
      rw [e3]
      rfl
    have fin : ∀ (G4 H4 : Hp) (l1 l2 : List Ent) (b : Addr) (vs : List V) (dsb : List Dv), Sub G0 G4 → RS X.K ix (frA Fr a (l1 ++ (.inl kk, b, vs) :: l2)) FX G4 ρ2 (σ1.set j (some x)) H4 → ((l1 ++ (.inl kk, b, vs) :: l2).map (·.2.1)).Nodup → a ∉ (l1 ++ (.inl kk, b, vs) :: l2).map (·.2.1) →
        (∀ b' ∈ (l1 ++ (.inl kk, b, vs) :: l2).map (·.2.1), Fr b' = none) → DpAll X.K G4 vs dsb → dsb.length < sizeLine → (∀ (G' : Hp) (vs' : List V), Sub G4 G' → DpAll X.K G' vs' (dsb ++ [e]) → LK X.K G' (l1 ++ (.inl kk, b, vs') :: l2) (addK kvs (.int kk) e)) →
        tyV X.K "list" (.ref b) H4 ∧ TA' X.K ix (aCons (frM fe) aNil) (σ1.set j (some x)) H4 fun xs H5 => RMd X.K appG (.ref b) xs H5 fun _ H6 => ∃ G1 ρ1 kvs ls, Sub G0 G1 ∧ (σ1.set j (some x))[i]? = some (some (.ref a)) ∧ ρ1.length = ρ0.length ∧ RS X.K ix (frA Fr a ls) FX G1 ρ1 (σ1.set j (some x)) H6 ∧ LK X.K G1 ls kvs ∧ (ls.map (·.2.1)).Nodup ∧ a ∉ ls.map (·.2.1) ∧ (∀ b ∈ ls.map (·.2.1), Fr b = none) ∧
      sdfL j fk fe (ds.drop (n + 1)) kvs ρ1 = some (kvsF, ρF) := by
      intro G4 H4 l1 l2 b vs dsb s4 R5 nd5 na5 nf5 q5 hz5 hlk
      have hba : b ≠ a := fun z => by subst z; exact na5 (by simp)
      have hH : H4 b = some (.lst vs) := R5.fh b _ (frA_b nd5 hba)
      refine ⟨.inl ⟨rfl, vs, .inl (.inl hH)⟩, frA Fr a (l1 ++ (.inl kk, b, vs) :: l2), FX, G4, ρ2, [.sh e], ρ3, R5, harg, fun vs2 G5 H5 s5 R6 v6 => ?_⟩
      have gb : G5 b = none := R6.gf b (by rw [frA_b nd5 hba]; simp)
      refine ⟨G5, b, .lst dsb, [e], .lst (dsb ++ [e]), .none, rfl, R6.gh, gb, ⟨vs, R6.fh b _ (frA_b nd5 hba), dpAll_mono s5 _ _ q5⟩, shs_dp v6 rfl, by unfold appG; simp only; rw [if_pos hz5], fun v' u' c' q' => ?_⟩
      obtain ⟨vs', hu', dq'⟩ := c'
      rw [upd_same] at hu'
      cases hu'
      have hmap : ∀ w : List V, (l1 ++ (Sum.inl kk, b, w) :: l2).map (·.2.1) = (l1 ++ (Sum.inl kk, b, vs) :: l2).map (·.2.1) := fun w => by simp
      have nd' : ((l1 ++ (Sum.inl kk, b, vs') :: l2).map (·.2.1)).Nodup := by rw [hmap]; exact nd5
      refine ⟨G5, ρ3, addK kvs (.int kk) e, l1 ++ (.inl kk, b, vs') :: l2, s4.trans s5, ea3, by rw [R6.len]; exact hlen3, ?_, hlk G5 vs' s5 dq', nd', by rw [hmap]; exact na5, by rw [hmap]; exact nf5, e1⟩
      refine R6.reframe (fun y => y = b) (fun y z => z ▸ gb) (fun y z m o w1 w2 => ?_) (fun y z => upd_ne z) (fun y z => ?_) (fun y o z w => ?_)
      · subst z
        obtain ⟨b', w3, _, w4, _⟩ := R6.sl m _ w1
        rw [w2] at w3
        cases w3
        rw [frA_b nd5 hba] at w4
        cases w4
      · by_cases hy : y = a
        · subst hy
          rw [frA_a, frA_a, ksOf_set (vs := vs)]
        · unfold frA
          rw [if_neg hy, if_neg hy, find_other (vs := vs') (vs' := vs) z]
      · subst z
        rw [frA_b nd' hba] at w
        cases w
        exact upd_same
    refine ⟨.ref a, ea3, a, rfl, .inl ⟨_, .inl (R3.fh a _ frA_a)⟩, frA Fr a ls, FX, G2, _, _, ρ2, R3, e2, fun y G3 H3 s3 R4 v4 => ?_⟩
    have hy : y = .int kk := by
      have v4' : Dp X.K G3 y (.int kk) := v4
      cases v4'
      rfl
    subst hy
    refine ⟨frA Fr a ls, FX, G3, ρ2, .ow (.lst []), ρ2, R4, rfl, fun z G4 H4 s4 R5 v5 => ?_⟩
    obtain ⟨q0, rfl, gq, fq, ⟨vsq, hq, dq⟩, nq⟩ := v5
    cases dq
    have su4 : Sub G1 G4 := (s2.trans s3).trans s4
    have lk4 := lk.mono su4
    have hszl := szl_big
    refine ⟨ksOf ls, .inl kk, R5.fh a _ frA_a, rfl, by rw [show (ksOf ls).length = ls.length from List.length_map .., lk.length]; omega, fun v hv => ?_, fun hn => ?_⟩
    · rcases lk_find (.inl kk) e lk4 with ⟨h1, _⟩ | ⟨l1, b, vs, l2, dsb, rfl, h1, h2, h3, h4⟩
      · rw [hv] at h1
        cases h1
      · rw [hv] at h1
        cases h1
        have h5 : dsb.length < 100000 := of_decide_eq_true (List.all_eq_true.mp hsz.2 _ h3)
        exact fin G4 H4 l1 l2 b vs dsb (s1.trans su4) R5 nd na nf h2 (by omega) h4
    · rcases lk_find (.inl kk) e lk4 with ⟨_, h2⟩ | ⟨l1, b, vs, l2, dsb, _, h1, _⟩
      rotate_left
      · rw [hn] at h1
        cases h1
      rw [ksOf_put hn]
      have hqa : q0 ≠ a := fun z => by subst z; rw [frA_a] at fq; cases fq
      have hql : q0 ∉ ls.map (·.2.1) := fun z => by
        obtain ⟨t, ht, _, f⟩ := find_in z
        rw [frA_f hqa f] at fq
        cases fq
      have fq' : Fr q0 = none := by rw [frA_o hqa hql] at fq; exact fq
      have nd' : ((ls ++ ([(.inl kk, q0, [])] : List Ent)).map (·.2.1)).Nodup := by
        rw [List.map_append]
        refine List.nodup_append.mpr ⟨nd, by simp, fun u hu w hw z => ?_⟩
        simp at hw
        subst hw
        subst z
        exact hql hu
      have na' : a ∉ (ls ++ ([(.inl kk, q0, [])] : List Ent)).map (·.2.1) := by
        rw [List.map_append, List.mem_append]
        rintro (z | z)
        · exact na z
        · simp at z
          exact hqa z.symm
      have nf' : ∀ b ∈ (ls ++ ([(.inl kk, q0, [])] : List Ent)).map (·.2.1), Fr b = none := fun b hb => by
        rw [List.map_append, List.mem_append] at hb
        rcases hb with hb | hb
        · exact nf b hb
        · simp at hb
          subst hb
          exact fq'
      refine fin G4 _ ls [] q0 [] [] (s1.trans su4) ?_ nd' na' nf' .nil (by simp; omega) (fun G' vs' su q => ?_)
      · refine R5.reframe (fun y => y = a ∨ y = q0) (fun y z => ?_) (fun y z m o w1 w2 => ?_) (fun y z => upd_ne fun w => z (.inl w)) (fun y z => ?_) (fun y o z w => ?_)
        · rcases z with rfl | rfl
          · exact R5.gf _ (by rw [frA_a]; simp)
          · exact gq
        · rcases z with rfl | rfl
          · obtain ⟨b', w3, _, w4, _⟩ := R5.sl m _ w1
            rw [w2] at w3
            cases w3
            rw [frA_a] at w4
            cases w4
          · exact nq m o w1 w2
        · have hya : y ≠ a := fun w => z (.inl w)
          have hyq : y ≠ q0 := fun w => z (.inr w)
          unfold frA
          rw [if_neg hya, if_neg hya, List.find?_append]
          rw [List.find?_cons_of_neg (by simpa using fun w => hyq w.symm)]
          simp
        · rcases z with rfl | rfl
          · rw [frA_a] at w
            cases w
            exact upd_same
          · rw [frA_b (l2 := []) nd' hqa] at w
            cases w
            rw [upd_ne hqa]
            exact hq
      · rw [show addK kvs (.int kk) e = kvs ++ [(keyD (.inl kk), [e])] from h2]
        exact lk_snoc (by simpa using q) (lk4.mono su)
end
end DL
namespace DL
open PySem PySem.Spec PyProof.Rows L2
/-! ### d.get(k, v), d a dict with ints or texts as keys -/
def isDct : Option Sl → Bool
  | some (.ow (.dct _)) => true
  | _ => false
def eDGet (fo fk fd : M) : M := fun ρ => (fo ρ).bind fun x => match x.1 with
  | .al i => if isDct x.2[i]? = true then (pkM fk x.2).bind fun y => (dat y.2 y.1).bind fun k => (frM fd y.2).bind fun z => (match z.1, z.2[i]? with
    | .sh d0, some (.ow (.dct kvs)) => if isKey k = true then some (.sh ((getD kvs k).getD d0), z.2) else none
    | _, _ => none) else none
  | _ => none
section
variable {X : Cx} {ix : List Nat} {o e f : Expr} {fo fk fd : M} {apos cpos : Pos}
theorem de_dget (hu : X.A.units + 1 < cLine) (ho : PE X o (TE' X.K ix fo)) (he : PE X e (TE' X.K ix fk)) (hf : PE X f (TE' X.K ix fd)) (m : M2 X o "get" apos e f cpos) : PE X (.Call (.Attribute o "get" apos) [e, f] [] cpos) (TE' X.K ix (eDGet fo fk fd)) :=
  pe_imp (pe_dget2 hu ho (de_pk he) (de_fr hf) m) fun σ H Q ⟨Fr, FX, G, ρ, r, ρ', R, h, k⟩ => by
    unfold eDGet at h
    obtain ⟨⟨r0, ρ0⟩, h0, h⟩ := Option.bind_eq_some_iff.mp h
    cases r0 with
    | sh d => cases h
    | ow d => cases h
    | fd d => cases h
    | al i =>
      simp only at h
      split at h
      rotate_left
      · cases h
      rename_i hd0
      obtain ⟨⟨r1, ρ1⟩, h1, h⟩ := Option.bind_eq_some_iff.mp h
      obtain ⟨kd, h2, h⟩ := Option.bind_eq_some_iff.mp h
      obtain ⟨⟨r2, ρ2⟩, h3, h⟩ := Option.bind_eq_some_iff.mp h
      simp only at h
      split at h
      rotate_left
      · cases h
      rename_i d0 kvs hs
      split at h
      rotate_left
      · cases h
      rename_i hk
      cases h
      refine ⟨Fr, FX, G, ρ, .al i, ρ0, R, h0, fun x G1 H1 s1 R1 v1 => ?_⟩
      have ev : σ[i]? = some (some x) := v1
      unfold isDct at hd0
      split at hd0
      rotate_left
      · cases hd0
      rename_i kvs0 hs0
      obtain ⟨a, ea, g1, f1, ks1, hv1, q1⟩ := R1.sl i _ hs0
      rw [ev] at ea
      cases ea
      refine ⟨a, rfl, .inl ⟨ks1, .inl hv1⟩, Fr, FX, G1, ρ0, r1, ρ1, R1, h1, fun y G2 H2 s2 R2 v2 => ?_⟩
      refine ⟨Fr, FX, G2, ρ1, .sh d0, ρ', R2, h3, fun z G3 H3 s3 R3 v3 => ?_⟩
      obtain ⟨a', ea', g3, f3, ks3, hv3, q3⟩ := R3.sl i _ hs
      rw [ev] at ea'
      cases ea'
      obtain ⟨k', rfl⟩ := isKey_of hk
      have hy := vd_key (dat_vd R2 v2 h2)
      subst hy
      refine ⟨valV ks3 k', DGet.k hv3, ?_⟩
      rcases dkv_get (k := k') q3 with ⟨d, v, e1, e2, e3⟩ | ⟨e1, e2⟩
      · rw [e2]
        rw [e1] at k
        exact k v G3 H3 ((s1.trans s2).trans s3) R3 e3
      · rw [e2]
        rw [e1] at k
        exact k z G3 H3 ((s1.trans s2).trans s3) R3 v3
end
end DL

set_option Elab.async false
set_option linter.all false
set_option autoImplicit false
set_option maxRecDepth 100000
set_option maxHeartbeats 1000000
namespace DL
open PySem PySem.Spec PyProof.Rows L2
/-! ### xs.index(x), xs a list known as data; xs.pop() -/
def idxN (ds : List Dv) (d : Dv) : Option Nat := if SeqAt.shaped (.list ds) = true ∧ SeqAt.shaped d = true then ds.findIdx? (fun z => PyData.eqv z d) else none
def eIdx (fo : M) (ga : MA) : M := fun ρ => (fo ρ).bind fun x => (ga x.2).bind fun y => match x.1, y.1 with
  | .sh (.list ds), [.sh d] => (idxN ds d).map fun j => (.sh (.int (j : Nat)), y.2)
  | _, _ => none
section
variable {X : Cx} {ix : List Nat} {fo : M} {ga : MA}
theorem idx_ok {σ : L2.St} {H : Hp} {Q : VK} (h : TE' X.K ix (eIdx fo ga) σ H Q) : tBM X.K "list" (rIndexD X.K) (TE' X.K ix fo) (TA' X.K ix ga) σ H Q := by
  obtain ⟨Fr, FX, G, ρ, r, ρ', R, hf, k⟩ := h
  unfold eIdx at hf
  obtain ⟨⟨r0, ρ0⟩, h0, hf⟩ := Option.bind_eq_some_iff.mp hf
  obtain ⟨⟨rs, ρ1⟩, h1, hf⟩ := Option.bind_eq_some_iff.mp hf
  simp only at hf h1
  split at hf
  rotate_left
  · cases hf
  rename_i _ ds d _
  obtain ⟨j, hj, hf⟩ := Option.map_eq_some_iff.mp hf
  cases hf
  unfold idxN at hj
  split at hj
  rotate_left
  · cases hj
  rename_i hc
  obtain ⟨z, hz, hzj, hno⟩ : ∃ z, ds[j]? = some z ∧ PyData.eqv z d = true ∧ ∀ (m : Nat) (z' : PyData), m < j → ds[m]? = some z' → PyData.eqv z' d = false := by
    obtain ⟨hl, h2, h3⟩ := List.findIdx?_eq_some_iff_getElem.mp hj
    refine ⟨ds[j], List.getElem?_eq_getElem hl, h2, fun m z' hm hz => ?_⟩
    have := h3 m hm
    obtain ⟨hm2, rfl⟩ := List.getElem?_eq_some_iff.mp hz
    simpa using this
  refine ⟨Fr, FX, G, ρ, _, ρ0, R, h0, fun v G1 H1 s1 R1 v1 => ?_⟩
  have v1 : Dp X.K G1 v (.list ds) := v1
  have v1' := dp_mono (sub_le R1.gh) _ _ v1
  have ty : tyV X.K "list" v H1 := by
    cases v1' with
    | lst hs ha => exact .inl ⟨rfl, _, hs⟩
  refine ⟨ty, Fr, FX, G1, ρ0, [.sh d], _, R1, h1, fun vs G2 H2 s2 R2 v2 => ?_⟩
  have qa := shs_dp v2 (show shs [.sh d] = some [d] from rfl)
  cases qa with
  | cons q1 q2 =>
    cases q2
    have w1 := dp_mono (s2.trans (sub_le R2.gh)) _ _ v1
    have w2 := dp_mono (sub_le R2.gh) _ _ q1
    cases w1 with
    | lst hs ha => exact ⟨_, _, d, ds, j, z, rfl, rfl, .lst hs ha, w2, hc.1, hc.2, hz, hzj, hno, k _ G2 H2 (s1.trans s2) R2 (.int _)⟩
theorem de_idx {o e : Expr} {apos cpos : Pos} (hu : X.A.units + 65 < cLine) (ho : PE X o (TE' X.K ix fo)) (ha : PA X [e] (TA' X.K ix ga)) (hbase : attributeBase o "index" X.env (eval o X.env) = eval o X.env := by rfl)
    (hfew : ((backTo cpos (starEach [e] X.env)).all (fun x => !x.1) && (backToKw cpos (keywordEach [] X.env)).all (fun x => x.1.isSome) && decide ([e].length + ([] : List Keyword).length + (if ([] : List Keyword).isEmpty then 0 else 1) < 30)) = true := by rfl)
    (hline : (apos.endLine == cpos.line) = true := by rfl) (hs : starEach [e] X.env = (false, eval e X.env) :: starEach [] X.env := by rfl) (hplain : (backTo cpos (starEach [] X.env)).any (·.1) = false := by rfl) :
    PE X (.Call (.Attribute o "index" apos) [e] [] cpos) (TE' X.K ix (eIdx fo ga)) :=
  pe_imp (pe_bm PySem.F.plainAttrs_list PySem.F.slot_list_index PySem.F.type_list_index (mt_indexD hu) ho ha hbase hfew hline hs hplain) fun _ _ _ h => idx_ok h
theorem de_pop {o : Expr} {apos cpos : Pos} (ho : PE X o (TE' X.K ix fo)) (hbase : attributeBase o "pop" X.env (eval o X.env) = eval o X.env := by rfl) (hline : (apos.endLine == cpos.line) = true := by rfl) :
    PE X (.Call (.Attribute o "pop" apos) [] [] cpos) (TE' X.K ix (mutM "list" popG fo aNil)) :=
  de_mt0 PySem.F.plainAttrs_list PySem.F.slot_list_pop PySem.F.type_list_pop pop_m ho hbase hline
end
end DL

set_option Elab.async false
set_option linter.all false
set_option autoImplicit false
set_option maxRecDepth 100000
set_option maxHeartbeats 1000000
/-! TL: plain typed functions over the readings of DL. A typed function gives `none` where its reading may not be said to end; where it gives something, the reading gives that. -/
namespace DL
open PySem PySem.Spec PyProof.Rows L2
/-! ### data of types -/
def eI : Int → Dv := PyData.int
def eB : Bool → Dv := PyData.bool
def eS : Str → Dv := PyData.str
def eA : Dv → Dv := fun d => d
def eN : Unit → Dv := fun _ => .none
section
variable {α β γ δ ε : Type}
def eT (e : α → Dv) : List α → Dv := fun xs => .tuple (xs.map e)
def eL (e : α → Dv) : List α → Dv := fun xs => .list (xs.map e)
def e2 (a : α → Dv) (b : β → Dv) : α × β → Dv := fun x => .tuple [a x.1, b x.2]
def e3 (a : α → Dv) (b : β → Dv) (c : γ → Dv) : α × β × γ → Dv := fun x => .tuple [a x.1, b x.2.1, c x.2.2]
def e4 (a : α → Dv) (b : β → Dv) (c : γ → Dv) (d : δ → Dv) : α × β × γ × δ → Dv := fun x => .tuple [a x.1, b x.2.1, c x.2.2.1, d x.2.2.2]
def eO (e : α → Dv) : Option α → Dv
  | none => .none
  | some a => e a
end
/-! ### inversion -/
theorem bnd {α β : Type} {x : Option α} {f : α → Option β} {r : β} (h : x.bind f = some r) : ∃ v, x = some v ∧ f v = some r := Option.bind_eq_some_iff.mp h
theorem ite_inv {α : Type} {c : Bool} {x y : Option α} {r : α} (h : (if c = true then x else y) = some r) : (c = true ∧ x = some r) ∨ (c = false ∧ y = some r) := by
  cases c
  · exact .inr ⟨rfl, h⟩
  · exact .inl ⟨rfl, h⟩
/-! ### blocks -/
def Wp (x : Option Fl) (Q : Fl → Prop) : Prop := ∃ fl, x = some fl ∧ Q fl
def QS (h : MS) (Q : Fl → Prop) : Fl → Prop := fun fl => match fl with
  | .nx ρ => Wp (h ρ) Q
  | .rt r ρ => Q (.rt r ρ)
  | .bk ρ => Q (.bk ρ)
  | .ct ρ => Q (.ct ρ)
section
variable {g h s : MS} {ρ ρ1 : Rho} {Q Q' : Fl → Prop} {f : M} {t : MB} {d : Dv}
theorem wp_mono (a : Wp (s ρ) Q') (k : ∀ fl, Q' fl → Q fl) : Wp (s ρ) Q := let ⟨fl, e, q⟩ := a; ⟨fl, e, k fl q⟩
theorem wp_seqW (a : Wp (g ρ) (QS h Q)) : Wp (sSeq g h ρ) Q := by
  obtain ⟨fl, e, q⟩ := a
  unfold sSeq
  rw [e]
  cases fl with
  | nx ρ => exact q
  | rt r ρ => exact ⟨_, rfl, q⟩
  | bk ρ => exact ⟨_, rfl, q⟩
  | ct ρ => exact ⟨_, rfl, q⟩
theorem wp_seq (a : g ρ = some (.nx ρ1)) (k : Wp (h ρ1) Q) : Wp (sSeq g h ρ) Q := wp_seqW ⟨_, a, k⟩
theorem wp_st (a : s ρ = some (.nx ρ1)) (q : Q (.nx ρ1)) : Wp (s ρ) Q := ⟨_, a, q⟩
theorem wp_nil (q : Q (.nx ρ)) : Wp (sNil ρ) Q := ⟨_, rfl, q⟩
theorem wp_brk (q : Q (.bk ρ)) : Wp (sBreak ρ) Q := ⟨_, rfl, q⟩
theorem wp_ct (q : Q (.ct ρ)) : Wp (sCont ρ) Q := ⟨_, rfl, q⟩
theorem wp_if_t {b : Bool} (a : t ρ = some (b, ρ1)) (hb : b = true) (k : Wp (g ρ1) Q) : Wp (sIf t g h ρ) Q := by
  unfold sIf
  rw [a, hb]
  exact k
theorem wp_if_f {b : Bool} (a : t ρ = some (b, ρ1)) (hb : b = false) (k : Wp (h ρ1) Q) : Wp (sIf t g h ρ) Q := by
  unfold sIf
  rw [a, hb]
  exact k
theorem wp_ret {ix : List Nat} (a : f ρ = some (.sh d, ρ1)) (q : Q (.rt (.sh d) ρ1)) : Wp (sRet ix f ρ) Q := by
  refine ⟨_, ?_, q⟩
  unfold sRet
  rw [a]
  rfl
theorem wp_retO {ix : List Nat} {o : Ob} (a : f ρ = some (.ow o, ρ1)) (q : Q (.rt (.ow o) ρ1)) : Wp (sRet ix f ρ) Q := by
  refine ⟨_, ?_, q⟩
  unfold sRet
  rw [a]
  rfl
theorem wp_retN {ix : List Nat} (q : Q (.rt (.sh .none) ρ)) : Wp (sRetN ρ) Q := ⟨_, rfl, q⟩
/-- an owned list of a slot is given back -/
theorem wp_retA {ix : List Nat} {i : Nat} {o : Ob} (a : f ρ = some (.al i, ρ1)) (e : ρ1[i]? = some (.ow o)) (hx : ix.contains i = false) (q : Q (.rt (.ow o) (ρ1.set i .no))) : Wp (sRet ix f ρ) Q := by
  refine ⟨_, ?_, q⟩
  unfold sRet
  rw [a]
  simp only [Option.bind_some, e]
  cases o with
  | lst ds => exact (if_neg (by rw [hx]; decide)).trans rfl
  | dct ds => rfl
  | dtn ds => rfl
/-! what a def gives back -/
def Rt (as : List Sl) (ix : List Nat) (rv : Rv) (as' : List Sl) : Fl → Prop := fun fl => match fl with
  | .nx ρ => rv = .sh .none ∧ outA 0 ix as ρ = as'
  | .rt r ρ => r = rv ∧ outA 0 ix as ρ = as'
  | _ => False
theorem run_wp {np N : Nat} {ix : List Nat} {g : MS} {as as' : List Sl} {rv : Rv} (h0 : okA 0 ix as = true) (hr : ∀ i, rv ≠ .al i) (h : Wp (g (as ++ List.replicate (N - np) .no)) (Rt as ix rv as')) : runF np N ix g as = some (rv, as') := by
  obtain ⟨fl, e, q⟩ := h
  refine runF_eq h0 e ?_
  cases fl with
  | nx ρ =>
    obtain ⟨rfl, rfl⟩ := q
    rfl
  | rt r ρ =>
    obtain ⟨rfl, rfl⟩ := q
    cases r with
    | al i => exact absurd rfl (hr i)
    | fd d => rfl
    | sh d => rfl
    | ow o => rfl
  | bk ρ => exact False.elim q
  | ct ρ => exact False.elim q
end
/-! ### values -/
section
variable {fa fb fc f : M} {ρ ρ1 ρ2 ρ3 : Rho} {a b c d z : Dv} {r r1 r2 : Rv} {o : Ob}
theorem ec (d : Dv) (ρ : Rho) : eC d ρ = some (.sh d, ρ) := rfl
theorem ev {i : Nat} (h : ρ[i]? = some (.sh d)) : eVar i ρ = some (.sh d, ρ) := by
  unfold eVar
  rw [h]
theorem eva {i : Nat} (h : ρ[i]? = some (.ow o)) : eVar i ρ = some (.al i, ρ) := by
  unfold eVar
  rw [h]
theorem pk_al {i : Nat} (h : f ρ = some (.al i, ρ1)) : pkM f ρ = some (.al i, ρ1) := by
  unfold pkM
  rw [h]
  rfl
theorem pk_s (h : f ρ = some (.sh d, ρ1)) : pkM f ρ = some (.sh d, ρ1) := by
  unfold pkM
  rw [h]
  rfl
theorem pk_o {ds : List Dv} (h : f ρ = some (.ow (.lst ds), ρ1)) : pkM f ρ = some (.sh (.list ds), ρ1) := by
  unfold pkM
  rw [h]
  rfl
theorem pk_d {ds : List (Dv × Dv)} (h : f ρ = some (.ow (.dct ds), ρ1)) : pkM f ρ = some (.ow (.dct ds), ρ1) := by
  unfold pkM
  rw [h]
  rfl
theorem pk_n {ds : List (Dv × Dv)} (h : f ρ = some (.ow (.dtn ds), ρ1)) : pkM f ρ = some (.ow (.dtn ds), ρ1) := by
  unfold pkM
  rw [h]
  rfl
theorem fr_s (h : f ρ = some (.sh d, ρ1)) : frM f ρ = some (.sh d, ρ1) := by
  unfold frM
  rw [h]
  rfl
theorem fr_o {ds : List Dv} (h : f ρ = some (.ow (.lst ds), ρ1)) : frM f ρ = some (.sh (.list ds), ρ1) := by
  unfold frM
  rw [h]
  rfl
theorem fr_al {ds : List Dv} {i : Nat} (h : f ρ = some (.al i, ρ1)) (e : ρ1[i]? = some (.ow (.lst ds))) : frM f ρ = some (.sh (.list ds), ρ1.set i (.sh (.list ds))) := by
  unfold frM
  rw [h]
  simp [e]
theorem cp_s (h : f ρ = some (.sh d, ρ1)) : cpM f ρ = some (.sh d, ρ1) := by
  unfold cpM
  rw [h]
  rfl
theorem cp_o (h : f ρ = some (.ow o, ρ1)) : cpM f ρ = some (.ow o, ρ1) := by
  unfold cpM
  rw [h]
  rfl
theorem cp_al {ds : List Dv} {i : Nat} (h : f ρ = some (.al i, ρ1)) (e : ρ1[i]? = some (.ow (.lst ds))) : cpM f ρ = some (.sh (.list ds), ρ1.set i (.sh (.list ds))) := by
  unfold cpM
  rw [h]
  simp [e]
theorem cp_ald {ds : List (Dv × Dv)} {i : Nat} (h : f ρ = some (.al i, ρ1)) (e : ρ1[i]? = some (.ow (.dct ds))) : cpM f ρ = some (.ow (.dct ds), ρ1.set i .no) := by
  unfold cpM
  rw [h]
  simp [e]
theorem cp_aln {ds : List (Dv × Dv)} {i : Nat} (h : f ρ = some (.al i, ρ1)) (e : ρ1[i]? = some (.ow (.dtn ds))) : cpM f ρ = some (.ow (.dtn ds), ρ1.set i .no) := by
  unfold cpM
  rw [h]
  simp [e]
/-! two operands -/
theorem bin_g {g : Dv → Dv → Option Rz} {z : Rz} (ha : pkM fa ρ = some (r1, ρ1)) (hb : pkM fb ρ1 = some (r2, ρ2)) (h1 : dat ρ2 r1 = some a) (h2 : dat ρ2 r2 = some b) (hg : g a b = some z) : binS g fa fb ρ = some (z.rv, ρ2) := by
  unfold binS
  rw [ha]
  simp only [Option.bind_some]
  rw [hb]
  simp only [Option.bind_some]
  rw [h1]
  simp only [Option.bind_some]
  rw [h2]
  simp only [Option.bind_some]
  rw [hg]
  rfl
theorem bin_s {g : Dv → Dv → Option Rz} (ha : fa ρ = some (.sh a, ρ1)) (hb : fb ρ1 = some (.sh b, ρ2)) (hg : g a b = some (.sh z)) : binS g fa fb ρ = some (.sh z, ρ2) := bin_g (pk_s ha) (pk_s hb) rfl rfl hg
theorem bin_gs {g : Dv → Dv → Option Rz} (ha : pkM fa ρ = some (r1, ρ1)) (hb : pkM fb ρ1 = some (r2, ρ2)) (h1 : dat ρ2 r1 = some a) (h2 : dat ρ2 r2 = some b) (hg : g a b = some (.sh z)) : binS g fa fb ρ = some (.sh z, ρ2) := bin_g ha hb h1 h2 hg
theorem bin_go {g : Dv → Dv → Option Rz} (ha : pkM fa ρ = some (r1, ρ1)) (hb : pkM fb ρ1 = some (r2, ρ2)) (h1 : dat ρ2 r1 = some a) (h2 : dat ρ2 r2 = some b) (hg : g a b = some (.ow o)) : binS g fa fb ρ = some (.ow o, ρ2) := bin_g ha hb h1 h2 hg
theorem un_gs {g : Dv → Option Rz} (ha : fa ρ = some (r1, ρ1)) (h1 : dat ρ1 r1 = some a) (hg : g a = some (.sh z)) : unS g fa ρ = some (.sh z, ρ1) := by
  unfold unS
  rw [ha]
  simp only [Option.bind_some]
  rw [h1]
  simp only [Option.bind_some]
  rw [hg]
  rfl
theorem un_go {g : Dv → Option Rz} (ha : fa ρ = some (r1, ρ1)) (h1 : dat ρ1 r1 = some a) (hg : g a = some (.ow o)) : unS g fa ρ = some (.ow o, ρ1) := by
  unfold unS
  rw [ha]
  simp only [Option.bind_some]
  rw [h1]
  simp only [Option.bind_some]
  rw [hg]
  rfl
/-! arguments -/
theorem an_ (ρ : Rho) : aNil ρ = some ([], ρ) := rfl
theorem ac_ {g : MA} {rs : List Rv} (ha : f ρ = some (r, ρ1)) (hb : g ρ1 = some (rs, ρ2)) : aCons f g ρ = some (r :: rs, ρ2) := by
  unfold aCons
  rw [ha]
  simp only [Option.bind_some]
  rw [hb]
  rfl
theorem call_s {g : List Dv → Option Rz} {ga : MA} {rs : List Rv} {ds : List Dv} (h1 : ga ρ = some (rs, ρ1)) (h2 : dats ρ1 rs = some ds) (h3 : g ds = some (.sh z)) : eCall g ga ρ = some (.sh z, ρ1) := by
  unfold eCall
  rw [h1]
  simp only [Option.bind_some]
  rw [h2]
  simp only [Option.bind_some]
  rw [h3]
  rfl
theorem call_o {g : List Dv → Option Rz} {ga : MA} {rs : List Rv} {ds : List Dv} (h1 : ga ρ = some (rs, ρ1)) (h2 : dats ρ1 rs = some ds) (h3 : g ds = some (.ow o)) : eCall g ga ρ = some (.ow o, ρ1) := by
  unfold eCall
  rw [h1]
  simp only [Option.bind_some]
  rw [h2]
  simp only [Option.bind_some]
  rw [h3]
  rfl
theorem fn_s {F : FnS} {ga : MA} {rs : List Rv} {as as' : List Sl} (h1 : ga ρ = some (rs, ρ1)) (h2 : toSls ρ1 rs = some as) (h3 : alsOk rs = true) (h4 : F as = some (.sh z, as')) (h5 : wback ρ1 rs as' = ρ2) : eFn F ga ρ = some (.sh z, ρ2) := by
  unfold eFn
  rw [h1]
  simp only [Option.bind_some]
  rw [h2]
  simp only [Option.bind_some]
  rw [if_pos h3, h4, ← h5]
  rfl
theorem fn_o {F : FnS} {ga : MA} {rs : List Rv} {as as' : List Sl} (h1 : ga ρ = some (rs, ρ1)) (h2 : toSls ρ1 rs = some as) (h3 : alsOk rs = true) (h4 : F as = some (.ow o, as')) (h5 : wback ρ1 rs as' = ρ2) : eFn F ga ρ = some (.ow o, ρ2) := by
  unfold eFn
  rw [h1]
  simp only [Option.bind_some]
  rw [h2]
  simp only [Option.bind_some]
  rw [if_pos h3, h4, ← h5]
  rfl
theorem tup_ {g : MA} {rs : List Rv} {ds : List Dv} (h : g ρ = some (rs, ρ1)) (e : shs rs = some ds) (hl : ds.length ≤ sizeLine) : eTup g ρ = some (.sh (.tuple ds), ρ1) := by
  unfold eTup
  rw [h]
  simp only [Option.bind_some]
  rw [e]
  simp only [Option.bind_some]
  rw [if_pos hl]
theorem lst_ {g : MA} {rs : List Rv} {ds : List Dv} (h : g ρ = some (rs, ρ1)) (e : shs rs = some ds) (hl : ds.length ≤ sizeLine) : eLst g ρ = some (.ow (.lst ds), ρ1) := by
  unfold eLst
  rw [h]
  simp only [Option.bind_some]
  rw [e]
  simp only [Option.bind_some]
  rw [if_pos hl]
theorem few {α : Type} {ds : List α} (h : ds.length ≤ 100000 := by simp) : ds.length ≤ sizeLine := Nat.le_trans h szl_big
/-! tests -/
variable {t u : MB} {k k' : Bool}
theorem tb_ (h : f ρ = some (.sh (.bool k), ρ1)) : tB f ρ = some (k, ρ1) := by
  unfold tB
  rw [h]
  rfl
theorem tv_ (h : pkM f ρ = some (r, ρ1)) (h1 : dat ρ1 r = some d) (h2 : truD d = some k) : tV f ρ = some (k, ρ1) := by
  unfold tV
  rw [h]
  simp only [Option.bind_some]
  rw [h1]
  simp only [Option.bind_some]
  rw [h2]
  rfl
theorem tno_ (h : t ρ = some (k, ρ1)) : tNo t ρ = some (!k, ρ1) := by
  unfold tNo
  rw [h]
  rfl
theorem tan_ (h : t ρ = some (k, ρ)) (h2 : u ρ = some (k', ρ)) : tAn t u ρ = some (k && k', ρ) := by
  unfold tAn
  rw [h]
  cases k
  · rfl
  · exact h2
theorem tor_ (h : t ρ = some (k, ρ)) (h2 : u ρ = some (k', ρ)) : tOr' t u ρ = some (k || k', ρ) := by
  unfold tOr'
  rw [h]
  cases k
  · exact h2
  · rfl
theorem tan_t (h : t ρ = some (k, ρ1)) (e : k = true) (h2 : u ρ1 = some (k', ρ2)) : tAn t u ρ = some (k', ρ2) := by
  subst e
  unfold tAn
  rw [h]
  exact h2
theorem tan_f (h : t ρ = some (k, ρ1)) (e : k = false) : tAn t u ρ = some (false, ρ1) := by
  subst e
  unfold tAn
  rw [h]
  rfl
theorem tor_f (h : t ρ = some (k, ρ1)) (e : k = false) (h2 : u ρ1 = some (k', ρ2)) : tOr' t u ρ = some (k', ρ2) := by
  subst e
  unfold tOr'
  rw [h]
  exact h2
theorem tor_t (h : t ρ = some (k, ρ1)) (e : k = true) : tOr' t u ρ = some (true, ρ1) := by
  subst e
  unfold tOr'
  rw [h]
  rfl
theorem eif_t (h : t ρ = some (k, ρ1)) (e : k = true) (h2 : fa ρ1 = some (r, ρ2)) : eIf t fa fb ρ = some (r, ρ2) := by
  subst e
  unfold eIf
  rw [h]
  exact h2
theorem eif_f (h : t ρ = some (k, ρ1)) (e : k = false) (h2 : fb ρ1 = some (r, ρ2)) : eIf t fa fb ρ = some (r, ρ2) := by
  subst e
  unfold eIf
  rw [h]
  exact h2
theorem eif_ {x y : Dv} (h : t ρ = some (k, ρ)) (h1 : fa ρ = some (.sh x, ρ)) (h2 : fb ρ = some (.sh y, ρ)) : eIf t fa fb ρ = some (.sh (if k = true then x else y), ρ) := by
  cases k
  · exact eif_f h rfl h2
  · exact eif_t h rfl h1
theorem enot_ (h : pkM f ρ = some (r, ρ1)) (h1 : dat ρ1 r = some d) (h2 : truD d = some k) : eNot f ρ = some (.sh (.bool (!k)), ρ1) := by
  unfold eNot
  rw [tv_ h h1 h2]
  rfl
theorem eand_t (h : pkM fa ρ = some (r1, ρ1)) (h1 : dat ρ1 r1 = some d) (h2 : truD d = some k) (e : k = true) (h3 : fb ρ1 = some (r, ρ2)) : eAnd fa fb ρ = some (r, ρ2) := by
  subst e
  unfold eAnd
  rw [h]
  simp only [Option.bind_some]
  rw [h1]
  simp only [Option.bind_some]
  rw [h2]
  exact h3
theorem eand_f (h : pkM fa ρ = some (r1, ρ1)) (h1 : dat ρ1 r1 = some d) (h2 : truD d = some k) (e : k = false) : eAnd fa fb ρ = some (r1, ρ1) := by
  subst e
  unfold eAnd
  rw [h]
  simp only [Option.bind_some]
  rw [h1]
  simp only [Option.bind_some]
  rw [h2]
  rfl
theorem eor_f (h : pkM fa ρ = some (r1, ρ1)) (h1 : dat ρ1 r1 = some d) (h2 : truD d = some k) (e : k = false) (h3 : fb ρ1 = some (r, ρ2)) : eOr fa fb ρ = some (r, ρ2) := by
  subst e
  unfold eOr
  rw [h]
  simp only [Option.bind_some]
  rw [h1]
  simp only [Option.bind_some]
  rw [h2]
  exact h3
theorem eor_t (h : pkM fa ρ = some (r1, ρ1)) (h1 : dat ρ1 r1 = some d) (h2 : truD d = some k) (e : k = true) : eOr fa fb ρ = some (r1, ρ1) := by
  subst e
  unfold eOr
  rw [h]
  simp only [Option.bind_some]
  rw [h1]
  simp only [Option.bind_some]
  rw [h2]
  rfl
theorem eand_b {x y : Bool} (h : fa ρ = some (.sh (.bool x), ρ)) (h3 : fb ρ = some (.sh (.bool y), ρ)) : eAnd fa fb ρ = some (.sh (.bool (x && y)), ρ) := by
  cases x
  · exact eand_f (pk_s h) rfl rfl rfl
  · exact eand_t (pk_s h) rfl rfl rfl h3
theorem eor_b {x y : Bool} (h : fa ρ = some (.sh (.bool x), ρ)) (h3 : fb ρ = some (.sh (.bool y), ρ)) : eOr fa fb ρ = some (.sh (.bool (x || y)), ρ) := by
  cases x
  · exact eor_f (pk_s h) rfl rfl rfl h3
  · exact eor_t (pk_s h) rfl rfl rfl
/-! statements -/
theorem set_s {i : Nat} (h : f ρ = some (.sh d, ρ1)) : sSet i f ρ = some (.nx (ρ1.set i (.sh d))) := by
  unfold sSet
  rw [h]
  rfl
theorem set_o {i : Nat} (h : f ρ = some (.ow o, ρ1)) : sSet i f ρ = some (.nx (ρ1.set i (.ow o))) := by
  unfold sSet
  rw [h]
  rfl
theorem asg_ {m : MT} (h : frM f ρ = some (.sh d, ρ1)) (h2 : m d ρ1 = some ρ2) : sAsg f m ρ = some (.nx ρ2) := by
  unfold sAsg
  rw [h]
  simp only [Option.bind_some]
  rw [h2]
  rfl
theorem expr_ (h : f ρ = some (r, ρ1)) : sExpr f ρ = some (.nx ρ1) := by
  unfold sExpr
  rw [h]
  rfl
theorem par_ {i j : Nat} {ga : MA} (h : ga ρ = some ([r1, r2], ρ1)) (h1 : setR ρ1 i r1 = some ρ2) (h2 : setR ρ2 j r2 = some ρ3) : sPar i j ga ρ = some (.nx ρ3) := by
  unfold sPar
  rw [h]
  simp only [Option.bind_some]
  rw [h1]
  simp only [Option.bind_some]
  rw [h2]
  rfl
theorem par3_ {i j l : Nat} {ga : MA} (h : ga ρ = some ([.sh a, .sh b, .sh c], ρ1)) : sPar3 i j l ga ρ = some (.nx (((ρ1.set i (.sh a)).set j (.sh b)).set l (.sh c))) := by
  unfold sPar3
  rw [h]
  rfl
theorem aug_ {i : Nat} {g : Dv → Dv → Option Rz} (h0 : ρ[i]? = some (.sh a)) (h : pkM f ρ = some (r, ρ1)) (h1 : dat ρ1 r = some b) (h2 : g a b = some (.sh z)) : sAug i g f ρ = some (.nx (ρ1.set i (.sh z))) := by
  unfold sAug
  rw [h0]
  simp only [h, Option.bind_some, h1, h2]
/-! o[k] op= v -/
theorem augS_ {g : Dv → Dv → Option Rz} {fo fi fe : M} {j : Nat} {ri re : Rv} {k d0 d1 : Dv} {ob ob' : Ob} (ho : fo ρ = some (.al j, ρ)) (hi : pkM fi ρ = some (ri, ρ)) (hk : dat ρ ri = some k) (hkk : (isKey k || okT k) = true) (hj : ρ[j]? = some (.ow ob)) (hg : getOb ob k = some d0)
    (he : pkM fe ρ = some (re, ρ1)) (h1 : dat ρ1 re = some d1) (h2 : g d0 d1 = some (.sh d)) (hj1 : ρ1[j]? = some (.ow ob)) (h3 : setOb ob k d = some ob') : sAugS g fo fi fe ρ = some (.nx (ρ1.set j (.ow ob'))) := by
  unfold sAugS
  rw [ho]
  simp only [Option.bind_some]
  rw [hi]
  simp only [Option.bind_some]
  rw [hk]
  simp only [Option.bind_some]
  rw [if_pos hkk, hj]
  simp only
  rw [hg]
  simp only [Option.bind_some]
  rw [he]
  simp only [Option.bind_some]
  rw [h1]
  simp only [Option.bind_some]
  rw [h2]
  simp only [Option.bind_some]
  rw [hj1]
  simp only
  rw [h3]
  rfl
/-! o[k] = v, as a target -/
theorem tsub_ {fo fi : M} {j : Nat} {ri : Rv} {k : Dv} {ob ob' : Ob} (ho : fo ρ = some (.al j, ρ)) (hi : pkM fi ρ = some (ri, ρ1)) (hk : dat ρ1 ri = some k) (hj : ρ1[j]? = some (.ow ob)) (h3 : setOb ob k d = some ob') : tSub fo fi d ρ = some (ρ1.set j (.ow ob')) := by
  unfold tSub
  rw [ho]
  simp only [Option.bind_some]
  rw [hi]
  simp only [Option.bind_some]
  rw [hk]
  simp only [Option.bind_some]
  rw [hj]
  simp only
  rw [h3]
  rfl
theorem app_ {fo : M} {ga : MA} {j : Nat} {xs : List Dv} (ho : fo ρ = some (.al j, ρ)) (hi : isOb "list" ρ[j]? = true) (ha : ga ρ = some ([.sh d], ρ1)) (hj : ρ1[j]? = some (.ow (.lst xs))) (hl : xs.length < sizeLine) : mutM "list" appG fo ga ρ = some (.sh .none, ρ1.set j (.ow (.lst (xs ++ [d])))) := by
  unfold mutM
  rw [ho]
  simp only [Option.bind_some]
  rw [if_pos hi, ha]
  simp only [Option.bind_some, shs, Option.map_some]
  rw [hj]
  simp only [appG]
  rw [if_pos hl]
  rfl
end
end DL

set_option Elab.async false
set_option linter.all false
set_option autoImplicit false
set_option maxRecDepth 100000
set_option maxHeartbeats 1000000
namespace DL
open PySem PySem.Spec PyProof.Rows L2
section
variable {α β γ σ τ r : Type}
/-! ### loops and comprehensions of typed functions -/
inductive Fo (σ r : Type) where
  | nx (s : σ) | bk (s : σ) | rt (x : r)
def mapO (f : α → Option β) : List α → Option (List β)
  | [] => some []
  | x :: xs => (f x).bind fun y => (mapO f xs).bind fun ys => some (y :: ys)
def lcO (f : α → Option (Option β)) : List α → Option (List β)
  | [] => some []
  | x :: xs => (f x).bind fun y => (lcO f xs).bind fun ys => some (match y with | none => ys | some y => y :: ys)
def lcwO (f : α → σ → Option (Option β × σ)) : List α → σ → Option (List β × σ)
  | [], s => some ([], s)
  | x :: xs, s => (f x s).bind fun y => (lcwO f xs y.2).bind fun ys => some (match y.1 with | none => ys | some y => (y :: ys.1, ys.2))
def catO (f : α → Option (List β)) : List α → Option (List β)
  | [] => some []
  | x :: xs => (f x).bind fun y => (catO f xs).bind fun ys => some (y ++ ys)
def szO (x : Option (List β)) : Option (List β) := x.bind fun ys => if ys.length ≤ sizeLine then some ys else none
def szwO (x : Option (List β × σ)) : Option (List β × σ) := x.bind fun ys => if ys.1.length ≤ sizeLine then some ys else none
def foldO (f : α → σ → Option σ) : List α → σ → Option σ
  | [], s => some s
  | x :: xs, s => (f x s).bind fun s1 => foldO f xs s1
def forO (f : α → σ → Option (Fo σ r)) : List α → σ → Option (Fo σ r)
  | [], s => some (.nx s)
  | x :: xs, s => (f x s).bind fun o => match o with
    | .nx s1 => forO f xs s1
    | .bk s1 => some (.nx s1)
    | .rt y => some (.rt y)
def forB (f : α → σ → Option (Fo σ r)) (xs : List α) (s : σ) (k : σ → Option τ) (kr : r → Option τ) : Option τ := (forO f xs s).bind fun o => match o with
  | .nx s => k s
  | .bk s => k s
  | .rt x => kr x
def whileO (c : σ → Option Bool) (f : σ → Option (Fo σ r)) : Nat → σ → Option (Fo σ r)
  | 0, _ => none
  | n + 1, s => (c s).bind fun b => if b = true then (f s).bind fun o => (match o with
    | .nx s1 => whileO c f n s1
    | .bk s1 => some (.nx s1)
    | .rt y => some (.rt y)) else some (.nx s)
def whileB (c : σ → Option Bool) (f : σ → Option (Fo σ r)) (n : Nat) (s : σ) (k : σ → Option τ) (kr : r → Option τ) : Option τ := (whileO c f n s).bind fun o => match o with
  | .nx s => k s
  | .bk s => k s
  | .rt x => kr x
theorem forO_nb {f : α → σ → Option (Fo σ r)} {s' : σ} : ∀ {xs : List α} {s : σ}, forO f xs s ≠ some (.bk s')
  | [], s => by simp [forO]
  | x :: xs, s => by
    unfold forO
    intro h
    obtain ⟨o, h1, h⟩ := bnd h
    cases o with
    | nx s1 => exact forO_nb h
    | bk s1 => cases h
    | rt y => cases h
/-! their readings -/
/-- what a loop's body ends with -/
def Pb (R : σ → Rho → Prop) (Qr : r → Fl → Prop) : Fo σ r → Fl → Prop
  | .nx s, fl => ∃ ρ, (fl = .nx ρ ∨ fl = .ct ρ) ∧ R s ρ
  | .bk s, fl => ∃ ρ, fl = .bk ρ ∧ R s ρ
  | .rt x, fl => ∃ rv ρ, fl = .rt rv ρ ∧ Qr x fl
theorem forS_o {t : MT} {b : MS} {e : α → Dv} {R : σ → Rho → Prop} {Qr : r → Fl → Prop} {f : α → σ → Option (Fo σ r)} : ∀ {xs : List α} {s : σ} {o : Fo σ r} {ρ : Rho},
    (∀ x s o ρ, x ∈ xs → R s ρ → f x s = some o → ∃ ρ2, t (e x) ρ = some ρ2 ∧ Wp (b ρ2) (Pb R Qr o)) → R s ρ → forO f xs s = some o →
    ∃ fl, forS t b (xs.map e) ρ = some fl ∧ (match o with | .nx s' => ∃ ρ', fl = .nx ρ' ∧ R s' ρ' | .bk _ => False | .rt x => ∃ rv ρ', fl = .rt rv ρ' ∧ Qr x fl)
  | [], s, o, ρ, _, h0, h => by
    simp only [forO, Option.some.injEq] at h
    subst h
    exact ⟨_, rfl, ρ, rfl, h0⟩
  | x :: xs, s, o, ρ, hb, h0, h => by
    unfold forO at h
    obtain ⟨o1, h1, h⟩ := bnd h
    obtain ⟨ρ2, e1, fl, e2, q⟩ := hb x s o1 ρ (List.mem_cons_self ..) h0 h1
    have hb' := fun y s o ρ (hy : y ∈ xs) => hb y s o ρ (List.mem_cons_of_mem _ hy)
    rw [List.map_cons]
    unfold forS
    rw [e1]
    simp only [Option.bind_some]
    rw [e2]
    cases o1 with
    | nx s1 =>
      obtain ⟨ρ3, rfl | rfl, hR⟩ := q
      · exact forS_o hb' hR h
      · exact forS_o hb' hR h
    | bk s1 =>
      obtain ⟨ρ3, rfl, hR⟩ := q
      cases h
      exact ⟨_, rfl, ρ3, rfl, hR⟩
    | rt y =>
      obtain ⟨rv, ρ3, rfl, hQ⟩ := q
      cases h
      exact ⟨_, rfl, rv, ρ3, rfl, hQ⟩
theorem wp_for {fi : ML} {t : MT} {b : MS} {xs : List α} {e : α → Dv} {R : σ → Rho → Prop} {Qr : r → Fl → Prop} {f : α → σ → Option (Fo σ r)} {s0 : σ} {k : σ → Option τ} {kr : r → Option τ} {v : τ} {ρ ρ1 : Rho} {Q : Fl → Prop}
    (hi : fi ρ = some (xs.map e, ρ1)) (h0 : R s0 ρ1) (hb : ∀ x s o ρ, x ∈ xs → R s ρ → f x s = some o → ∃ ρ2, t (e x) ρ = some ρ2 ∧ Wp (b ρ2) (Pb R Qr o)) (h : forB f xs s0 k kr = some v)
    (k1 : ∀ s ρ', R s ρ' → k s = some v → Q (.nx ρ')) (k2 : ∀ x rv ρ', kr x = some v → Qr x (.rt rv ρ') → Q (.rt rv ρ')) : Wp (sFor fi t b ρ) Q := by
  unfold forB at h
  obtain ⟨o, h1, h⟩ := bnd h
  obtain ⟨fl, e1, q⟩ := forS_o hb h0 h1
  unfold sFor
  rw [hi]
  refine ⟨fl, e1, ?_⟩
  cases o with
  | nx s =>
    obtain ⟨ρ', rfl, hR⟩ := q
    exact k1 s ρ' hR h
  | bk s => exact False.elim q
  | rt x =>
    obtain ⟨rv, ρ', rfl, hQ⟩ := q
    exact k2 x rv ρ' h hQ
theorem forS_f {t : MT} {b : MS} {e : α → Dv} {R : σ → Rho → Prop} {f : α → σ → Option σ} : ∀ {xs : List α} {s v : σ} {ρ : Rho},
    (∀ x s s' ρ, x ∈ xs → R s ρ → f x s = some s' → ∃ ρ2, t (e x) ρ = some ρ2 ∧ Wp (b ρ2) (fun fl => ∃ ρ', (fl = .nx ρ' ∨ fl = .ct ρ') ∧ R s' ρ')) → R s ρ → foldO f xs s = some v →
    ∃ ρ', forS t b (xs.map e) ρ = some (.nx ρ') ∧ R v ρ'
  | [], s, o, ρ, _, h0, h => by
    simp only [foldO, Option.some.injEq] at h
    subst h
    exact ⟨_, rfl, h0⟩
  | x :: xs, s, o, ρ, hb, h0, h => by
    unfold foldO at h
    obtain ⟨o1, h1, h⟩ := bnd h
    obtain ⟨ρ2, e1, fl, e2, ρ3, q, hR⟩ := hb x s o1 ρ (List.mem_cons_self ..) h0 h1
    have hb' := fun y s o ρ (hy : y ∈ xs) => hb y s o ρ (List.mem_cons_of_mem _ hy)
    rw [List.map_cons]
    unfold forS
    rw [e1]
    simp only [Option.bind_some]
    rw [e2]
    rcases q with rfl | rfl
    · exact forS_f hb' hR h
    · exact forS_f hb' hR h
theorem wp_fold {fi : ML} {t : MT} {b : MS} {xs : List α} {e : α → Dv} {R : σ → Rho → Prop} {f : α → σ → Option σ} {s0 : σ} {k : σ → Option τ} {v : τ} {ρ ρ1 : Rho} {Q : Fl → Prop}
    (hi : fi ρ = some (xs.map e, ρ1)) (h0 : R s0 ρ1) (hb : ∀ x s s' ρ, x ∈ xs → R s ρ → f x s = some s' → ∃ ρ2, t (e x) ρ = some ρ2 ∧ Wp (b ρ2) (fun fl => ∃ ρ', (fl = .nx ρ' ∨ fl = .ct ρ') ∧ R s' ρ')) (h : (foldO f xs s0).bind k = some v)
    (k1 : ∀ s ρ', R s ρ' → k s = some v → Q (.nx ρ')) : Wp (sFor fi t b ρ) Q := by
  obtain ⟨o, h1, h⟩ := bnd h
  obtain ⟨ρ', e1, q⟩ := forS_f hb h0 h1
  unfold sFor
  rw [hi]
  exact ⟨_, e1, k1 o ρ' q h⟩
theorem whileS_o {c : MB} {b : MS} {R : σ → Rho → Prop} {Qr : r → Fl → Prop} {cT : σ → Option Bool} {f : σ → Option (Fo σ r)} (hc : ∀ s ρ k, R s ρ → cT s = some k → ∃ ρ', c ρ = some (k, ρ') ∧ R s ρ')
    (hb : ∀ s o ρ, R s ρ → cT s = some true → f s = some o → Wp (b ρ) (Pb R Qr o)) : ∀ {n : Nat} {s : σ} {o : Fo σ r} {ρ : Rho}, R s ρ → whileO cT f n s = some o →
    ∃ fl, whileS c b n ρ = some fl ∧ (match o with | .nx s' => ∃ ρ', fl = .nx ρ' ∧ R s' ρ' | .bk _ => False | .rt x => ∃ rv ρ', fl = .rt rv ρ' ∧ Qr x fl)
  | 0, s, o, ρ, _, h => by cases h
  | n + 1, s, o, ρ, h0, h => by
    unfold whileO at h
    obtain ⟨k, h1, h⟩ := bnd h
    obtain ⟨ρ1, e1, R1⟩ := hc s ρ k h0 h1
    unfold whileS
    rw [e1]
    simp only [Option.bind_some]
    cases k with
    | false =>
      cases h
      exact ⟨_, rfl, ρ1, rfl, R1⟩
    | true =>
      simp only [if_true] at h ⊢
      obtain ⟨o1, h2, h⟩ := bnd h
      obtain ⟨fl, e2, q⟩ := hb s o1 ρ1 R1 h1 h2
      rw [e2]
      cases o1 with
      | nx s1 =>
        obtain ⟨ρ3, rfl | rfl, hR⟩ := q
        · exact whileS_o hc hb hR h
        · exact whileS_o hc hb hR h
      | bk s1 =>
        obtain ⟨ρ3, rfl, hR⟩ := q
        cases h
        exact ⟨_, rfl, ρ3, rfl, hR⟩
      | rt y =>
        obtain ⟨rv, ρ3, rfl, hQ⟩ := q
        cases h
        exact ⟨_, rfl, rv, ρ3, rfl, hQ⟩
theorem wp_while {c : MB} {b : MS} {R : σ → Rho → Prop} {Qr : r → Fl → Prop} {cT : σ → Option Bool} {f : σ → Option (Fo σ r)} {n : Nat} {s0 : σ} {k : σ → Option τ} {kr : r → Option τ} {v : τ} {ρ : Rho} {Q : Fl → Prop}
    (h0 : R s0 ρ) (hc : ∀ s ρ k, R s ρ → cT s = some k → ∃ ρ', c ρ = some (k, ρ') ∧ R s ρ') (hb : ∀ s o ρ, R s ρ → cT s = some true → f s = some o → Wp (b ρ) (Pb R Qr o)) (h : whileB cT f n s0 k kr = some v)
    (k1 : ∀ s ρ', R s ρ' → k s = some v → Q (.nx ρ')) (k2 : ∀ x rv ρ', kr x = some v → Qr x (.rt rv ρ') → Q (.rt rv ρ')) : Wp (whileS c b n ρ) Q := by
  unfold whileB at h
  obtain ⟨o, h1, h⟩ := bnd h
  obtain ⟨fl, e1, q⟩ := whileS_o hc hb h0 h1
  refine ⟨fl, e1, ?_⟩
  cases o with
  | nx s =>
    obtain ⟨ρ', rfl, hR⟩ := q
    exact k1 s ρ' hR h
  | bk s => exact False.elim q
  | rt x =>
    obtain ⟨rv, ρ', rfl, hQ⟩ := q
    exact k2 x rv ρ' h hQ
theorem wp_join {g : MS} {R : σ → Rho → Prop} {x : Option σ} {k : σ → Option τ} {v : τ} {ρ : Rho} {Q : Fl → Prop} (a : ∀ s, x = some s → Wp (g ρ) (fun fl => ∃ ρ', fl = .nx ρ' ∧ R s ρ')) (h : x.bind k = some v) (k1 : ∀ s ρ', R s ρ' → k s = some v → Q (.nx ρ')) : Wp (g ρ) Q := by
  obtain ⟨s, h1, h⟩ := bnd h
  exact wp_mono (a s h1) fun fl ⟨ρ', e, hR⟩ => e ▸ k1 s ρ' hR h
/-! comprehensions -/
theorem putB_wipe {own : List Nat} {ρ ρ1 B : Rho} (h : wipeR ρ own = wipeR B own) (h2 : own.map (fun i => B[i]?) = own.map (fun i => ρ1[i]?)) : putB ρ ρ1 own = B := by
  have hl : ρ.length = B.length := by rw [← wipeR_length ρ own, h, wipeR_length]
  refine List.ext_getElem? fun j => ?_
  by_cases hj : j ∈ own
  · have e : B[j]? = ρ1[j]? := by
      have : ∀ (l : List Nat), l.map (fun i => B[i]?) = l.map (fun i => ρ1[i]?) → j ∈ l → B[j]? = ρ1[j]? := by
        intro l
        induction l with
        | nil => intro _ h; cases h
        | cons i l ih =>
          intro e h
          rw [List.map_cons, List.map_cons, List.cons.injEq] at e
          rcases List.mem_cons.mp h with rfl | h
          · exact e.1
          · exact ih e.2 h
      exact this own h2 hj
    rw [e]
    have : ∀ (l : List Nat), j ∈ l → (ρ1[j]? ≠ none → (putB ρ ρ1 l)[j]? = ρ1[j]? ∨ ρ.length ≤ j) := by
      intro l
      induction l with
      | nil => intro h; cases h
      | cons i l ih =>
        intro hm hn
        unfold putB
        by_cases hi : i = j
        · subst hi
          cases e2 : ρ1[i]? with
          | none => exact absurd e2 hn
          | some s =>
            simp only
            by_cases hlt : i < ρ.length
            · left
              rw [List.getElem?_set_self (by rw [putB_length]; exact hlt)]
            · right; omega
        · have hm' : j ∈ l := by
            rcases List.mem_cons.mp hm with h | h
            · exact absurd h.symm hi
            · exact h
          have := ih hm' hn
          split
          · rw [List.getElem?_set_ne hi]; exact this
          · exact this
    by_cases hn : ρ1[j]? = none
    · rw [hn] at e
      rw [hn]
      have : B.length ≤ j := by simpa using e
      rw [List.getElem?_eq_none]
      rw [putB_length]; omega
    · rcases this own hj hn with h | h
      · exact h
      · have : B[j]? = none := by rw [List.getElem?_eq_none]; omega
        rw [e] at this
        exact absurd this hn
  · rw [putB_out hj]
    have e1 := wipeR_out (ρ := ρ) hj
    have e2 := wipeR_out (ρ := B) hj
    rw [← e1, h, e2]
theorem lcS_o {own : List Nat} {t : MT} {c : MB} {fe : M} {e : α → Dv} {e' : β → Dv} {f : α → Option (Option β)} {W : Rho} : ∀ {xs : List α} {ys : List β} {acc : List Dv} {ρ : Rho},
    (∀ x r, x ∈ xs → f x = some r → ∃ ρ2, t (e x) W = some ρ2 ∧ (match r with
      | none => ∃ ρ3, c ρ2 = some (false, ρ3) ∧ wipeR ρ3 own = W
      | some y => ∃ ρ3 ρ4, c ρ2 = some (true, ρ3) ∧ frM fe ρ3 = some (.sh (e' y), ρ4) ∧ wipeR ρ4 own = W)) →
    wipeR ρ own = W → lcO f xs = some ys → acc.length + ys.length ≤ sizeLine → ∃ ρ', lcS own t c fe (xs.map e) acc ρ = some (acc ++ ys.map e', ρ') ∧ wipeR ρ' own = W
  | [], ys, acc, ρ, _, hw, h, _ => by
    simp only [lcO, Option.some.injEq] at h
    subst h
    exact ⟨ρ, by simp [lcS], hw⟩
  | x :: xs, ys, acc, ρ, hb, hw, h, hl => by
    unfold lcO at h
    obtain ⟨y, h1, h⟩ := bnd h
    obtain ⟨zs, h2, h⟩ := bnd h
    obtain ⟨ρ2, e1, q⟩ := hb x y (List.mem_cons_self ..) h1
    have hb' := fun y r (hy : y ∈ xs) => hb y r (List.mem_cons_of_mem _ hy)
    rw [List.map_cons]
    unfold lcS
    rw [hw, e1]
    simp only [Option.bind_some]
    cases y with
    | none =>
      obtain ⟨ρ3, e2, w2⟩ := q
      cases h
      rw [e2]
      exact lcS_o hb' w2 h2 hl
    | some y =>
      obtain ⟨ρ3, ρ4, e2, e3, w2⟩ := q
      cases h
      rw [List.length_cons] at hl
      rw [e2]
      simp only [Option.bind_some, if_true]
      rw [e3]
      simp only [Option.bind_some]
      rw [if_pos (by omega)]
      obtain ⟨ρ', e4, w4⟩ := lcS_o (acc := acc ++ [e' y]) hb' w2 h2 (by simp; omega)
      exact ⟨ρ', by rw [e4]; simp, w4⟩
theorem szO_inv {x : Option (List β)} {ys : List β} (h : szO x = some ys) : x = some ys ∧ ys.length ≤ sizeLine := by
  unfold szO at h
  obtain ⟨zs, h1, h⟩ := bnd h
  split at h
  · cases h; exact ⟨h1, by assumption⟩
  · cases h
theorem lc_ {own : List Nat} {fi : ML} {t : MT} {c : MB} {fe : M} {e : α → Dv} {e' : β → Dv} {f : α → Option (Option β)} {W : Rho} {xs : List α} {ys : List β} {ρ ρ1 : Rho} (hi : fi ρ = some (xs.map e, ρ1)) (hn : noOw ρ1 own = true) (hw : wipeR ρ1 own = W)
    (hb : ∀ x r, x ∈ xs → f x = some r → ∃ ρ2, t (e x) W = some ρ2 ∧ (match r with
      | none => ∃ ρ3, c ρ2 = some (false, ρ3) ∧ wipeR ρ3 own = W
      | some y => ∃ ρ3 ρ4, c ρ2 = some (true, ρ3) ∧ frM fe ρ3 = some (.sh (e' y), ρ4) ∧ wipeR ρ4 own = W))
    (h : szO (lcO f xs) = some ys) : eLc own fi t c fe ρ = some (.ow (.lst (ys.map e')), ρ1) := by
  obtain ⟨h1, h2⟩ := szO_inv h
  obtain ⟨ρ', e1, w⟩ := lcS_o (acc := []) (ρ := ρ1) hb hw h1 (by simpa using h2)
  unfold eLc
  rw [hi]
  simp only [Option.bind_some]
  rw [if_pos hn, e1]
  simp only [Option.bind_some, List.nil_append]
  rw [putB_wipe (B := ρ1) (w.trans hw.symm) rfl]
theorem mapO_lc {f : α → Option β} : ∀ {xs : List α} {ys : List β}, mapO f xs = some ys → lcO (fun x => (f x).map some) xs = some ys
  | [], _, h => h
  | x :: xs, ys, h => by
    unfold mapO at h
    obtain ⟨y, h1, h⟩ := bnd h
    obtain ⟨zs, h2, h⟩ := bnd h
    unfold lcO
    rw [h1, mapO_lc h2]
    exact h
/-- without a condition -/
theorem lm_ {own : List Nat} {fi : ML} {t : MT} {fe : M} {e : α → Dv} {e' : β → Dv} {f : α → Option β} {W : Rho} {xs : List α} {ys : List β} {ρ ρ1 : Rho} (hi : fi ρ = some (xs.map e, ρ1)) (hn : noOw ρ1 own = true) (hw : wipeR ρ1 own = W)
    (hb : ∀ x y, x ∈ xs → f x = some y → ∃ ρ2 ρ4, t (e x) W = some ρ2 ∧ frM fe ρ2 = some (.sh (e' y), ρ4) ∧ wipeR ρ4 own = W)
    (h : szO (mapO f xs) = some ys) : eLc own fi t cYes fe ρ = some (.ow (.lst (ys.map e')), ρ1) := by
  obtain ⟨h1, h2⟩ := szO_inv h
  refine lc_ (f := fun x => (f x).map some) hi hn hw (fun x r hx hr => ?_) (show szO (lcO _ xs) = some ys by unfold szO; rw [mapO_lc h1]; exact if_pos h2)
  obtain ⟨y, hy, rfl⟩ := Option.map_eq_some_iff.mp hr
  obtain ⟨ρ2, ρ4, a, b, c⟩ := hb x y hx hy
  exact ⟨ρ2, a, ρ2, ρ4, rfl, b, c⟩
/-! with a state -/
theorem lcS_w {own : List Nat} {t : MT} {c : MB} {fe : M} {e : α → Dv} {e' : β → Dv} {f : α → σ → Option (Option β × σ)} {W : σ → Rho} : ∀ {xs : List α} {ys : List β} {s s' : σ} {acc : List Dv} {ρ : Rho},
    (∀ x s r, x ∈ xs → f x s = some r → ∃ ρ2, t (e x) (W s) = some ρ2 ∧ (match r.1 with
      | none => ∃ ρ3, c ρ2 = some (false, ρ3) ∧ wipeR ρ3 own = W r.2
      | some y => ∃ ρ3 ρ4, c ρ2 = some (true, ρ3) ∧ frM fe ρ3 = some (.sh (e' y), ρ4) ∧ wipeR ρ4 own = W r.2)) →
    wipeR ρ own = W s → lcwO f xs s = some (ys, s') → acc.length + ys.length ≤ sizeLine → ∃ ρ', lcS own t c fe (xs.map e) acc ρ = some (acc ++ ys.map e', ρ') ∧ wipeR ρ' own = W s'
  | [], ys, s, s', acc, ρ, _, hw, h, _ => by
    simp only [lcwO, Option.some.injEq, Prod.mk.injEq] at h
    obtain ⟨rfl, rfl⟩ := h
    exact ⟨ρ, by simp [lcS], hw⟩
  | x :: xs, ys, s, s', acc, ρ, hb, hw, h, hl => by
    unfold lcwO at h
    obtain ⟨⟨y, s1⟩, h1, h⟩ := bnd h
    obtain ⟨⟨zs, s2⟩, h2, h⟩ := bnd h
    obtain ⟨ρ2, e1, q⟩ := hb x s _ (List.mem_cons_self ..) h1
    have hb' := fun y s r (hy : y ∈ xs) => hb y s r (List.mem_cons_of_mem _ hy)
    rw [List.map_cons]
    unfold lcS
    rw [hw, e1]
    simp only [Option.bind_some]
    cases y with
    | none =>
      obtain ⟨ρ3, e2, w2⟩ := q
      cases h
      rw [e2]
      exact lcS_w hb' w2 h2 hl
    | some y =>
      obtain ⟨ρ3, ρ4, e2, e3, w2⟩ := q
      cases h
      have hl : acc.length + (zs.length + 1) ≤ sizeLine := hl
      rw [e2]
      simp only [Option.bind_some, if_true]
      rw [e3]
      simp only [Option.bind_some]
      rw [if_pos (by omega)]
      obtain ⟨ρ', e4, w4⟩ := lcS_w (acc := acc ++ [e' y]) hb' w2 h2 (by simp; omega)
      exact ⟨ρ', by rw [e4]; simp, w4⟩
theorem lcw_ {own : List Nat} {fi : ML} {t : MT} {c : MB} {fe : M} {e : α → Dv} {e' : β → Dv} {f : α → σ → Option (Option β × σ)} {W : σ → Rho} {B : σ → Rho} {xs : List α} {ys : List β} {s s' : σ} {ρ ρ1 : Rho} (hi : fi ρ = some (xs.map e, ρ1)) (hn : noOw ρ1 own = true) (hw : wipeR ρ1 own = W s)
    (hb : ∀ x s r, x ∈ xs → f x s = some r → ∃ ρ2, t (e x) (W s) = some ρ2 ∧ (match r.1 with
      | none => ∃ ρ3, c ρ2 = some (false, ρ3) ∧ wipeR ρ3 own = W r.2
      | some y => ∃ ρ3 ρ4, c ρ2 = some (true, ρ3) ∧ frM fe ρ3 = some (.sh (e' y), ρ4) ∧ wipeR ρ4 own = W r.2))
    (hB1 : ∀ s, W s = wipeR (B s) own) (hB2 : ∀ s, own.map (fun i => (B s)[i]?) = own.map (fun i => ρ1[i]?))
    (h : szwO (lcwO f xs s) = some (ys, s')) : eLc own fi t c fe ρ = some (.ow (.lst (ys.map e')), B s') := by
  unfold szwO at h
  obtain ⟨⟨zs, s2⟩, h1, h⟩ := bnd h
  simp only at h
  split at h
  rotate_left
  · cases h
  rename_i h2
  cases h
  obtain ⟨ρ', e1, w⟩ := lcS_w (acc := []) (ρ := ρ1) hb hw h1 (by simpa using h2)
  unfold eLc
  rw [hi]
  simp only [Option.bind_some]
  rw [if_pos hn, e1]
  simp only [Option.bind_some, List.nil_append]
  rw [putB_wipe (B := B s') (w.trans (hB1 s')) (hB2 s')]
/-! two clauses -/
theorem catO_len_le {f : α → Option (List β)} : ∀ {xs : List α} {ys : List β}, catO f xs = some ys → ∀ x ∈ xs, ∃ zs, f x = some zs
  | [], _, _, x, hx => by cases hx
  | x :: xs, ys, h, y, hy => by
    unfold catO at h
    obtain ⟨a, h1, h⟩ := bnd h
    obtain ⟨b, h2, h⟩ := bnd h
    rcases List.mem_cons.mp hy with rfl | hy
    · exact ⟨a, h1⟩
    · exact catO_len_le h2 y hy
theorem lcS2_o {own vs1 : List Nat} {t t1 : MT} {c c1 : MB} {fi1 : ML} {fe : M} {e : α → Dv} {e' : β → Dv} {f : α → Option (List β)} {W : Rho} : ∀ {xs : List α} {ys : List β} {acc : List Dv} {ρ : Rho},
    (∀ x zs acc, x ∈ xs → f x = some zs → acc.length + zs.length ≤ sizeLine → ∃ ρ2, t (e x) W = some ρ2 ∧ ((∃ ρ3, c ρ2 = some (false, ρ3) ∧ zs = [] ∧ wipeR ρ3 own = W) ∨
      ∃ ρ3 ρ4 ρ5 ds, c ρ2 = some (true, ρ3) ∧ fi1 ρ3 = some (ds, ρ4) ∧ lcS vs1 t1 c1 fe ds acc ρ4 = some (acc ++ zs.map e', ρ5) ∧ wipeR ρ5 own = W)) →
    wipeR ρ own = W → catO f xs = some ys → acc.length + ys.length ≤ sizeLine → ∃ ρ', lcS2 own vs1 t c fi1 t1 c1 fe (xs.map e) acc ρ = some (acc ++ ys.map e', ρ') ∧ wipeR ρ' own = W
  | [], ys, acc, ρ, _, hw, h, _ => by
    simp only [catO, Option.some.injEq] at h
    subst h
    exact ⟨ρ, by simp [lcS2], hw⟩
  | x :: xs, ys, acc, ρ, hb, hw, h, hl => by
    unfold catO at h
    obtain ⟨y, h1, h⟩ := bnd h
    obtain ⟨zs, h2, h⟩ := bnd h
    cases h
    rw [List.length_append] at hl
    obtain ⟨ρ2, e1, q⟩ := hb x y acc (List.mem_cons_self ..) h1 (by omega)
    have hb' := fun y zs acc (hy : y ∈ xs) => hb y zs acc (List.mem_cons_of_mem _ hy)
    rw [List.map_cons]
    unfold lcS2
    rw [hw, e1]
    simp only [Option.bind_some]
    rcases q with ⟨ρ3, e2, rfl, w⟩ | ⟨ρ3, ρ4, ρ5, ds, e2, e3, e4, w⟩
    · rw [e2]
      exact lcS2_o hb' w h2 (by simpa using hl)
    · rw [e2]
      simp only [Option.bind_some, if_true]
      rw [e3]
      simp only [Option.bind_some]
      rw [e4]
      simp only [Option.bind_some]
      obtain ⟨ρ', e5, w5⟩ := lcS2_o (acc := acc ++ y.map e') hb' w h2 (by simp; omega)
      exact ⟨ρ', by rw [e5]; simp, w5⟩
def Inn (own vs1 : List Nat) (c : MB) (fi1 : ML) (t1 : MT) (c1 : MB) (fe : M) (e' : β → Dv) (W ρ2 : Rho) (zs : List β) : Prop := ∀ acc : List Dv, acc.length + zs.length ≤ sizeLine → ((∃ ρ3, c ρ2 = some (false, ρ3) ∧ zs = [] ∧ wipeR ρ3 own = W) ∨
      ∃ ρ3 ρ4 ρ5 ds, c ρ2 = some (true, ρ3) ∧ fi1 ρ3 = some (ds, ρ4) ∧ lcS vs1 t1 c1 fe ds acc ρ4 = some (acc ++ zs.map e', ρ5) ∧ wipeR ρ5 own = W)
section
variable {own vs1 : List Nat} {c c1 : MB} {fi fi1 : ML} {t t1 : MT} {fe : M} {e : α → Dv} {e1 : γ → Dv} {e' : β → Dv} {W W1 ρ ρ1 ρ2 ρ3 ρ4 : Rho} {zs : List β} {ys : List γ}
theorem inn_f (hc : c ρ2 = some (false, ρ3)) (hw : wipeR ρ3 own = W) : Inn own vs1 c fi1 t1 c1 fe e' W ρ2 [] := fun _ _ => .inl ⟨ρ3, hc, rfl, hw⟩
theorem inn_t {f : γ → Option (Option β)} (hc : c ρ2 = some (true, ρ3)) (hi : fi1 ρ3 = some (ys.map e1, ρ4)) (hs : ∀ i ∈ vs1, i ∈ own) (hw1 : wipeR ρ4 vs1 = W1) (hw : wipeR W1 own = W) (h : lcO f ys = some zs)
    (hb : ∀ y r, y ∈ ys → f y = some r → ∃ ρ5, t1 (e1 y) W1 = some ρ5 ∧ (match r with
          | none => ∃ ρ6, c1 ρ5 = some (false, ρ6) ∧ wipeR ρ6 vs1 = W1
          | some z => ∃ ρ6 ρ7, c1 ρ5 = some (true, ρ6) ∧ frM fe ρ6 = some (.sh (e' z), ρ7) ∧ wipeR ρ7 vs1 = W1)) : Inn own vs1 c fi1 t1 c1 fe e' W ρ2 zs := fun acc hl => by
  obtain ⟨ρ5, c1', c2'⟩ := lcS_o (own := vs1) (acc := acc) (ρ := ρ4) (W := W1) (e' := e') hb hw1 h hl
  refine .inr ⟨ρ3, ρ4, ρ5, _, hc, hi, c1', ?_⟩
  rw [← hw, ← c2', wipeR_sub _ hs]
theorem inn_m {f : γ → Option β} (hc : c ρ2 = some (true, ρ3)) (hi : fi1 ρ3 = some (ys.map e1, ρ4)) (hs : ∀ i ∈ vs1, i ∈ own) (hw1 : wipeR ρ4 vs1 = W1) (hw : wipeR W1 own = W) (h : mapO f ys = some zs)
    (hb : ∀ y z, y ∈ ys → f y = some z → ∃ ρ5 ρ7, t1 (e1 y) W1 = some ρ5 ∧ frM fe ρ5 = some (.sh (e' z), ρ7) ∧ wipeR ρ7 vs1 = W1) : Inn own vs1 c fi1 t1 cYes fe e' W ρ2 zs :=
  inn_t (f := fun x => (f x).map some) hc hi hs hw1 hw (mapO_lc h) fun y r hy hr => by
    obtain ⟨z, hz, rfl⟩ := Option.map_eq_some_iff.mp hr
    obtain ⟨ρ5, ρ7, a, b, d⟩ := hb y z hy hz
    exact ⟨ρ5, a, ρ5, ρ7, rfl, b, d⟩
theorem lc2_ {xs : List α} {F : α → Option (List β)} (hi : fi ρ = some (xs.map e, ρ1)) (hn : noOw ρ1 own = true) (hw : wipeR ρ1 own = W)
    (hb : ∀ x zs, x ∈ xs → F x = some zs → ∃ ρ2, t (e x) W = some ρ2 ∧ Inn own vs1 c fi1 t1 c1 fe e' W ρ2 zs)
    (h : szO (catO F xs) = some zs) : eLc2 own vs1 fi t c fi1 t1 c1 fe ρ = some (.ow (.lst (zs.map e')), ρ1) := by
  obtain ⟨h1, h2⟩ := szO_inv h
  obtain ⟨ρ', e0, w⟩ := lcS2_o (own := own) (vs1 := vs1) (t := t) (t1 := t1) (c := c) (c1 := c1) (fi1 := fi1) (fe := fe) (e := e) (e' := e') (f := F) (W := W) (acc := []) (ρ := ρ1) (fun x zs acc hx hz hl => by
    obtain ⟨ρ2, a1, a2⟩ := hb x zs hx hz
    exact ⟨ρ2, a1, a2 acc hl⟩) hw h1 (by simpa using h2)
  unfold eLc2
  rw [hi]
  simp only [Option.bind_some]
  rw [if_pos hn, e0]
  simp only [Option.bind_some, List.nil_append]
  rw [putB_wipe (B := ρ1) (w.trans hw.symm) rfl]
end
end
end DL

set_option Elab.async false
set_option linter.all false
set_option autoImplicit false
set_option maxRecDepth 100000
set_option maxHeartbeats 1000000
namespace DL
open PySem PySem.Spec PyProof.Rows L2
/-! ### data of types: equal, less -/
class EqE {α : Type} (e : α → Dv) where
  eq : α → α → Bool
  dep : Nat
  lay : ∀ a, (e a).canLay0 = true
  hd : ∀ a, (e a).depth ≤ dep
  eqv : ∀ a b, PyData.eqv (e a) (e b) = eq a b
  iff : ∀ a b, eq a b = true ↔ a = b
def eqE {α : Type} (e : α → Dv) [EqE e] (a b : α) : Bool := EqE.eq e a b
class OrdE {α : Type} (e : α → Dv) extends EqE e where
  lt : α → α → Bool
  alike : ∀ a b, PySem.W.alike (e a) (e b) = true
  notNone : ∀ a, e a ≠ .none
  ltEq : ∀ a b, PySem.W.dataLt (e a) (e b) = lt a b
  ok : α → Bool
  kind : (∀ a, noTup (e a) = true) ∨ (∀ a, ok a = true → isTup (e a) = true)
  tot : ∀ a b, lt a b = false → lt b a = false → a = b
def ltE {α : Type} (e : α → Dv) [OrdE e] (a b : α) : Bool := OrdE.lt e a b
section
variable {α β γ δ : Type} {e : α → Dv} {ea : α → Dv} {eb : β → Dv} {ecc : γ → Dv} {ed : δ → Dv}
theorem eqE_iff [EqE e] {a b : α} : eqE e a b = true ↔ a = b := EqE.iff a b
theorem eqE_self [EqE e] (a : α) : eqE e a a = true := eqE_iff.mpr rfl
theorem eqE_ne [EqE e] {a b : α} : eqE e a b = false ↔ a ≠ b := by
  rw [← Bool.not_eq_true, eqE_iff]
theorem layAll [EqE e] : ∀ xs : List α, PyData.canLayAll0 (xs.map e) = true
  | [] => rfl
  | x :: xs => by
    rw [List.map_cons, PyData.canLayAll0, EqE.lay x, layAll xs]
    rfl
theorem depAll [EqE e] : ∀ xs : List α, PyData.depthAll (xs.map e) ≤ EqE.dep e
  | [] => by simp [PyData.depthAll]
  | x :: xs => by
    have := depAll xs
    have := EqE.hd (e := e) x
    simp only [List.map_cons, PyData.depthAll]
    omega
def eqLs (f : α → α → Bool) : List α → List α → Bool
  | [], [] => true
  | x :: xs, y :: ys => f x y && eqLs f xs ys
  | _, _ => false
theorem eqvAll_ls [EqE e] : ∀ xs ys : List α, PyData.eqvAll (xs.map e) (ys.map e) = eqLs (EqE.eq e) xs ys
  | [], [] => rfl
  | [], _ :: _ => rfl
  | _ :: _, [] => rfl
  | x :: xs, y :: ys => by
    rw [List.map_cons, List.map_cons, PyData.eqvAll, EqE.eqv, eqvAll_ls xs ys]
    rfl
theorem eqLs_iff [EqE e] : ∀ xs ys : List α, eqLs (EqE.eq e) xs ys = true ↔ xs = ys
  | [], [] => by simp [eqLs]
  | [], _ :: _ => by simp [eqLs]
  | _ :: _, [] => by simp [eqLs]
  | x :: xs, y :: ys => by simp [eqLs, EqE.iff, eqLs_iff xs ys]
instance : EqE eI where
  eq a b := decide (a = b)
  dep := 0
  lay _ := rfl
  hd a := by simp [eI, PyData.depth]
  eqv a b := by
    show (a == b) = _
    exact Bool.eq_iff_iff.mpr (by simp)
  iff a b := by simp
instance : EqE eB where
  eq a b := a == b
  dep := 0
  lay _ := rfl
  hd a := by simp [eB, PyData.depth]
  eqv a b := rfl
  iff a b := by simp
instance : EqE eN where
  eq _ _ := true
  dep := 0
  lay _ := rfl
  hd a := by simp [eN, PyData.depth]
  eqv a b := rfl
  iff a b := by simp
instance [EqE e] : EqE (eT e) where
  eq := eqLs (EqE.eq e)
  dep := EqE.dep e + 1
  lay xs := layAll xs
  hd xs := by
    have := depAll (e := e) xs
    simp only [eT, PyData.depth]
    omega
  eqv xs ys := by
    show PyData.eqvAll _ _ = _
    exact eqvAll_ls xs ys
  iff := eqLs_iff
instance [EqE e] : EqE (eL e) where
  eq := eqLs (EqE.eq e)
  dep := EqE.dep e + 1
  lay xs := layAll xs
  hd xs := by
    have := depAll (e := e) xs
    simp only [eL, PyData.depth]
    omega
  eqv xs ys := by
    show PyData.eqvAll _ _ = _
    exact eqvAll_ls xs ys
  iff := eqLs_iff
instance [EqE ea] [EqE eb] : EqE (e2 ea eb) where
  eq x y := EqE.eq ea x.1 y.1 && EqE.eq eb x.2 y.2
  dep := max (EqE.dep ea) (EqE.dep eb) + 1
  lay x := by
    show PyData.canLayAll0 [ea x.1, eb x.2] = true
    simp [PyData.canLayAll0, EqE.lay]
  hd x := by
    have := EqE.hd (e := ea) x.1
    have := EqE.hd (e := eb) x.2
    simp only [e2, PyData.depth, PyData.depthAll]
    omega
  eqv x y := by
    show PyData.eqvAll _ _ = _
    simp [PyData.eqvAll, EqE.eqv]
  iff x y := by
    obtain ⟨x1, x2⟩ := x
    obtain ⟨y1, y2⟩ := y
    simp [EqE.iff]
instance [EqE ea] [EqE eb] [EqE ecc] : EqE (e3 ea eb ecc) where
  eq x y := EqE.eq ea x.1 y.1 && (EqE.eq eb x.2.1 y.2.1 && EqE.eq ecc x.2.2 y.2.2)
  dep := max (EqE.dep ea) (max (EqE.dep eb) (EqE.dep ecc)) + 1
  lay x := by
    show PyData.canLayAll0 [_, _, _] = true
    simp [PyData.canLayAll0, EqE.lay]
  hd x := by
    have := EqE.hd (e := ea) x.1
    have := EqE.hd (e := eb) x.2.1
    have := EqE.hd (e := ecc) x.2.2
    simp only [e3, PyData.depth, PyData.depthAll]
    omega
  eqv x y := by
    show PyData.eqvAll _ _ = _
    simp [PyData.eqvAll, EqE.eqv]
  iff x y := by
    obtain ⟨x1, x2, x3⟩ := x
    obtain ⟨y1, y2, y3⟩ := y
    simp [EqE.iff]
instance [EqE ea] [EqE eb] [EqE ecc] [EqE ed] : EqE (e4 ea eb ecc ed) where
  eq x y := EqE.eq ea x.1 y.1 && (EqE.eq eb x.2.1 y.2.1 && (EqE.eq ecc x.2.2.1 y.2.2.1 && EqE.eq ed x.2.2.2 y.2.2.2))
  dep := max (EqE.dep ea) (max (EqE.dep eb) (max (EqE.dep ecc) (EqE.dep ed))) + 1
  lay x := by
    show PyData.canLayAll0 [_, _, _, _] = true
    simp [PyData.canLayAll0, EqE.lay]
  hd x := by
    have := EqE.hd (e := ea) x.1
    have := EqE.hd (e := eb) x.2.1
    have := EqE.hd (e := ecc) x.2.2.1
    have := EqE.hd (e := ed) x.2.2.2
    simp only [e4, PyData.depth, PyData.depthAll]
    omega
  eqv x y := by
    show PyData.eqvAll _ _ = _
    simp [PyData.eqvAll, EqE.eqv]
  iff x y := by
    obtain ⟨x1, x2, x3, x4⟩ := x
    obtain ⟨y1, y2, y3, y4⟩ := y
    simp [EqE.iff]
theorem shaped_e [EqE e] (h : EqE.dep e ≤ 64) (a : α) : SeqAt.shaped (e a) = true := by
  unfold SeqAt.shaped
  rw [EqE.lay a, decide_eq_true (Nat.le_trans (EqE.hd a) h)]
  rfl
theorem eqD_e [EqE e] (h : EqE.dep e ≤ 64) (a b : α) : eqD (e a) (e b) = some (eqE e a b) := by
  have h1 := shaped_e h a
  have h2 := shaped_e h b
  have h3 := EqE.eqv (e := e) a b
  unfold eqD
  split
  · rename_i i j e1 e2
    rw [e1, e2] at h3
    refine congrArg some ?_
    unfold eqE
    rw [← h3]
    exact Bool.eq_iff_iff.mpr (by simp [PyData.eqv])
  · rename_i i j e1 e2
    rw [e1, e2] at h3
    refine congrArg some ?_
    unfold eqE
    rw [← h3]
    exact Bool.eq_iff_iff.mpr (by simp [PyData.eqv])
  · rw [if_pos ⟨h1, h2⟩, h3]
    rfl
theorem eq_e [EqE e] (a b : α) (h : EqE.dep e ≤ 64 := by decide) : eqqD (e a) (e b) = some (.sh (.bool (eqE e a b))) := by
  unfold eqqD
  rw [eqD_e h]
  rfl
theorem ne_e [EqE e] (a b : α) (h : EqE.dep e ≤ 64 := by decide) : neqD (e a) (e b) = some (.sh (.bool (!eqE e a b))) := by
  unfold neqD
  rw [eqD_e h]
  rfl
/-! option -/
instance [OrdE e] : EqE (eO e) where
  eq x y := match x, y with
    | none, none => true
    | some a, some b => EqE.eq e a b
    | _, _ => false
  dep := EqE.dep e
  lay x := by
    cases x with
    | none => rfl
    | some a => exact EqE.lay a
  hd x := by
    cases x with
    | none => simp [eO, PyData.depth]
    | some a => exact EqE.hd a
  eqv x y := by
    cases x with
    | none =>
      cases y with
      | none => rfl
      | some b =>
        have := OrdE.notNone (e := e) b
        show PyData.eqv .none (e b) = false
        cases h : e b <;> first | exact absurd h this | rfl
    | some a =>
      cases y with
      | none =>
        have := OrdE.notNone (e := e) a
        show PyData.eqv (e a) .none = false
        cases h : e a <;> first | exact absurd h this | rfl
      | some b => exact EqE.eqv a b
  iff x y := by
    cases x <;> cases y <;> simp [EqE.iff]
theorem isN_e [OrdE e] (x : Option α) : isNone (eO e x) = x.isNone := by
  cases x with
  | none => rfl
  | some a =>
    have := OrdE.notNone (e := e) a
    show isNone (e a) = false
    cases h : e a <;> first | exact absurd h this | rfl
theorem isnd_e [OrdE e] (x : Option α) : isND (eO e x) .none = some (.sh (.bool x.isNone)) := by
  show some (Rz.sh (.bool (isNone (eO e x)))) = _
  rw [isN_e]
theorem notnd_e [OrdE e] (x : Option α) : notND (eO e x) .none = some (.sh (.bool (!x.isNone))) := by
  show some (Rz.sh (.bool (!isNone (eO e x)))) = _
  rw [isN_e]
theorem isnd_s [OrdE e] (x : α) : isND (e x) .none = some (.sh (.bool false)) := isnd_e (some x)
theorem notnd_s [OrdE e] (x : α) : notND (e x) .none = some (.sh (.bool true)) := notnd_e (some x)
theorem isnd_a (x : Dv) : isND x .none = some (.sh (.bool (isNone x))) := rfl
theorem notnd_a (x : Dv) : notND x .none = some (.sh (.bool (!isNone x))) := rfl
/-! in -/
theorem any_e [EqE e] (xs : List α) (a : α) : (xs.map e).any (fun z => PyData.eqv z (e a)) = xs.any fun z => eqE e z a := by
  rw [List.any_map]
  congr 1
  funext z
  exact EqE.eqv z a
theorem shapedL_e [EqE e] (h : EqE.dep e + 1 ≤ 64) (xs : List α) : SeqAt.shaped (.list (xs.map e)) = true := by
  unfold SeqAt.shaped
  have := depAll (e := e) xs
  rw [show (PyData.list (xs.map e)).canLay0 = true from layAll xs, decide_eq_true (by simp only [PyData.depth]; omega)]
  rfl
theorem shapedT_e [EqE e] (h : EqE.dep e + 1 ≤ 64) (xs : List α) : SeqAt.shaped (.tuple (xs.map e)) = true := by
  unfold SeqAt.shaped
  have := depAll (e := e) xs
  rw [show (PyData.tuple (xs.map e)).canLay0 = true from layAll xs, decide_eq_true (by simp only [PyData.depth]; omega)]
  rfl
def inE {α : Type} (e : α → Dv) [EqE e] (a : α) (xs : List α) : Bool := xs.any fun z => eqE e z a
theorem inE_iff [EqE e] {a : α} {xs : List α} : inE e a xs = true ↔ a ∈ xs := by
  unfold inE
  rw [List.any_eq_true]
  constructor
  · rintro ⟨z, hz, h⟩
    rw [eqE_iff.mp h] at hz
    exact hz
  · exact fun h => ⟨a, h, eqE_self a⟩
theorem inl_e [EqE e] (a : α) (xs : List α) (h : EqE.dep e + 1 ≤ 64 := by decide) : inAD (e a) (.list (xs.map e)) = some (.sh (.bool (inE e a xs))) := by
  unfold inAD inA inSeq
  simp only
  rw [if_pos ⟨shaped_e (by omega) a, shapedL_e h xs⟩, any_e]
  rfl
theorem int_e [EqE e] (a : α) (xs : List α) (h : EqE.dep e + 1 ≤ 64 := by decide) : inAD (e a) (.tuple (xs.map e)) = some (.sh (.bool (inE e a xs))) := by
  unfold inAD inA inSeq
  simp only
  rw [if_pos ⟨shaped_e (by omega) a, shapedT_e h xs⟩, any_e]
  rfl
theorem ninl_e [EqE e] (a : α) (xs : List α) (h : EqE.dep e + 1 ≤ 64 := by decide) : ninAD (e a) (.list (xs.map e)) = some (.sh (.bool (!inE e a xs))) := by
  unfold ninAD inA inSeq
  simp only
  rw [if_pos ⟨shaped_e (by omega) a, shapedL_e h xs⟩, any_e]
  rfl
theorem nint_e [EqE e] (a : α) (xs : List α) (h : EqE.dep e + 1 ≤ 64 := by decide) : ninAD (e a) (.tuple (xs.map e)) = some (.sh (.bool (!inE e a xs))) := by
  unfold ninAD inA inSeq
  simp only
  rw [if_pos ⟨shaped_e (by omega) a, shapedT_e h xs⟩, any_e]
  rfl
/-! less -/
def lsLt (q f : α → α → Bool) : List α → List α → Bool
  | [], [] => false
  | [], _ :: _ => true
  | _ :: _, [] => false
  | x :: xs, y :: ys => if q x y = true then lsLt q f xs ys else f x y
theorem alikeAll_e [OrdE e] : ∀ xs ys : List α, PySem.W.alikeAll (xs.map e) (ys.map e) = true
  | [], _ => by rw [List.map_nil, PySem.W.alikeAll]
  | _ :: _, [] => by rw [List.map_nil, List.map_cons, PySem.W.alikeAll]
  | x :: xs, y :: ys => by
    rw [List.map_cons, List.map_cons, PySem.W.alikeAll, OrdE.alike x y, alikeAll_e xs ys]
    rfl
theorem lexAll_e [OrdE e] : ∀ xs ys : List α, PyProof.Rows.lexLt itemOrd (PySem.W.keyToksAll (xs.map e)) (PySem.W.keyToksAll (ys.map e)) = lsLt (EqE.eq e) (OrdE.lt e) xs ys
  | [], [] => lex_irrefl _
  | [], y :: ys => by
    rw [List.map_nil, List.map_cons, PySem.W.toks_all_cons]
    simp only [PySem.W.keyToksAll]
    rw [lex_diff (O := itemOrd) (by simp)]
    rfl
  | x :: xs, [] => by
    rw [List.map_nil, List.map_cons, PySem.W.toks_all_cons]
    simp only [PySem.W.keyToksAll]
    rw [lex_diff (O := itemOrd) (by simp)]
    rfl
  | x :: xs, y :: ys => by
    rw [List.map_cons, List.map_cons, lsLt]
    by_cases h : EqE.eq e x y = true
    · rw [if_pos h, PySem.W.dataLt_all_yes (OrdE.alike x y) (by rw [EqE.eqv]; exact h), lexAll_e xs ys]
    · rw [if_neg h, PySem.W.dataLt_all_no (OrdE.alike x y) (by rw [EqE.eqv]; simpa using h)]
      exact OrdE.ltEq x y
instance : OrdE eI where
  lt a b := decide (a < b)
  alike a b := by show PySem.W.alike (.int a) (.int b) = true; simp only [PySem.W.alike]
  notNone a := fun h => by cases h
  ltEq a b := PySem.W.dataLt_int a b
  ok _ := true
  kind := .inl fun a => rfl
  tot a b h1 h2 := by
    simp at h1 h2
    omega
instance : OrdE eB where
  lt a b := !a && b
  alike a b := by show PySem.W.alike (.bool a) (.bool b) = true; simp only [PySem.W.alike]
  notNone a := fun h => by cases h
  ltEq a b := by
    refine (PySem.W.dataLt_bool a b).trans ?_
    cases a <;> cases b <;> rfl
  ok _ := true
  kind := .inl fun a => rfl
  tot a b h1 h2 := by cases a <;> cases b <;> simp_all
theorem ls_tot [OrdE e] : ∀ xs ys : List α, lsLt (EqE.eq e) (OrdE.lt e) xs ys = false → lsLt (EqE.eq e) (OrdE.lt e) ys xs = false → xs = ys
  | [], [], _, _ => rfl
  | [], _ :: _, h, _ => by cases h
  | _ :: _, [], _, h => by cases h
  | x :: xs, y :: ys, h1, h2 => by
    unfold lsLt at h1 h2
    by_cases h : x = y
    · subst h
      rw [if_pos ((EqE.iff x x).mpr rfl)] at h1 h2
      rw [ls_tot xs ys h1 h2]
    · rw [if_neg (fun z => h ((EqE.iff _ _).mp z))] at h1
      rw [if_neg (fun z => h ((EqE.iff _ _).mp z).symm)] at h2
      exact absurd (OrdE.tot x y h1 h2) h
instance [OrdE e] : OrdE (eT e) where
  lt := lsLt (EqE.eq e) (OrdE.lt e)
  alike xs ys := by show PySem.W.alike (.tuple _) (.tuple _) = true; simp only [PySem.W.alike]; exact alikeAll_e xs ys
  notNone a := fun h => by cases h
  ltEq xs ys := (PySem.W.dataLt_tuple _ _).trans (lexAll_e xs ys)
  ok xs := !xs.isEmpty
  kind := .inr fun xs h => by cases xs with
    | nil => cases h
    | cons x xs => rfl
  tot := ls_tot
instance [OrdE e] : OrdE (eL e) where
  lt := lsLt (EqE.eq e) (OrdE.lt e)
  alike xs ys := by show PySem.W.alike (.list _) (.list _) = true; simp only [PySem.W.alike]; exact alikeAll_e xs ys
  notNone a := fun h => by cases h
  ltEq xs ys := (PySem.W.dataLt_list _ _).trans (lexAll_e xs ys)
  ok _ := true
  kind := .inl fun a => rfl
  tot := ls_tot
theorem lt_pair {x y x' y' : Dv} {xs ys : List Dv} (h : PySem.W.alike x x' = true) : PyProof.Rows.lexLt itemOrd (PySem.W.keyToksAll (x :: xs)) (PySem.W.keyToksAll (x' :: ys)) = if PyData.eqv x x' = true then PyProof.Rows.lexLt itemOrd (PySem.W.keyToksAll xs) (PySem.W.keyToksAll ys) else PySem.W.dataLt x x' := PySem.W.dataLt_cons h xs ys
theorem lex_nil : PyProof.Rows.lexLt itemOrd (PySem.W.keyToksAll []) (PySem.W.keyToksAll []) = false := lex_irrefl _
theorem or_tot [OrdE e] {a b : α} {f g : Bool} (h1 : (if EqE.eq e a b = true then f else OrdE.lt e a b) = false) (h2 : (if EqE.eq e b a = true then g else OrdE.lt e b a) = false) : a = b ∧ f = false ∧ g = false := by
  by_cases h : a = b
  · subst h
    rw [if_pos ((EqE.iff a a).mpr rfl)] at h1 h2
    exact ⟨rfl, h1, h2⟩
  · rw [if_neg (fun z => h ((EqE.iff _ _).mp z))] at h1
    rw [if_neg (fun z => h ((EqE.iff _ _).mp z).symm)] at h2
    exact absurd (OrdE.tot a b h1 h2) h
theorem lt_irr [OrdE e] (a : α) : OrdE.lt e a a = false := by
  rw [← OrdE.ltEq]
  exact lex_irrefl _
theorem lt_last [OrdE e] (a b : α) : (if EqE.eq e a b = true then false else OrdE.lt e a b) = OrdE.lt e a b := by
  split
  · rename_i h
    rw [(EqE.iff a b).mp h, lt_irr]
  · rfl
instance [OrdE ea] [OrdE eb] : OrdE (e2 ea eb) where
  lt x y := if EqE.eq ea x.1 y.1 = true then OrdE.lt eb x.2 y.2 else OrdE.lt ea x.1 y.1
  alike x y := by
    show PySem.W.alike (.tuple _) (.tuple _) = true
    simp [PySem.W.alike, PySem.W.alikeAll, OrdE.alike]
  notNone a := fun h => by cases h
  ltEq x y := by
    refine (PySem.W.dataLt_tuple _ _).trans ?_
    rw [PySem.W.dataLt_cons (OrdE.alike x.1 y.1), PySem.W.dataLt_cons (OrdE.alike x.2 y.2), lex_nil, EqE.eqv, EqE.eqv, OrdE.ltEq, OrdE.ltEq, lt_last]
  ok _ := true
  kind := .inr fun _ _ => rfl
  tot x y h1 h2 := by
    obtain ⟨x1, x2⟩ := x
    obtain ⟨y1, y2⟩ := y
    obtain ⟨rfl, h3, h4⟩ := or_tot h1 h2
    obtain rfl := OrdE.tot _ _ h3 h4
    rfl
instance [OrdE ea] [OrdE eb] [OrdE ecc] : OrdE (e3 ea eb ecc) where
  lt x y := if EqE.eq ea x.1 y.1 = true then (if EqE.eq eb x.2.1 y.2.1 = true then OrdE.lt ecc x.2.2 y.2.2 else OrdE.lt eb x.2.1 y.2.1) else OrdE.lt ea x.1 y.1
  alike x y := by
    show PySem.W.alike (.tuple _) (.tuple _) = true
    simp [PySem.W.alike, PySem.W.alikeAll, OrdE.alike]
  notNone a := fun h => by cases h
  ltEq x y := by
    refine (PySem.W.dataLt_tuple _ _).trans ?_
    rw [PySem.W.dataLt_cons (OrdE.alike x.1 y.1), PySem.W.dataLt_cons (OrdE.alike x.2.1 y.2.1), PySem.W.dataLt_cons (OrdE.alike x.2.2 y.2.2), lex_nil, EqE.eqv, EqE.eqv, EqE.eqv, OrdE.ltEq, OrdE.ltEq, OrdE.ltEq, lt_last]
  ok _ := true
  kind := .inr fun _ _ => rfl
  tot x y h1 h2 := by
    obtain ⟨x1, x2, x3⟩ := x
    obtain ⟨y1, y2, y3⟩ := y
    obtain ⟨rfl, h3, h4⟩ := or_tot h1 h2
    obtain ⟨rfl, h5, h6⟩ := or_tot h3 h4
    obtain rfl := OrdE.tot _ _ h5 h6
    rfl
instance [OrdE ea] [OrdE eb] [OrdE ecc] [OrdE ed] : OrdE (e4 ea eb ecc ed) where
  lt x y := if EqE.eq ea x.1 y.1 = true then (if EqE.eq eb x.2.1 y.2.1 = true then (if EqE.eq ecc x.2.2.1 y.2.2.1 = true then OrdE.lt ed x.2.2.2 y.2.2.2 else OrdE.lt ecc x.2.2.1 y.2.2.1) else OrdE.lt eb x.2.1 y.2.1) else OrdE.lt ea x.1 y.1
  alike x y := by
    show PySem.W.alike (.tuple _) (.tuple _) = true
    simp [PySem.W.alike, PySem.W.alikeAll, OrdE.alike]
  notNone a := fun h => by cases h
  ltEq x y := by
    refine (PySem.W.dataLt_tuple _ _).trans ?_
    rw [PySem.W.dataLt_cons (OrdE.alike x.1 y.1), PySem.W.dataLt_cons (OrdE.alike x.2.1 y.2.1), PySem.W.dataLt_cons (OrdE.alike x.2.2.1 y.2.2.1), PySem.W.dataLt_cons (OrdE.alike x.2.2.2 y.2.2.2), lex_nil, EqE.eqv, EqE.eqv, EqE.eqv, EqE.eqv, OrdE.ltEq, OrdE.ltEq, OrdE.ltEq, OrdE.ltEq, lt_last]
  ok _ := true
  kind := .inr fun _ _ => rfl
  tot x y h1 h2 := by
    obtain ⟨x1, x2, x3, x4⟩ := x
    obtain ⟨y1, y2, y3, y4⟩ := y
    obtain ⟨rfl, h3, h4⟩ := or_tot h1 h2
    obtain ⟨rfl, h5, h6⟩ := or_tot h3 h4
    obtain ⟨rfl, h7, h8⟩ := or_tot h5 h6
    obtain rfl := OrdE.tot _ _ h7 h8
    rfl
/-! min, max -/
def minE {α : Type} (e : α → Dv) [OrdE e] (x : α) (xs : List α) : α := xs.foldl (fun a y => if ltE e y a = true then y else a) x
def maxE {α : Type} (e : α → Dv) [OrdE e] (x : α) (xs : List α) : α := xs.foldl (fun a y => if ltE e a y = true then y else a) x
def minO {α : Type} (e : α → Dv) [OrdE e] : List α → Option α
  | [] => none
  | x :: xs => some (minE e x xs)
def maxO {α : Type} (e : α → Dv) [OrdE e] : List α → Option α
  | [] => none
  | x :: xs => some (maxE e x xs)
theorem minD_e [OrdE e] (x : α) : ∀ xs : List α, PySem.W.minD (e x) (xs.map e) = e (minE e x xs) := fun xs => by
  unfold PySem.W.minD minE
  induction xs generalizing x with
  | nil => rfl
  | cons y ys ih =>
    rw [List.map_cons, List.foldl_cons, List.foldl_cons, ← ih]
    (try dsimp only)
    rw [OrdE.ltEq y x]
    unfold ltE
    cases OrdE.lt e y x <;> rfl
theorem maxD_e [OrdE e] (x : α) : ∀ xs : List α, PySem.W.maxD (e x) (xs.map e) = e (maxE e x xs) := fun xs => by
  unfold PySem.W.maxD maxE
  induction xs generalizing x with
  | nil => rfl
  | cons y ys ih =>
    rw [List.map_cons, List.foldl_cons, List.foldl_cons, ← ih]
    (try dsimp only)
    rw [OrdE.ltEq x y]
    unfold ltE
    cases OrdE.lt e x y <;> rfl
theorem notN [OrdE e] (x : α) : isNone (e x) = false := by
  have := OrdE.notNone (e := e) x
  cases h : e x <;> first | exact absurd h this | rfl
theorem okAl_e [OrdE e] (xs : List α) (h : EqE.dep e ≤ 64) : okAl (xs.map e) = true := by
  unfold okAl
  simp only [Bool.and_eq_true, List.all_eq_true, decide_eq_true_eq, List.mem_map]
  refine ⟨⟨?_, ?_⟩, Nat.le_trans (depAll xs) h⟩
  · rintro _ ⟨a, _, rfl⟩ _ ⟨b, _, rfl⟩
    exact OrdE.alike a b
  · rintro _ ⟨a, _, rfl⟩
    rw [notN]
    rfl
theorem minL_e [OrdE e] {xs : List α} {v : α} (h : minO e xs = some v) (hd : EqE.dep e ≤ 64 := by decide) : minG [.list (xs.map e)] = some (.sh (e v)) := by
  cases xs with
  | nil => cases h
  | cons x xs =>
    cases h
    show (if okAl (List.map e (x :: xs)) = true then _ else _) = _
    rw [if_pos (okAl_e _ hd), minD_e]
theorem minT_e [OrdE e] {xs : List α} {v : α} (h : minO e xs = some v) (hd : EqE.dep e ≤ 64 := by decide) : minG [.tuple (xs.map e)] = some (.sh (e v)) := by
  cases xs with
  | nil => cases h
  | cons x xs =>
    cases h
    show (if okAl (List.map e (x :: xs)) = true then _ else _) = _
    rw [if_pos (okAl_e _ hd), minD_e]
theorem maxL_e [OrdE e] {xs : List α} {v : α} (h : maxO e xs = some v) (hd : EqE.dep e ≤ 64 := by decide) : maxG [.list (xs.map e)] = some (.sh (e v)) := by
  cases xs with
  | nil => cases h
  | cons x xs =>
    cases h
    show (if okAl (List.map e (x :: xs)) = true then _ else _) = _
    rw [if_pos (okAl_e _ hd), maxD_e]
theorem maxT_e [OrdE e] {xs : List α} {v : α} (h : maxO e xs = some v) (hd : EqE.dep e ≤ 64 := by decide) : maxG [.tuple (xs.map e)] = some (.sh (e v)) := by
  cases xs with
  | nil => cases h
  | cons x xs =>
    cases h
    show (if okAl (List.map e (x :: xs)) = true then _ else _) = _
    rw [if_pos (okAl_e _ hd), maxD_e]
/-! sorted -/
def insE (lt : α → α → Bool) (x : α) : List α → List α
  | [] => [x]
  | y :: ys => if lt y x = true then y :: insE lt x ys else x :: y :: ys
def isort (lt : α → α → Bool) : List α → List α
  | [] => []
  | x :: xs => insE lt x (isort lt xs)
theorem ins_perm (lt : α → α → Bool) (x : α) : ∀ ys : List α, List.Perm (insE lt x ys) (x :: ys)
  | [] => .refl _
  | y :: ys => by
    unfold insE
    split
    · exact ((ins_perm lt x ys).cons y).trans (List.Perm.swap x y ys)
    · exact .refl _
theorem isort_perm (lt : α → α → Bool) : ∀ xs : List α, List.Perm (isort lt xs) xs
  | [] => .refl _
  | x :: xs => (ins_perm lt x _).trans ((isort_perm lt xs).cons x)
theorem lt_tr [OrdE e] {a b c : α} (h1 : OrdE.lt e b a = false) (h2 : OrdE.lt e c b = false) : OrdE.lt e c a = false := by
  rw [← OrdE.ltEq] at h1 h2 ⊢
  exact KeyOrd.kle_trans (O := listOrd itemOrd) h1 h2
theorem lt_as [OrdE e] {a b : α} (h : OrdE.lt e a b = true) : OrdE.lt e b a = false := by
  rw [← OrdE.ltEq] at h ⊢
  cases h2 : PySem.W.dataLt (e b) (e a) with
  | false => rfl
  | true =>
    have := lex_trans (O := itemOrd) _ _ _ h h2
    rw [lex_irrefl] at this
    cases this
theorem ins_sorted [OrdE e] (x : α) : ∀ {ys : List α}, ys.Pairwise (fun a b => OrdE.lt e b a = false) → (insE (OrdE.lt e) x ys).Pairwise (fun a b => OrdE.lt e b a = false)
  | [], _ => by simp [insE]
  | y :: ys, h => by
    obtain ⟨h1, h2⟩ := List.pairwise_cons.mp h
    unfold insE
    split
    · rename_i hlt
      refine List.pairwise_cons.mpr ⟨fun z hz => ?_, ins_sorted x h2⟩
      rcases List.mem_cons.mp ((ins_perm _ x ys).mem_iff.mp hz) with rfl | hz
      · exact lt_as hlt
      · exact h1 z hz
    · rename_i hlt
      have hlt : OrdE.lt e y x = false := by simpa using hlt
      refine List.pairwise_cons.mpr ⟨fun z hz => ?_, h⟩
      rcases List.mem_cons.mp hz with rfl | hz
      · exact hlt
      · exact lt_tr hlt (h1 z hz)
theorem isort_sorted [OrdE e] : ∀ xs : List α, (isort (OrdE.lt e) xs).Pairwise (fun a b => OrdE.lt e b a = false)
  | [] => .nil
  | x :: xs => ins_sorted x (isort_sorted xs)
theorem sortD_e [OrdE e] (xs : List α) : sortD (xs.map e) = (isort (OrdE.lt e) xs).map e := by
  have T := PySem.W.sortLe_total (listOrd itemOrd) false fun d : Dv => PySem.W.keyToks d
  have h1 : (sortD (xs.map e)).Pairwise (fun a b => PySem.W.dataLe false (fun d : Dv => d) a b = true) := List.pairwise_mergeSort (fun a b c => T.trans a b c) (fun a b => Bool.or_eq_true _ _ ▸ T.total a b) _
  have h2 : ((isort (OrdE.lt e) xs).map e).Pairwise (fun a b => PySem.W.dataLe false (fun d : Dv => d) a b = true) := by
    rw [List.pairwise_map]
    refine (isort_sorted xs).imp fun {a b} h => ?_
    show (!PySem.W.dataLt (e b) (e a)) = true
    rw [OrdE.ltEq, h]
    rfl
  have p1 : List.Perm (sortD (xs.map e)) ((isort (OrdE.lt e) xs).map e) := (List.mergeSort_perm _ _).trans ((isort_perm _ xs).symm.map e)
  refine p1.eq_of_pairwise (fun a b ha hb h3 h4 => ?_) h1 h2
  obtain ⟨x, _, rfl⟩ := List.mem_map.mp (((List.mergeSort_perm _ _).mem_iff).mp ha)
  obtain ⟨y, _, rfl⟩ := List.mem_map.mp hb
  have h3 : (!PySem.W.dataLt (e y) (e x)) = true := h3
  have h4 : (!PySem.W.dataLt (e x) (e y)) = true := h4
  rw [OrdE.ltEq, Bool.not_eq_true'] at h3 h4
  rw [OrdE.tot x y h4 h3]
theorem okSo_e [OrdE e] (xs : List α) (h : EqE.dep e ≤ 64) (h2 : xs.all (OrdE.ok e) = true) (hl : xs.length ≤ sizeLine) : okSo (xs.map e) = true := by
  unfold okSo
  simp only [Bool.and_eq_true, Bool.or_eq_true, List.all_eq_true, decide_eq_true_eq, List.mem_map, List.length_map]
  refine ⟨⟨⟨?_, ?_⟩, ?_⟩, hl⟩
  · rcases OrdE.kind (e := e) with k | k
    · right
      rintro _ ⟨a, _, rfl⟩
      exact k a
    · left
      rintro _ ⟨a, ha, rfl⟩
      exact k a (List.all_eq_true.mp h2 a ha)
  · rintro _ ⟨a, _, rfl⟩ _ ⟨b, _, rfl⟩
    exact OrdE.alike a b
  · rintro _ ⟨a, _, rfl⟩
    exact Nat.le_trans (EqE.hd a) h
def sortO {α : Type} (e : α → Dv) [OrdE e] (xs : List α) : Option (List α) := if xs.all (OrdE.ok e) = true ∧ xs.length ≤ sizeLine then some (isort (OrdE.lt e) xs) else none
theorem sort_e [OrdE e] {xs ys : List α} (h : sortO e xs = some ys) (hd : EqE.dep e ≤ 64 := by decide) : sortG [.list (xs.map e)] = some (.ow (.lst (ys.map e))) := by
  unfold sortO at h
  split at h
  · rename_i hc
    cases h
    unfold sortG
    simp only
    rw [if_pos (okSo_e xs hd hc.1 hc.2), sortD_e]
  · cases h
end
end DL

set_option Elab.async false
set_option linter.all false
set_option autoImplicit false
set_option maxRecDepth 100000
set_option maxHeartbeats 1000000
namespace DL
open PySem PySem.Spec PyProof.Rows L2
/-! ### typed operators -/
section intS
theorem add_i (a b : Int) : addD (eI a) (eI b) = some (.sh (eI (a + b))) := rfl
theorem sub_i (a b : Int) : subD (eI a) (eI b) = some (.sh (eI (a - b))) := rfl
theorem iadd_i (a b : Int) : iaddD (eI a) (eI b) = some (.sh (eI (a + b))) := rfl
theorem neg_i (a : Int) : negD (eI a) = some (.sh (eI (-a))) := rfl
theorem bit_i (g : Int → Int → Int) (a b : Int) : bitD g (eI a) (eI b) = some (.sh (eI (g a b))) := rfl
theorem cmp_i (g : Int → Int → Bool) (a b : Int) : cmpD g (eI a) (eI b) = some (.sh (eB (g a b))) := rfl
def fits (a : Int) : Prop := -(18446744073709551616) < a ∧ a < 18446744073709551616
instance (a : Int) : Decidable (fits a) := by unfold fits; infer_instance
def mulO (a b : Int) : Option Int := if fits a ∨ fits b then some (a * b) else none
theorem mul_t {a b v : Int} (h : mulO a b = some v) : mulD (eI a) (eI b) = some (.sh (eI v)) := by
  unfold mulO at h
  split at h
  · rename_i hc
    cases h
    exact if_pos hc
  · cases h
theorem mul_l (a b : Int) (h : fits a := by decide) : mulD (eI a) (eI b) = some (.sh (eI (a * b))) := if_pos (.inl h)
theorem mul_r (a b : Int) (h : fits b := by decide) : mulD (eI a) (eI b) = some (.sh (eI (a * b))) := if_pos (.inr h)
theorem mulO_l {a : Int} (b : Int) (h : fits a) : mulO a b = some (a * b) := if_pos (.inl h)
theorem mulO_r (a : Int) {b : Int} (h : fits b) : mulO a b = some (a * b) := if_pos (.inr h)
theorem fits_of {a : Int} (h1 : -1000000000000 ≤ a) (h2 : a ≤ 1000000000000) : fits a := ⟨by omega, by omega⟩
def divO (a b : Int) : Option Int := if 0 < b ∧ b < 1073741824 then some (a / b) else none
theorem div_t {a b v : Int} (h : divO a b = some v) : divD (eI a) (eI b) = some (.sh (eI v)) := by
  unfold divO at h
  split at h
  · rename_i hc
    cases h
    exact if_pos hc
  · cases h
theorem div_l (a b : Int) (h : 0 < b ∧ b < 1073741824 := by decide) : divD (eI a) (eI b) = some (.sh (eI (a / b))) := if_pos h
def modO (a b : Int) : Option Int := if 0 < b then some (a % b) else none
theorem mod_t {a b v : Int} (h : modO a b = some v) : modD (eI a) (eI b) = some (.sh (eI v)) := by
  unfold modO at h
  split at h
  · rename_i hc
    cases h
    exact if_pos hc
  · cases h
theorem mod_l (a b : Int) (h : 0 < b := by decide) : modD (eI a) (eI b) = some (.sh (eI (a % b))) := if_pos h
theorem modO_p (a : Int) {b : Int} (h : 0 < b) : modO a b = some (a % b) := if_pos h
def powO (a b : Int) : Option Int := if 0 ≤ b ∧ b ≤ 1000000 ∧ a.natAbs < 18446744073709551616 then some (a ^ b.toNat) else none
theorem pow_t {a b v : Int} (h : powO a b = some v) : powD (eI a) (eI b) = some (.sh (eI v)) := by
  unfold powO at h
  split at h
  · rename_i hc
    cases h
    exact if_pos hc
  · cases h
def shlO (a b : Int) : Option Int := if 0 ≤ b ∧ b ≤ 1000000 ∧ a.natAbs < 18446744073709551616 then some (a * 2 ^ b.toNat) else none
theorem shl_t {a b v : Int} (h : shlO a b = some v) : shlD (eI a) (eI b) = some (.sh (eI v)) := by
  unfold shlO at h
  split at h
  · rename_i hc
    cases h
    exact if_pos hc
  · cases h
def shrO (a b : Int) : Option Int := if 0 ≤ b then some (a / 2 ^ b.toNat) else none
theorem shr_t {a b v : Int} (h : shrO a b = some v) : shrD (eI a) (eI b) = some (.sh (eI v)) := by
  unfold shrO at h
  split at h
  · rename_i hc
    cases h
    exact if_pos hc
  · cases h
theorem shr_l (a b : Int) (h : 0 ≤ b := by decide) : shrD (eI a) (eI b) = some (.sh (eI (a / 2 ^ b.toNat))) := if_pos h
theorem abs_i (a : Int) : absG [eI a] = some (.sh (eI (if a < 0 then -a else a))) := rfl
theorem int_i (a : Int) : intG [eI a] = some (.sh (eI a)) := rfl
theorem int_b (a : Bool) : intG [eB a] = some (.sh (eI (if a = true then 1 else 0))) := rfl
theorem max2_i (a b : Int) : max2G [eI a, eI b] = some (.sh (eI (if b > a then b else a))) := rfl
theorem min2_i (a b : Int) : min2G [eI a, eI b] = some (.sh (eI (if b < a then b else a))) := rfl
theorem eq_s (a b : Str) : eqqD (eS a) (eS b) = some (.sh (eB (decide (a = b)))) := rfl
theorem ne_s (a b : Str) : neqD (eS a) (eS b) = some (.sh (eB (!decide (a = b)))) := rfl
theorem eq_a {a b : Dv} {v : Bool} (h : eqD a b = some v) : eqqD a b = some (.sh (eB v)) := by
  unfold eqqD
  rw [h]
  rfl
theorem ne_a {a b : Dv} {v : Bool} (h : eqD a b = some v) : neqD a b = some (.sh (eB (!v))) := by
  unfold neqD
  rw [h]
  rfl
end intS
/-! ### lists -/
section
variable {α β : Type} {e : α → Dv}
def rangeI (lo : Int) (n : Nat) : List Int := (List.range n).map fun i => lo + (i : Nat)
def rangeC (lo : Int) (n : Nat) : List Int := (List.range n).map fun i => lo + (i : Nat) * -1
theorem rangeI_e (lo : Int) (n : Nat) : rangeD lo n = (rangeI lo n).map eI := by
  unfold rangeD rangeI
  rw [List.map_map]
  rfl
theorem rangeC_e (lo : Int) (n : Nat) : rangeDC lo (-1) n = (rangeC lo n).map eI := by
  unfold rangeDC rangeC
  rw [List.map_map]
  rfl
def rngO1 (n : Int) : Option (List Int) := if bnd62 n = true then some (rangeI 0 n.toNat) else none
def rngO2 (i j : Int) : Option (List Int) := if bnd62 i = true ∧ bnd62 j = true then some (rangeI i (j - i).toNat) else none
def rngO3 (i j : Int) : Option (List Int) := if bnd62 i = true ∧ bnd62 j = true then some (rangeC i (i - j).toNat) else none
theorem rng1_t {n : Int} {xs : List Int} (h : rngO1 n = some xs) : rng1 [eI n] = some (xs.map eI) := by
  unfold rngO1 at h
  split at h
  · rename_i hc
    cases h
    show (if bnd62 n = true then _ else _) = _
    rw [if_pos hc, rangeI_e]
  · cases h
theorem rng1_l (n : Int) (h : bnd62 n = true := by decide) : rng1 [eI n] = some ((rangeI 0 n.toNat).map eI) := rng1_t (if_pos h)
theorem rng2_t {i j : Int} {xs : List Int} (h : rngO2 i j = some xs) : rng2 [eI i, eI j] = some (xs.map eI) := by
  unfold rngO2 at h
  split at h
  · rename_i hc
    cases h
    show (if bnd62 i = true ∧ bnd62 j = true then _ else _) = _
    rw [if_pos hc, rangeI_e]
  · cases h
theorem rng3_t {i j : Int} {xs : List Int} (h : rngO3 i j = some xs) : rng3 [eI i, eI j, eI (-1)] = some (xs.map eI) := by
  unfold rngO3 at h
  split at h
  · rename_i hc
    cases h
    show (if bnd62 i = true ∧ bnd62 j = true ∧ (-1 : Int) = -1 then _ else _) = _
    rw [if_pos ⟨hc.1, hc.2, rfl⟩, rangeC_e]
  · cases h
theorem irng_ {r : List Dv → Option (List Dv)} {ga : MA} {ρ ρ1 : Rho} {rs : List Rv} {ds : List Dv} {xs : List α} (h : ga ρ = some (rs, ρ1)) (h1 : dats ρ1 rs = some ds) (h2 : r ds = some (xs.map e)) : iRng r ga ρ = some (xs.map e, ρ1) := iRng_eq h h1 h2
theorem iseq_l {f : M} {ρ ρ1 : Rho} {xs : List α} (h : frM f ρ = some (.sh (.list (xs.map e)), ρ1)) : iSeq f ρ = some (xs.map e, ρ1) := by
  unfold iSeq
  rw [h]
  rfl
theorem iseq_t {f : M} {ρ ρ1 : Rho} {xs : List α} (h : frM f ρ = some (.sh (.tuple (xs.map e)), ρ1)) : iSeq f ρ = some (xs.map e, ρ1) := by
  unfold iSeq
  rw [h]
  rfl
theorem irev_ {f : M} {ρ ρ1 : Rho} {xs : List α} (h : iSeq f ρ = some (xs.map e, ρ1)) : iRevS f ρ = some (xs.reverse.map e, ρ1) := by
  unfold iRevS
  rw [h]
  simp
def itemsO (d : Dv) : Option (List Dv) := itemsOf d
theorem iseq_a {f : M} {ρ ρ1 : Rho} {d : Dv} {xs : List Dv} (h : frM f ρ = some (.sh d, ρ1)) (h2 : itemsO d = some xs) : iSeq f ρ = some (xs.map eA, ρ1) := by
  unfold iSeq
  rw [h]
  unfold itemsO at h2
  simp only [Option.bind_some, h2]
  simp [show (eA : Dv → Dv) = id from rfl]
theorem atI_map' (xs : List α) (i : Int) : atI (xs.map e) i = (atI xs i).map e := by
  unfold atI
  rw [List.length_map]
  cases ixN xs.length i with
  | none => rfl
  | some j => simp
theorem ixl_e {xs : List α} {i : Int} {v : α} (h : atI xs i = some v) : ixA (.list (xs.map e)) (eI i) = some (.sh (e v)) := by
  show (atI (xs.map e) i).map Rz.sh = _
  rw [atI_map', h]
  rfl
theorem ixt_e {xs : List α} {i : Int} {v : α} (h : atI xs i = some v) : ixA (.tuple (xs.map e)) (eI i) = some (.sh (e v)) := by
  show (atI (xs.map e) i).map Rz.sh = _
  rw [atI_map', h]
  rfl
def ixaO (d k : Dv) : Option Dv := match ixA d k with
  | some (.sh z) => some z
  | _ => none
theorem ixa_e {d k z : Dv} (h : ixaO d k = some z) : ixA d k = some (.sh z) := by
  unfold ixaO at h
  split at h
  · rename_i h2
    cases h
    exact h2
  · cases h
def plusO (xs ys : List α) : Option (List α) := if xs.length + ys.length ≤ sizeLine then some (xs ++ ys) else none
theorem plusT_e {xs ys zs : List α} (h : plusO xs ys = some zs) : addD (.tuple (xs.map e)) (.tuple (ys.map e)) = some (.sh (.tuple (zs.map e))) := by
  unfold plusO at h
  split at h
  · rename_i hc
    cases h
    show (if (xs.map e).length + (ys.map e).length ≤ sizeLine then _ else _) = _
    rw [List.length_map, List.length_map, if_pos hc, List.map_append]
  · cases h
theorem plusL_e {xs ys zs : List α} (h : plusO xs ys = some zs) : addD (.list (xs.map e)) (.list (ys.map e)) = some (.ow (.lst (zs.map e))) := by
  unfold plusO at h
  split at h
  · rename_i hc
    cases h
    show (if (xs.map e).length + (ys.map e).length ≤ sizeLine then _ else _) = _
    rw [List.length_map, List.length_map, if_pos hc, List.map_append]
  · cases h
def repLO (xs : List α) (k : Int) : Option (List α) := if -(9223372036854775808) ≤ k ∧ k < 9223372036854775808 ∧ xs.length * k.toNat ≤ sizeLine then some (List.replicate k.toNat xs).flatten else none
theorem repL_e {xs zs : List α} {k : Int} (h : repLO xs k = some zs) : mulD (.list (xs.map e)) (eI k) = some (.ow (.lst (zs.map e))) := by
  unfold repLO at h
  split at h
  · rename_i hc
    cases h
    show (if -(9223372036854775808) ≤ k ∧ k < 9223372036854775808 ∧ (xs.map e).length * k.toNat ≤ sizeLine then _ else _) = _
    rw [List.length_map, if_pos hc, List.map_flatten, List.map_replicate]
  · cases h
def repTO (xs : List α) (k : Int) : Option (List α) := if xs.isEmpty = false ∧ 2 ≤ k ∧ k ≤ 1000 ∧ xs.length ≤ 1000 then some (List.replicate k.toNat xs).flatten else none
theorem repT_e {xs zs : List α} {k : Int} (h : repTO xs k = some zs) : mulD (.tuple (xs.map e)) (eI k) = some (.sh (.tuple (zs.map e))) := by
  unfold repTO at h
  split at h
  · rename_i hc
    cases h
    show (if (xs.map e) ≠ [] ∧ 2 ≤ k ∧ k ≤ 1000 ∧ (xs.map e).length ≤ 1000 then _ else _) = _
    rw [List.length_map, if_pos ⟨by cases xs <;> simp_all, hc.2⟩, List.map_flatten, List.map_replicate]
  · cases h
def pushO (xs : List α) (v : α) : Option (List α) := if xs.length < sizeLine then some (xs ++ [v]) else none
theorem push_ {fo : M} {ga : MA} {j : Nat} {ρ ρ1 : Rho} {xs zs : List α} {v : α} (h : pushO xs v = some zs) (ho : fo ρ = some (.al j, ρ)) (hi : isOb "list" ρ[j]? = true) (ha : ga ρ = some ([.sh (e v)], ρ1)) (hj : ρ1[j]? = some (.ow (.lst (xs.map e)))) : mutM "list" appG fo ga ρ = some (.sh .none, ρ1.set j (.ow (.lst (zs.map e)))) := by
  unfold pushO at h
  split at h
  · rename_i hc
    cases h
    rw [app_ ho hi ha hj (by rw [List.length_map]; exact hc)]
    simp
  · cases h
def setO (xs : List α) (k : Int) (v : α) : Option (List α) := (ixN xs.length k).map fun j => xs.set j v
theorem set_e {xs zs : List α} {k : Int} {v : α} (h : setO xs k v = some zs) : setOb (.lst (xs.map e)) (eI k) (e v) = some (.lst (zs.map e)) := by
  unfold setO at h
  obtain ⟨j, h1, rfl⟩ := Option.map_eq_some_iff.mp h
  show (ixN (xs.map e).length k).map _ = _
  rw [List.length_map, h1]
  simp
theorem getl_e {xs : List α} {i : Int} {v : α} (h : atI xs i = some v) : getOb (.lst (xs.map e)) (eI i) = some (e v) := by
  show atI (xs.map e) i = _
  rw [atI_map', h]
  rfl
def cutT (xs : List α) (lo hi : Option Int) : List α := (xs.drop (HT.sIx xs.length 0 lo)).take (HT.sIx xs.length xs.length hi - HT.sIx xs.length 0 lo)
theorem cut_e (xs : List α) (lo hi : Option Int) : cutD (xs.map e) lo hi = (cutT xs lo hi).map e := by
  unfold cutD cutT
  rw [List.length_map, List.map_take, List.map_drop]
theorem cutL_ {f : M} {lo hi : MO} {ρ ρ1 ρ2 ρ3 : Rho} {r : Rv} {l h : Option Int} {xs : List α} (ha : pkM f ρ = some (r, ρ1)) (h1 : lo ρ1 = some (l, ρ2)) (h2 : hi ρ2 = some (h, ρ3)) (h3 : dat ρ3 r = some (.list (xs.map e))) : eCut f lo hi ρ = some (.ow (.lst ((cutT xs l h).map e)), ρ3) := by
  unfold eCut
  rw [ha]
  simp only [Option.bind_some]
  rw [h1]
  simp only [Option.bind_some]
  rw [h2]
  simp only [Option.bind_some]
  rw [h3]
  simp only [Option.bind_some, cutG, cut_e]
  rfl
theorem cutT_ {f : M} {lo hi : MO} {ρ ρ1 ρ2 ρ3 : Rho} {r : Rv} {l h : Option Int} {xs : List α} (ha : pkM f ρ = some (r, ρ1)) (h1 : lo ρ1 = some (l, ρ2)) (h2 : hi ρ2 = some (h, ρ3)) (h3 : dat ρ3 r = some (.tuple (xs.map e))) : eCut f lo hi ρ = some (.sh (.tuple ((cutT xs l h).map e)), ρ3) := by
  unfold eCut
  rw [ha]
  simp only [Option.bind_some]
  rw [h1]
  simp only [Option.bind_some]
  rw [h2]
  simp only [Option.bind_some]
  rw [h3]
  simp only [Option.bind_some, cutG, cut_e]
  rfl
theorem ono_ (ρ : Rho) : oNo ρ = some (none, ρ) := rfl
theorem oint_ {f : M} {ρ ρ1 : Rho} {i : Int} (h : f ρ = some (.sh (eI i), ρ1)) : oInt f ρ = some (some i, ρ1) := by
  unfold oInt
  rw [h]
  rfl
theorem revT_e (xs : List α) : revD (.tuple (xs.map e)) = some (.sh (.tuple (xs.reverse.map e))) := by
  show some (Rz.sh (.tuple (xs.map e).reverse)) = _
  rw [List.map_reverse]
theorem revL_e (xs : List α) : revD (.list (xs.map e)) = some (.ow (.lst (xs.reverse.map e))) := by
  show some (Rz.ow (.lst (xs.map e).reverse)) = _
  rw [List.map_reverse]
theorem tupL_e (xs : List α) : tupleG [.list (xs.map e)] = some (.sh (.tuple (xs.map e))) := rfl
theorem tupT_e (xs : List α) : tupleG [.tuple (xs.map e)] = some (.sh (.tuple (xs.map e))) := rfl
theorem lstL_e (xs : List α) : listG [.list (xs.map e)] = some (.ow (.lst (xs.map e))) := rfl
theorem lstT_e (xs : List α) : listG [.tuple (xs.map e)] = some (.ow (.lst (xs.map e))) := rfl
theorem lenL_e (xs : List α) : lenG [.list (xs.map e)] = some (.sh (eI (xs.length : Int))) := by
  show some (Rz.sh (.int ((xs.map e).length : Int))) = _
  rw [List.length_map]
  rfl
theorem lenT_e (xs : List α) : lenG [.tuple (xs.map e)] = some (.sh (eI (xs.length : Int))) := by
  show some (Rz.sh (.int ((xs.map e).length : Int))) = _
  rw [List.length_map]
  rfl
theorem lenAL_e (xs : List α) : lenA [.list (xs.map e)] = some (.sh (eI (xs.length : Int))) := lenL_e xs
theorem lenAT_e (xs : List α) : lenA [.tuple (xs.map e)] = some (.sh (eI (xs.length : Int))) := lenT_e xs
def lenaO (d : Dv) : Option Int := match lenG [d] with
  | some (.sh (.int z)) => some z
  | _ => none
theorem lena_e {d : Dv} {z : Int} (h : lenaO d = some z) : lenG [d] = some (.sh (eI z)) := by
  unfold lenaO at h
  split at h
  · rename_i h2
    cases h
    exact h2
  · cases h
theorem sumL_e (xs : List Int) : sumG [.list (xs.map eI)] = some (.sh (eI xs.sum)) := by
  show (intsOf (xs.map PyData.int)).map _ = _
  rw [intsOf_map]
  rfl
theorem sumT_e (xs : List Int) : sumG [.tuple (xs.map eI)] = some (.sh (eI xs.sum)) := by
  show (intsOf (xs.map PyData.int)).map _ = _
  rw [intsOf_map]
  rfl
theorem isEmpty_map (xs : List α) : (xs.map e).isEmpty = xs.isEmpty := by cases xs <;> rfl
theorem truL_e (xs : List α) : truD (.list (xs.map e)) = some (!xs.isEmpty) := by
  show some (!(xs.map e).isEmpty) = _
  rw [isEmpty_map]
theorem truT_e (xs : List α) : truD (.tuple (xs.map e)) = some (!xs.isEmpty) := by
  show some (!(xs.map e).isEmpty) = _
  rw [isEmpty_map]
theorem tru_i (i : Int) : truD (eI i) = some (i != 0) := rfl
theorem tru_b (i : Bool) : truD (eB i) = some i := rfl
/-! `is True`, isinstance -/
theorem isi_e {T : String} {d : Dv} {b : Bool} (h : tagD d = false) (h2 : isT T d = b) : isiD T d = some (.sh (eB b)) := by
  unfold isiD
  rw [if_neg (by rw [h]; decide), h2]
  rfl
def isiO (T : String) (d : Dv) : Option Bool := if tagD d = true then none else some (isT T d)
theorem isi_a {T : String} {d : Dv} {b : Bool} (h : isiO T d = some b) : isiD T d = some (.sh (eB b)) := by
  unfold isiO at h
  unfold isiD
  split at h
  · cases h
  · rename_i hc
    cases h
    rw [if_neg hc]
    rfl
/-! ### dicts -/
def ekv {κ ν : Type} (ek : κ → Dv) (ev : ν → Dv) : κ × ν → Dv × Dv := fun p => (ek p.1, ev p.2)
class KeyE {κ : Type} (ek : κ → Dv) extends EqE ek where
  okt : ∀ a, okT (ek a) = true
  same : ∀ a b, decide (keyN (ek a) = keyN (ek b)) = EqE.eq ek a b
class KeyI {κ : Type} (ek : κ → Dv) extends EqE ek where
  okt : ∀ a, isKey (ek a) = true
  same : ∀ a b, eqKey (ek a) (ek b) = EqE.eq ek a b
instance : KeyI eI where
  okt _ := rfl
  same _ _ := rfl
section
variable {κ ν : Type} {ek : κ → Dv} {ev : ν → Dv}
def dgetO (q : κ → κ → Bool) : List (κ × ν) → κ → Option ν
  | [], _ => none
  | p :: r, k => if q p.1 k = true then some p.2 else dgetO q r k
def dput (q : κ → κ → Bool) (kvs : List (κ × ν)) (k : κ) (v : ν) : List (κ × ν) := if kvs.any (fun p => q p.1 k) = true then kvs.map (fun p => if q p.1 k = true then (p.1, v) else p) else kvs ++ [(k, v)]
def dputO (q : κ → κ → Bool) (kvs : List (κ × ν)) (k : κ) (v : ν) : Option (List (κ × ν)) := if kvs.length < sizeLine then some (dput q kvs k v) else none
theorem getD_e [KeyI ek] (k : κ) : ∀ kvs : List (κ × ν), getD (kvs.map (ekv ek ev)) (ek k) = (dgetO (EqE.eq ek) kvs k).map ev
  | [] => rfl
  | p :: r => by
    rw [List.map_cons]
    show (if eqKey (ek p.1) (ek k) = true then some (ev p.2) else getD (r.map _) (ek k)) = _
    unfold dgetO
    rw [KeyI.same, getD_e k r]
    split <;> rfl
theorem putD_e [KeyI ek] (kvs : List (κ × ν)) (k : κ) (v : ν) : putD (kvs.map (ekv ek ev)) (ek k) (ev v) = (dput (EqE.eq ek) kvs k v).map (ekv ek ev) := by
  unfold putD dput
  rw [List.any_map]
  rw [show ((fun p : Dv × Dv => eqKey p.1 (ek k)) ∘ ekv ek ev) = fun p : κ × ν => EqE.eq ek p.1 k from funext fun p => KeyI.same p.1 k]
  split
  · rw [List.map_map, List.map_map]
    congr 1
    funext p
    show (if eqKey (ek p.1) (ek k) = true then _ else _) = ekv ek ev (if _ then _ else _)
    rw [KeyI.same]
    split <;> rfl
  · simp [ekv]
theorem getN_e [KeyE ek] (k : κ) : ∀ kvs : List (κ × ν), getN (kvs.map (ekv ek ev)) (ek k) = (dgetO (EqE.eq ek) kvs k).map ev
  | [] => rfl
  | p :: r => by
    rw [List.map_cons]
    show (if keyN (ek p.1) = keyN (ek k) then some (ev p.2) else getN (r.map _) (ek k)) = _
    unfold dgetO
    rw [← KeyE.same (ek := ek), getN_e k r]
    by_cases h : keyN (ek p.1) = keyN (ek k)
    · rw [if_pos h, if_pos (decide_eq_true h)]
      rfl
    · rw [if_neg h, if_neg (by simpa using h)]
theorem putN_e [KeyE ek] (kvs : List (κ × ν)) (k : κ) (v : ν) : putN (kvs.map (ekv ek ev)) (ek k) (ev v) = (dput (EqE.eq ek) kvs k v).map (ekv ek ev) := by
  unfold putN dput
  rw [List.any_map]
  rw [show ((fun p : Dv × Dv => decide (keyN p.1 = keyN (ek k))) ∘ ekv ek ev) = fun p : κ × ν => EqE.eq ek p.1 k from funext fun p => KeyE.same p.1 k]
  split
  · rw [List.map_map, List.map_map]
    congr 1
    funext p
    show (if keyN (ek p.1) = keyN (ek k) then _ else _) = ekv ek ev (if _ then _ else _)
    rw [← KeyE.same (ek := ek)]
    by_cases h : keyN (ek p.1) = keyN (ek k)
    · rw [if_pos h, if_pos (decide_eq_true h)]
      rfl
    · rw [if_neg h, if_neg (by simpa using h)]
  · simp [ekv]
theorem setI_e [KeyI ek] {kvs zs : List (κ × ν)} {k : κ} {v : ν} (h : dputO (EqE.eq ek) kvs k v = some zs) : setOb (.dct (kvs.map (ekv ek ev))) (ek k) (ev v) = some (.dct (zs.map (ekv ek ev))) := by
  unfold dputO at h
  split at h
  · rename_i hc
    cases h
    have hk := KeyI.okt (ek := ek) k
    show (if isKey (ek k) = true ∧ (kvs.map (ekv ek ev)).length < sizeLine then some (Ob.dct (putD (kvs.map (ekv ek ev)) (ek k) (ev v))) else none) = _
    rw [if_pos ⟨hk, by rw [List.length_map]; exact hc⟩, putD_e]
  · cases h
theorem setN_e [KeyE ek] {kvs zs : List (κ × ν)} {k : κ} {v : ν} (h : dputO (EqE.eq ek) kvs k v = some zs) : setOb (.dtn (kvs.map (ekv ek ev))) (ek k) (ev v) = some (.dtn (zs.map (ekv ek ev))) := by
  unfold dputO at h
  split at h
  · rename_i hc
    cases h
    have hk := KeyE.okt (ek := ek) k
    show (if okT (ek k) = true ∧ (kvs.map (ekv ek ev)).length < sizeLine then some (Ob.dtn (putN (kvs.map (ekv ek ev)) (ek k) (ev v))) else none) = _
    rw [if_pos ⟨hk, by rw [List.length_map]; exact hc⟩, putN_e]
  · cases h
def dhas (q : κ → κ → Bool) (kvs : List (κ × ν)) (k : κ) : Bool := (dgetO q kvs k).isSome
theorem isKey_okT {d : Dv} (h : okT d = true) : isKey d = false := by
  cases d <;> first | rfl | cases h
theorem inN_e [KeyE ek] (kvs : List (κ × ν)) (k : κ) : inAD (ek k) (obD (.dtn (kvs.map (ekv ek ev)))) = some (.sh (eB (dhas (EqE.eq ek) kvs k))) := by
  have hk := KeyE.okt (ek := ek) k
  unfold inAD inA obD
  simp only [plD, isKey_okT hk, List.tail_cons, getN_e, hk]
  simp [dhas]
  rfl
theorem ninN_e [KeyE ek] (kvs : List (κ × ν)) (k : κ) : ninAD (ek k) (obD (.dtn (kvs.map (ekv ek ev)))) = some (.sh (eB (!dhas (EqE.eq ek) kvs k))) := by
  have hk := KeyE.okt (ek := ek) k
  unfold ninAD inA obD
  simp only [plD, isKey_okT hk, List.tail_cons, getN_e, hk]
  simp [dhas]
  rfl
theorem plD_ek [KeyI ek] : ∀ kvs : List (κ × ν), plD (kvs.map (ekv ek ev)) = true
  | [] => rfl
  | p :: r => by
    have := KeyI.okt (ek := ek) p.1
    show plD ((ek p.1, _) :: _) = true
    cases h : ek p.1 <;> first | rfl | (rw [h] at this; cases this)
theorem inI_e [KeyI ek] (kvs : List (κ × ν)) (k : κ) : inAD (ek k) (obD (.dct (kvs.map (ekv ek ev)))) = some (.sh (eB (dhas (EqE.eq ek) kvs k))) := by
  have hk := KeyI.okt (ek := ek) k
  unfold inAD inA obD
  simp only [plD_ek, hk, getD_e]
  simp [dhas]
  rfl
theorem ninI_e [KeyI ek] (kvs : List (κ × ν)) (k : κ) : ninAD (ek k) (obD (.dct (kvs.map (ekv ek ev)))) = some (.sh (eB (!dhas (EqE.eq ek) kvs k))) := by
  have hk := KeyI.okt (ek := ek) k
  unfold ninAD inA obD
  simp only [plD_ek, hk, getD_e]
  simp [dhas]
  rfl
theorem ixI_e [KeyI ek] {kvs : List (κ × ν)} {k : κ} {v : ν} (h : dgetO (EqE.eq ek) kvs k = some v) : ixA (obD (.dct (kvs.map (ekv ek ev)))) (ek k) = some (.sh (ev v)) := by
  have hk := KeyI.okt (ek := ek) k
  unfold ixA obD
  simp only [plD_ek, hk, getD_e, h]
  rfl
theorem getI_e [KeyI ek] {kvs : List (κ × ν)} {k : κ} {v : ν} (h : dgetO (EqE.eq ek) kvs k = some v) : getOb (.dct (kvs.map (ekv ek ev))) (ek k) = some (ev v) := by
  have hk := KeyI.okt (ek := ek) k
  show (if isKey (ek k) = true then getD (kvs.map (ekv ek ev)) (ek k) else none) = _
  rw [if_pos hk, getD_e, h]
  rfl
end
/-! keys that are tuples of ints, and of such -/
theorem keyN_i (i : Int) : keyN (eI i) = some (.num i) := rfl
class NestE {κ : Type} (ek : κ → Dv) extends EqE ek where
  key : κ → NestedKey
  dpt : Nat
  kn : ∀ a, keyN (ek a) = some (key a)
  kd : ∀ a, (key a).depth ≤ dpt
  ki : ∀ a b, key a = key b → a = b
instance : NestE eI where
  key i := .num i
  dpt := 0
  kn _ := rfl
  kd _ := Nat.le_refl _
  ki a b h := by cases h; rfl
theorem keyNs_map {κ : Type} {ek : κ → Dv} [NestE ek] : ∀ xs : List κ, keyNs (xs.map ek) = some (xs.map (NestE.key ek))
  | [] => rfl
  | x :: xs => by
    rw [List.map_cons]
    show (keyN (ek x)).bind _ = _
    rw [NestE.kn, keyNs_map xs]
    rfl
theorem keyd_map {κ : Type} {ek : κ → Dv} [NestE ek] : ∀ xs : List κ, NestedKey.depthAll (xs.map (NestE.key ek)) ≤ NestE.dpt ek
  | [] => Nat.zero_le _
  | x :: xs => by
    have := NestE.kd (ek := ek) x
    have := keyd_map (ek := ek) xs
    simp only [List.map_cons, NestedKey.depthAll]
    omega
theorem keyi_map {κ : Type} {ek : κ → Dv} [NestE ek] : ∀ xs ys : List κ, xs.map (NestE.key ek) = ys.map (NestE.key ek) → xs = ys
  | [], [], _ => rfl
  | [], _ :: _, h => by cases h
  | _ :: _, [], h => by cases h
  | x :: xs, y :: ys, h => by
    simp only [List.map_cons, List.cons.injEq] at h
    rw [NestE.ki x y h.1, keyi_map xs ys h.2]
instance {κ : Type} {ek : κ → Dv} [NestE ek] : NestE (eT ek) where
  key xs := .tup (xs.map (NestE.key ek))
  dpt := NestE.dpt ek + 1
  kn xs := by
    show (keyNs (xs.map ek)).map _ = _
    rw [keyNs_map]
    rfl
  kd xs := by
    have := keyd_map (ek := ek) xs
    simp only [NestedKey.depth]
    omega
  ki xs ys h := keyi_map xs ys (NestedKey.tup.inj h)
instance {κ κ' : Type} {ek : κ → Dv} {ek' : κ' → Dv} [NestE ek] [NestE ek'] : NestE (e2 ek ek') where
  key x := .tup [NestE.key ek x.1, NestE.key ek' x.2]
  dpt := max (NestE.dpt ek) (NestE.dpt ek') + 1
  kn x := by
    show (keyNs [ek x.1, ek' x.2]).map _ = _
    simp [keyNs, NestE.kn]
  kd x := by
    have := NestE.kd (ek := ek) x.1
    have := NestE.kd (ek := ek') x.2
    simp only [NestedKey.depth, NestedKey.depthAll]
    omega
  ki x y h := by
    obtain ⟨x1, x2⟩ := x
    obtain ⟨y1, y2⟩ := y
    have h := NestedKey.tup.inj h
    simp only [List.cons.injEq] at h
    rw [NestE.ki _ _ h.1, NestE.ki _ _ h.2.1]
instance {κ κ' κ'' : Type} {ek : κ → Dv} {ek' : κ' → Dv} {ek'' : κ'' → Dv} [NestE ek] [NestE ek'] [NestE ek''] : NestE (e3 ek ek' ek'') where
  key x := .tup [NestE.key ek x.1, NestE.key ek' x.2.1, NestE.key ek'' x.2.2]
  dpt := max (NestE.dpt ek) (max (NestE.dpt ek') (NestE.dpt ek'')) + 1
  kn x := by
    show (keyNs [ek x.1, ek' x.2.1, ek'' x.2.2]).map _ = _
    simp [keyNs, NestE.kn]
  kd x := by
    have := NestE.kd (ek := ek) x.1
    have := NestE.kd (ek := ek') x.2.1
    have := NestE.kd (ek := ek'') x.2.2
    simp only [NestedKey.depth, NestedKey.depthAll]
    omega
  ki x y h := by
    obtain ⟨x1, x2, x3⟩ := x
    obtain ⟨y1, y2, y3⟩ := y
    have h := NestedKey.tup.inj h
    simp only [List.cons.injEq] at h
    rw [NestE.ki _ _ h.1, NestE.ki _ _ h.2.1, NestE.ki _ _ h.2.2.1]
class IsTupE {κ : Type} (ek : κ → Dv) where
  tup : ∀ a, ∃ ds, ek a = .tuple ds
instance {κ : Type} {ek : κ → Dv} : IsTupE (eT ek) := ⟨fun xs => ⟨_, rfl⟩⟩
instance {κ κ' : Type} {ek : κ → Dv} {ek' : κ' → Dv} : IsTupE (e2 ek ek') := ⟨fun xs => ⟨_, rfl⟩⟩
instance {κ κ' κ'' : Type} {ek : κ → Dv} {ek' : κ' → Dv} {ek'' : κ'' → Dv} : IsTupE (e3 ek ek' ek'') := ⟨fun xs => ⟨_, rfl⟩⟩
class Le8 (n : Nat) : Prop where
  le : n ≤ 8
@[reducible] def keyE_of {κ : Type} (ek : κ → Dv) [NestE ek] [IsTupE ek] (h : NestE.dpt ek ≤ 8) : KeyE ek where
  okt a := by
    obtain ⟨ds, hd⟩ := IsTupE.tup (ek := ek) a
    have hk := NestE.kn (ek := ek) a
    rw [hd] at hk ⊢
    unfold okT okN
    rw [hk]
    exact decide_eq_true (Nat.le_trans (NestE.kd a) h)
  same a b := by
    rw [NestE.kn, NestE.kn]
    by_cases hab : a = b
    · subst hab
      rw [(EqE.iff a a).mpr rfl]
      simp
    · rw [eqE_ne.mpr hab |> (fun h => (show EqE.eq ek a b = false from h))]
      refine decide_eq_false fun h => hab (NestE.ki _ _ (Option.some.inj h))
instance : KeyE (eT eI) := keyE_of _ (by decide)
instance : KeyE (e2 eI eI) := keyE_of _ (by decide)
instance : KeyE (e3 eI eI eI) := keyE_of _ (by decide)
instance : KeyE (eT (eT eI)) := keyE_of _ (by decide)
instance : KeyE (eT (e2 eI eI)) := keyE_of _ (by decide)
instance : KeyE (e2 (eT eI) (eT eI)) := keyE_of _ (by decide)
end
end DL

set_option Elab.async false
set_option linter.all false
set_option autoImplicit false
set_option maxRecDepth 100000
namespace DL
open PySem PySem.Spec PyProof.Rows L2
theorem ev_0 {d : Dv} {r : Rho} : eVar 0 (.sh d :: r) = some (.sh d, .sh d :: r) := rfl
theorem eva_0 {o : Ob} {r : Rho} : eVar 0 (.ow o :: r) = some (.al 0, .ow o :: r) := rfl
theorem ev_1 {s0 : Sl} {d : Dv} {r : Rho} : eVar 1 (s0 :: .sh d :: r) = some (.sh d, s0 :: .sh d :: r) := rfl
theorem eva_1 {s0 : Sl} {o : Ob} {r : Rho} : eVar 1 (s0 :: .ow o :: r) = some (.al 1, s0 :: .ow o :: r) := rfl
theorem ev_2 {s0 s1 : Sl} {d : Dv} {r : Rho} : eVar 2 (s0 :: s1 :: .sh d :: r) = some (.sh d, s0 :: s1 :: .sh d :: r) := rfl
theorem eva_2 {s0 s1 : Sl} {o : Ob} {r : Rho} : eVar 2 (s0 :: s1 :: .ow o :: r) = some (.al 2, s0 :: s1 :: .ow o :: r) := rfl
theorem ev_3 {s0 s1 s2 : Sl} {d : Dv} {r : Rho} : eVar 3 (s0 :: s1 :: s2 :: .sh d :: r) = some (.sh d, s0 :: s1 :: s2 :: .sh d :: r) := rfl
theorem eva_3 {s0 s1 s2 : Sl} {o : Ob} {r : Rho} : eVar 3 (s0 :: s1 :: s2 :: .ow o :: r) = some (.al 3, s0 :: s1 :: s2 :: .ow o :: r) := rfl
theorem ev_4 {s0 s1 s2 s3 : Sl} {d : Dv} {r : Rho} : eVar 4 (s0 :: s1 :: s2 :: s3 :: .sh d :: r) = some (.sh d, s0 :: s1 :: s2 :: s3 :: .sh d :: r) := rfl
theorem eva_4 {s0 s1 s2 s3 : Sl} {o : Ob} {r : Rho} : eVar 4 (s0 :: s1 :: s2 :: s3 :: .ow o :: r) = some (.al 4, s0 :: s1 :: s2 :: s3 :: .ow o :: r) := rfl
theorem ev_5 {s0 s1 s2 s3 s4 : Sl} {d : Dv} {r : Rho} : eVar 5 (s0 :: s1 :: s2 :: s3 :: s4 :: .sh d :: r) = some (.sh d, s0 :: s1 :: s2 :: s3 :: s4 :: .sh d :: r) := rfl
theorem eva_5 {s0 s1 s2 s3 s4 : Sl} {o : Ob} {r : Rho} : eVar 5 (s0 :: s1 :: s2 :: s3 :: s4 :: .ow o :: r) = some (.al 5, s0 :: s1 :: s2 :: s3 :: s4 :: .ow o :: r) := rfl
theorem ev_6 {s0 s1 s2 s3 s4 s5 : Sl} {d : Dv} {r : Rho} : eVar 6 (s0 :: s1 :: s2 :: s3 :: s4 :: s5 :: .sh d :: r) = some (.sh d, s0 :: s1 :: s2 :: s3 :: s4 :: s5 :: .sh d :: r) := rfl
theorem eva_6 {s0 s1 s2 s3 s4 s5 : Sl} {o : Ob} {r : Rho} : eVar 6 (s0 :: s1 :: s2 :: s3 :: s4 :: s5 :: .ow o :: r) = some (.al 6, s0 :: s1 :: s2 :: s3 :: s4 :: s5 :: .ow o :: r) := rfl
theorem ev_7 {s0 s1 s2 s3 s4 s5 s6 : Sl} {d : Dv} {r : Rho} : eVar 7 (s0 :: s1 :: s2 :: s3 :: s4 :: s5 :: s6 :: .sh d :: r) = some (.sh d, s0 :: s1 :: s2 :: s3 :: s4 :: s5 :: s6 :: .sh d :: r) := rfl
theorem eva_7 {s0 s1 s2 s3 s4 s5 s6 : Sl} {o : Ob} {r : Rho} : eVar 7 (s0 :: s1 :: s2 :: s3 :: s4 :: s5 :: s6 :: .ow o :: r) = some (.al 7, s0 :: s1 :: s2 :: s3 :: s4 :: s5 :: s6 :: .ow o :: r) := rfl
theorem ev_8 {s0 s1 s2 s3 s4 s5 s6 s7 : Sl} {d : Dv} {r : Rho} : eVar 8 (s0 :: s1 :: s2 :: s3 :: s4 :: s5 :: s6 :: s7 :: .sh d :: r) = some (.sh d, s0 :: s1 :: s2 :: s3 :: s4 :: s5 :: s6 :: s7 :: .sh d :: r) := rfl
theorem eva_8 {s0 s1 s2 s3 s4 s5 s6 s7 : Sl} {o : Ob} {r : Rho} : eVar 8 (s0 :: s1 :: s2 :: s3 :: s4 :: s5 :: s6 :: s7 :: .ow o :: r) = some (.al 8, s0 :: s1 :: s2 :: s3 :: s4 :: s5 :: s6 :: s7 :: .ow o :: r) := rfl
theorem ev_9 {s0 s1 s2 s3 s4 s5 s6 s7 s8 : Sl} {d : Dv} {r : Rho} : eVar 9 (s0 :: s1 :: s2 :: s3 :: s4 :: s5 :: s6 :: s7 :: s8 :: .sh d :: r) = some (.sh d, s0 :: s1 :: s2 :: s3 :: s4 :: s5 :: s6 :: s7 :: s8 :: .sh d :: r) := rfl
theorem eva_9 {s0 s1 s2 s3 s4 s5 s6 s7 s8 : Sl} {o : Ob} {r : Rho} : eVar 9 (s0 :: s1 :: s2 :: s3 :: s4 :: s5 :: s6 :: s7 :: s8 :: .ow o :: r) = some (.al 9, s0 :: s1 :: s2 :: s3 :: s4 :: s5 :: s6 :: s7 :: s8 :: .ow o :: r) := rfl
theorem ev_10 {s0 s1 s2 s3 s4 s5 s6 s7 s8 s9 : Sl} {d : Dv} {r : Rho} : eVar 10 (s0 :: s1 :: s2 :: s3 :: s4 :: s5 :: s6 :: s7 :: s8 :: s9 :: .sh d :: r) = some (.sh d, s0 :: s1 :: s2 :: s3 :: s4 :: s5 :: s6 :: s7 :: s8 :: s9 :: .sh d :: r) := rfl
theorem eva_10 {s0 s1 s2 s3 s4 s5 s6 s7 s8 s9 : Sl} {o : Ob} {r : Rho} : eVar 10 (s0 :: s1 :: s2 :: s3 :: s4 :: s5 :: s6 :: s7 :: s8 :: s9 :: .ow o :: r) = some (.al 10, s0 :: s1 :: s2 :: s3 :: s4 :: s5 :: s6 :: s7 :: s8 :: s9 :: .ow o :: r) := rfl
theorem ev_11 {s0 s1 s2 s3 s4 s5 s6 s7 s8 s9 s10 : Sl} {d : Dv} {r : Rho} : eVar 11 (s0 :: s1 :: s2 :: s3 :: s4 :: s5 :: s6 :: s7 :: s8 :: s9 :: s10 :: .sh d :: r) = some (.sh d, s0 :: s1 :: s2 :: s3 :: s4 :: s5 :: s6 :: s7 :: s8 :: s9 :: s10 :: .sh d :: r) := rfl
theorem eva_11 {s0 s1 s2 s3 s4 s5 s6 s7 s8 s9 s10 : Sl} {o : Ob} {r : Rho} : eVar 11 (s0 :: s1 :: s2 :: s3 :: s4 :: s5 :: s6 :: s7 :: s8 :: s9 :: s10 :: .ow o :: r) = some (.al 11, s0 :: s1 :: s2 :: s3 :: s4 :: s5 :: s6 :: s7 :: s8 :: s9 :: s10 :: .ow o :: r) := rfl
theorem ev_12 {s0 s1 s2 s3 s4 s5 s6 s7 s8 s9 s10 s11 : Sl} {d : Dv} {r : Rho} : eVar 12 (s0 :: s1 :: s2 :: s3 :: s4 :: s5 :: s6 :: s7 :: s8 :: s9 :: s10 :: s11 :: .sh d :: r) = some (.sh d, s0 :: s1 :: s2 :: s3 :: s4 :: s5 :: s6 :: s7 :: s8 :: s9 :: s10 :: s11 :: .sh d :: r) := rfl
theorem eva_12 {s0 s1 s2 s3 s4 s5 s6 s7 s8 s9 s10 s11 : Sl} {o : Ob} {r : Rho} : eVar 12 (s0 :: s1 :: s2 :: s3 :: s4 :: s5 :: s6 :: s7 :: s8 :: s9 :: s10 :: s11 :: .ow o :: r) = some (.al 12, s0 :: s1 :: s2 :: s3 :: s4 :: s5 :: s6 :: s7 :: s8 :: s9 :: s10 :: s11 :: .ow o :: r) := rfl
theorem ev_13 {s0 s1 s2 s3 s4 s5 s6 s7 s8 s9 s10 s11 s12 : Sl} {d : Dv} {r : Rho} : eVar 13 (s0 :: s1 :: s2 :: s3 :: s4 :: s5 :: s6 :: s7 :: s8 :: s9 :: s10 :: s11 :: s12 :: .sh d :: r) = some (.sh d, s0 :: s1 :: s2 :: s3 :: s4 :: s5 :: s6 :: s7 :: s8 :: s9 :: s10 :: s11 :: s12 :: .sh d :: r) := rfl
theorem eva_13 {s0 s1 s2 s3 s4 s5 s6 s7 s8 s9 s10 s11 s12 : Sl} {o : Ob} {r : Rho} : eVar 13 (s0 :: s1 :: s2 :: s3 :: s4 :: s5 :: s6 :: s7 :: s8 :: s9 :: s10 :: s11 :: s12 :: .ow o :: r) = some (.al 13, s0 :: s1 :: s2 :: s3 :: s4 :: s5 :: s6 :: s7 :: s8 :: s9 :: s10 :: s11 :: s12 :: .ow o :: r) := rfl
theorem ev_14 {s0 s1 s2 s3 s4 s5 s6 s7 s8 s9 s10 s11 s12 s13 : Sl} {d : Dv} {r : Rho} : eVar 14 (s0 :: s1 :: s2 :: s3 :: s4 :: s5 :: s6 :: s7 :: s8 :: s9 :: s10 :: s11 :: s12 :: s13 :: .sh d :: r) = some (.sh d, s0 :: s1 :: s2 :: s3 :: s4 :: s5 :: s6 :: s7 :: s8 :: s9 :: s10 :: s11 :: s12 :: s13 :: .sh d :: r) := rfl
theorem eva_14 {s0 s1 s2 s3 s4 s5 s6 s7 s8 s9 s10 s11 s12 s13 : Sl} {o : Ob} {r : Rho} : eVar 14 (s0 :: s1 :: s2 :: s3 :: s4 :: s5 :: s6 :: s7 :: s8 :: s9 :: s10 :: s11 :: s12 :: s13 :: .ow o :: r) = some (.al 14, s0 :: s1 :: s2 :: s3 :: s4 :: s5 :: s6 :: s7 :: s8 :: s9 :: s10 :: s11 :: s12 :: s13 :: .ow o :: r) := rfl
theorem ev_15 {s0 s1 s2 s3 s4 s5 s6 s7 s8 s9 s10 s11 s12 s13 s14 : Sl} {d : Dv} {r : Rho} : eVar 15 (s0 :: s1 :: s2 :: s3 :: s4 :: s5 :: s6 :: s7 :: s8 :: s9 :: s10 :: s11 :: s12 :: s13 :: s14 :: .sh d :: r) = some (.sh d, s0 :: s1 :: s2 :: s3 :: s4 :: s5 :: s6 :: s7 :: s8 :: s9 :: s10 :: s11 :: s12 :: s13 :: s14 :: .sh d :: r) := rfl
theorem eva_15 {s0 s1 s2 s3 s4 s5 s6 s7 s8 s9 s10 s11 s12 s13 s14 : Sl} {o : Ob} {r : Rho} : eVar 15 (s0 :: s1 :: s2 :: s3 :: s4 :: s5 :: s6 :: s7 :: s8 :: s9 :: s10 :: s11 :: s12 :: s13 :: s14 :: .ow o :: r) = some (.al 15, s0 :: s1 :: s2 :: s3 :: s4 :: s5 :: s6 :: s7 :: s8 :: s9 :: s10 :: s11 :: s12 :: s13 :: s14 :: .ow o :: r) := rfl
theorem ev_16 {s0 s1 s2 s3 s4 s5 s6 s7 s8 s9 s10 s11 s12 s13 s14 s15 : Sl} {d : Dv} {r : Rho} : eVar 16 (s0 :: s1 :: s2 :: s3 :: s4 :: s5 :: s6 :: s7 :: s8 :: s9 :: s10 :: s11 :: s12 :: s13 :: s14 :: s15 :: .sh d :: r) = some (.sh d, s0 :: s1 :: s2 :: s3 :: s4 :: s5 :: s6 :: s7 :: s8 :: s9 :: s10 :: s11 :: s12 :: s13 :: s14 :: s15 :: .sh d :: r) := rfl
theorem eva_16 {s0 s1 s2 s3 s4 s5 s6 s7 s8 s9 s10 s11 s12 s13 s14 s15 : Sl} {o : Ob} {r : Rho} : eVar 16 (s0 :: s1 :: s2 :: s3 :: s4 :: s5 :: s6 :: s7 :: s8 :: s9 :: s10 :: s11 :: s12 :: s13 :: s14 :: s15 :: .ow o :: r) = some (.al 16, s0 :: s1 :: s2 :: s3 :: s4 :: s5 :: s6 :: s7 :: s8 :: s9 :: s10 :: s11 :: s12 :: s13 :: s14 :: s15 :: .ow o :: r) := rfl
theorem ev_17 {s0 s1 s2 s3 s4 s5 s6 s7 s8 s9 s10 s11 s12 s13 s14 s15 s16 : Sl} {d : Dv} {r : Rho} : eVar 17 (s0 :: s1 :: s2 :: s3 :: s4 :: s5 :: s6 :: s7 :: s8 :: s9 :: s10 :: s11 :: s12 :: s13 :: s14 :: s15 :: s16 :: .sh d :: r) = some (.sh d, s0 :: s1 :: s2 :: s3 :: s4 :: s5 :: s6 :: s7 :: s8 :: s9 :: s10 :: s11 :: s12 :: s13 :: s14 :: s15 :: s16 :: .sh d :: r) := rfl
theorem eva_17 {s0 s1 s2 s3 s4 s5 s6 s7 s8 s9 s10 s11 s12 s13 s14 s15 s16 : Sl} {o : Ob} {r : Rho} : eVar 17 (s0 :: s1 :: s2 :: s3 :: s4 :: s5 :: s6 :: s7 :: s8 :: s9 :: s10 :: s11 :: s12 :: s13 :: s14 :: s15 :: s16 :: .ow o :: r) = some (.al 17, s0 :: s1 :: s2 :: s3 :: s4 :: s5 :: s6 :: s7 :: s8 :: s9 :: s10 :: s11 :: s12 :: s13 :: s14 :: s15 :: s16 :: .ow o :: r) := rfl
theorem ev_18 {s0 s1 s2 s3 s4 s5 s6 s7 s8 s9 s10 s11 s12 s13 s14 s15 s16 s17 : Sl} {d : Dv} {r : Rho} : eVar 18 (s0 :: s1 :: s2 :: s3 :: s4 :: s5 :: s6 :: s7 :: s8 :: s9 :: s10 :: s11 :: s12 :: s13 :: s14 :: s15 :: s16 :: s17 :: .sh d :: r) = some (.sh d, s0 :: s1 :: s2 :: s3 :: s4 :: s5 :: s6 :: s7 :: s8 :: s9 :: s10 :: s11 :: s12 :: s13 :: s14 :: s15 :: s16 :: s17 :: .sh d :: r) := rfl
theorem eva_18 {s0 s1 s2 s3 s4 s5 s6 s7 s8 s9 s10 s11 s12 s13 s14 s15 s16 s17 : Sl} {o : Ob} {r : Rho} : eVar 18 (s0 :: s1 :: s2 :: s3 :: s4 :: s5 :: s6 :: s7 :: s8 :: s9 :: s10 :: s11 :: s12 :: s13 :: s14 :: s15 :: s16 :: s17 :: .ow o :: r) = some (.al 18, s0 :: s1 :: s2 :: s3 :: s4 :: s5 :: s6 :: s7 :: s8 :: s9 :: s10 :: s11 :: s12 :: s13 :: s14 :: s15 :: s16 :: s17 :: .ow o :: r) := rfl
theorem ev_19 {s0 s1 s2 s3 s4 s5 s6 s7 s8 s9 s10 s11 s12 s13 s14 s15 s16 s17 s18 : Sl} {d : Dv} {r : Rho} : eVar 19 (s0 :: s1 :: s2 :: s3 :: s4 :: s5 :: s6 :: s7 :: s8 :: s9 :: s10 :: s11 :: s12 :: s13 :: s14 :: s15 :: s16 :: s17 :: s18 :: .sh d :: r) = some (.sh d, s0 :: s1 :: s2 :: s3 :: s4 :: s5 :: s6 :: s7 :: s8 :: s9 :: s10 :: s11 :: s12 :: s13 :: s14 :: s15 :: s16 :: s17 :: s18 :: .sh d :: r) := rfl
theorem eva_19 {s0 s1 s2 s3 s4 s5 s6 s7 s8 s9 s10 s11 s12 s13 s14 s15 s16 s17 s18 : Sl} {o : Ob} {r : Rho} : eVar 19 (s0 :: s1 :: s2 :: s3 :: s4 :: s5 :: s6 :: s7 :: s8 :: s9 :: s10 :: s11 :: s12 :: s13 :: s14 :: s15 :: s16 :: s17 :: s18 :: .ow o :: r) = some (.al 19, s0 :: s1 :: s2 :: s3 :: s4 :: s5 :: s6 :: s7 :: s8 :: s9 :: s10 :: s11 :: s12 :: s13 :: s14 :: s15 :: s16 :: s17 :: s18 :: .ow o :: r) := rfl
theorem ev_20 {s0 s1 s2 s3 s4 s5 s6 s7 s8 s9 s10 s11 s12 s13 s14 s15 s16 s17 s18 s19 : Sl} {d : Dv} {r : Rho} : eVar 20 (s0 :: s1 :: s2 :: s3 :: s4 :: s5 :: s6 :: s7 :: s8 :: s9 :: s10 :: s11 :: s12 :: s13 :: s14 :: s15 :: s16 :: s17 :: s18 :: s19 :: .sh d :: r) = some (.sh d, s0 :: s1 :: s2 :: s3 :: s4 :: s5 :: s6 :: s7 :: s8 :: s9 :: s10 :: s11 :: s12 :: s13 :: s14 :: s15 :: s16 :: s17 :: s18 :: s19 :: .sh d :: r) := rfl
theorem eva_20 {s0 s1 s2 s3 s4 s5 s6 s7 s8 s9 s10 s11 s12 s13 s14 s15 s16 s17 s18 s19 : Sl} {o : Ob} {r : Rho} : eVar 20 (s0 :: s1 :: s2 :: s3 :: s4 :: s5 :: s6 :: s7 :: s8 :: s9 :: s10 :: s11 :: s12 :: s13 :: s14 :: s15 :: s16 :: s17 :: s18 :: s19 :: .ow o :: r) = some (.al 20, s0 :: s1 :: s2 :: s3 :: s4 :: s5 :: s6 :: s7 :: s8 :: s9 :: s10 :: s11 :: s12 :: s13 :: s14 :: s15 :: s16 :: s17 :: s18 :: s19 :: .ow o :: r) := rfl
theorem ev_21 {s0 s1 s2 s3 s4 s5 s6 s7 s8 s9 s10 s11 s12 s13 s14 s15 s16 s17 s18 s19 s20 : Sl} {d : Dv} {r : Rho} : eVar 21 (s0 :: s1 :: s2 :: s3 :: s4 :: s5 :: s6 :: s7 :: s8 :: s9 :: s10 :: s11 :: s12 :: s13 :: s14 :: s15 :: s16 :: s17 :: s18 :: s19 :: s20 :: .sh d :: r) = some (.sh d, s0 :: s1 :: s2 :: s3 :: s4 :: s5 :: s6 :: s7 :: s8 :: s9 :: s10 :: s11 :: s12 :: s13 :: s14 :: s15 :: s16 :: s17 :: s18 :: s19 :: s20 :: .sh d :: r) := rfl
theorem eva_21 {s0 s1 s2 s3 s4 s5 s6 s7 s8 s9 s10 s11 s12 s13 s14 s15 s16 s17 s18 s19 s20 : Sl} {o : Ob} {r : Rho} : eVar 21 (s0 :: s1 :: s2 :: s3 :: s4 :: s5 :: s6 :: s7 :: s8 :: s9 :: s10 :: s11 :: s12 :: s13 :: s14 :: s15 :: s16 :: s17 :: s18 :: s19 :: s20 :: .ow o :: r) = some (.al 21, s0 :: s1 :: s2 :: s3 :: s4 :: s5 :: s6 :: s7 :: s8 :: s9 :: s10 :: s11 :: s12 :: s13 :: s14 :: s15 :: s16 :: s17 :: s18 :: s19 :: s20 :: .ow o :: r) := rfl
theorem ev_22 {s0 s1 s2 s3 s4 s5 s6 s7 s8 s9 s10 s11 s12 s13 s14 s15 s16 s17 s18 s19 s20 s21 : Sl} {d : Dv} {r : Rho} : eVar 22 (s0 :: s1 :: s2 :: s3 :: s4 :: s5 :: s6 :: s7 :: s8 :: s9 :: s10 :: s11 :: s12 :: s13 :: s14 :: s15 :: s16 :: s17 :: s18 :: s19 :: s20 :: s21 :: .sh d :: r) = some (.sh d, s0 :: s1 :: s2 :: s3 :: s4 :: s5 :: s6 :: s7 :: s8 :: s9 :: s10 :: s11 :: s12 :: s13 :: s14 :: s15 :: s16 :: s17 :: s18 :: s19 :: s20 :: s21 :: .sh d :: r) := rfl
theorem eva_22 {s0 s1 s2 s3 s4 s5 s6 s7 s8 s9 s10 s11 s12 s13 s14 s15 s16 s17 s18 s19 s20 s21 : Sl} {o : Ob} {r : Rho} : eVar 22 (s0 :: s1 :: s2 :: s3 :: s4 :: s5 :: s6 :: s7 :: s8 :: s9 :: s10 :: s11 :: s12 :: s13 :: s14 :: s15 :: s16 :: s17 :: s18 :: s19 :: s20 :: s21 :: .ow o :: r) = some (.al 22, s0 :: s1 :: s2 :: s3 :: s4 :: s5 :: s6 :: s7 :: s8 :: s9 :: s10 :: s11 :: s12 :: s13 :: s14 :: s15 :: s16 :: s17 :: s18 :: s19 :: s20 :: s21 :: .ow o :: r) := rfl
theorem ev_23 {s0 s1 s2 s3 s4 s5 s6 s7 s8 s9 s10 s11 s12 s13 s14 s15 s16 s17 s18 s19 s20 s21 s22 : Sl} {d : Dv} {r : Rho} : eVar 23 (s0 :: s1 :: s2 :: s3 :: s4 :: s5 :: s6 :: s7 :: s8 :: s9 :: s10 :: s11 :: s12 :: s13 :: s14 :: s15 :: s16 :: s17 :: s18 :: s19 :: s20 :: s21 :: s22 :: .sh d :: r) = some (.sh d, s0 :: s1 :: s2 :: s3 :: s4 :: s5 :: s6 :: s7 :: s8 :: s9 :: s10 :: s11 :: s12 :: s13 :: s14 :: s15 :: s16 :: s17 :: s18 :: s19 :: s20 :: s21 :: s22 :: .sh d :: r) := rfl
theorem eva_23 {s0 s1 s2 s3 s4 s5 s6 s7 s8 s9 s10 s11 s12 s13 s14 s15 s16 s17 s18 s19 s20 s21 s22 : Sl} {o : Ob} {r : Rho} : eVar 23 (s0 :: s1 :: s2 :: s3 :: s4 :: s5 :: s6 :: s7 :: s8 :: s9 :: s10 :: s11 :: s12 :: s13 :: s14 :: s15 :: s16 :: s17 :: s18 :: s19 :: s20 :: s21 :: s22 :: .ow o :: r) = some (.al 23, s0 :: s1 :: s2 :: s3 :: s4 :: s5 :: s6 :: s7 :: s8 :: s9 :: s10 :: s11 :: s12 :: s13 :: s14 :: s15 :: s16 :: s17 :: s18 :: s19 :: s20 :: s21 :: s22 :: .ow o :: r) := rfl
theorem ev_24 {s0 s1 s2 s3 s4 s5 s6 s7 s8 s9 s10 s11 s12 s13 s14 s15 s16 s17 s18 s19 s20 s21 s22 s23 : Sl} {d : Dv} {r : Rho} : eVar 24 (s0 :: s1 :: s2 :: s3 :: s4 :: s5 :: s6 :: s7 :: s8 :: s9 :: s10 :: s11 :: s12 :: s13 :: s14 :: s15 :: s16 :: s17 :: s18 :: s19 :: s20 :: s21 :: s22 :: s23 :: .sh d :: r) = some (.sh d, s0 :: s1 :: s2 :: s3 :: s4 :: s5 :: s6 :: s7 :: s8 :: s9 :: s10 :: s11 :: s12 :: s13 :: s14 :: s15 :: s16 :: s17 :: s18 :: s19 :: s20 :: s21 :: s22 :: s23 :: .sh d :: r) := rfl
theorem eva_24 {s0 s1 s2 s3 s4 s5 s6 s7 s8 s9 s10 s11 s12 s13 s14 s15 s16 s17 s18 s19 s20 s21 s22 s23 : Sl} {o : Ob} {r : Rho} : eVar 24 (s0 :: s1 :: s2 :: s3 :: s4 :: s5 :: s6 :: s7 :: s8 :: s9 :: s10 :: s11 :: s12 :: s13 :: s14 :: s15 :: s16 :: s17 :: s18 :: s19 :: s20 :: s21 :: s22 :: s23 :: .ow o :: r) = some (.al 24, s0 :: s1 :: s2 :: s3 :: s4 :: s5 :: s6 :: s7 :: s8 :: s9 :: s10 :: s11 :: s12 :: s13 :: s14 :: s15 :: s16 :: s17 :: s18 :: s19 :: s20 :: s21 :: s22 :: s23 :: .ow o :: r) := rfl
theorem ev_25 {s0 s1 s2 s3 s4 s5 s6 s7 s8 s9 s10 s11 s12 s13 s14 s15 s16 s17 s18 s19 s20 s21 s22 s23 s24 : Sl} {d : Dv} {r : Rho} : eVar 25 (s0 :: s1 :: s2 :: s3 :: s4 :: s5 :: s6 :: s7 :: s8 :: s9 :: s10 :: s11 :: s12 :: s13 :: s14 :: s15 :: s16 :: s17 :: s18 :: s19 :: s20 :: s21 :: s22 :: s23 :: s24 :: .sh d :: r) = some (.sh d, s0 :: s1 :: s2 :: s3 :: s4 :: s5 :: s6 :: s7 :: s8 :: s9 :: s10 :: s11 :: s12 :: s13 :: s14 :: s15 :: s16 :: s17 :: s18 :: s19 :: s20 :: s21 :: s22 :: s23 :: s24 :: .sh d :: r) := rfl
theorem eva_25 {s0 s1 s2 s3 s4 s5 s6 s7 s8 s9 s10 s11 s12 s13 s14 s15 s16 s17 s18 s19 s20 s21 s22 s23 s24 : Sl} {o : Ob} {r : Rho} : eVar 25 (s0 :: s1 :: s2 :: s3 :: s4 :: s5 :: s6 :: s7 :: s8 :: s9 :: s10 :: s11 :: s12 :: s13 :: s14 :: s15 :: s16 :: s17 :: s18 :: s19 :: s20 :: s21 :: s22 :: s23 :: s24 :: .ow o :: r) = some (.al 25, s0 :: s1 :: s2 :: s3 :: s4 :: s5 :: s6 :: s7 :: s8 :: s9 :: s10 :: s11 :: s12 :: s13 :: s14 :: s15 :: s16 :: s17 :: s18 :: s19 :: s20 :: s21 :: s22 :: s23 :: s24 :: .ow o :: r) := rfl
theorem ev_26 {s0 s1 s2 s3 s4 s5 s6 s7 s8 s9 s10 s11 s12 s13 s14 s15 s16 s17 s18 s19 s20 s21 s22 s23 s24 s25 : Sl} {d : Dv} {r : Rho} : eVar 26 (s0 :: s1 :: s2 :: s3 :: s4 :: s5 :: s6 :: s7 :: s8 :: s9 :: s10 :: s11 :: s12 :: s13 :: s14 :: s15 :: s16 :: s17 :: s18 :: s19 :: s20 :: s21 :: s22 :: s23 :: s24 :: s25 :: .sh d :: r) = some (.sh d, s0 :: s1 :: s2 :: s3 :: s4 :: s5 :: s6 :: s7 :: s8 :: s9 :: s10 :: s11 :: s12 :: s13 :: s14 :: s15 :: s16 :: s17 :: s18 :: s19 :: s20 :: s21 :: s22 :: s23 :: s24 :: s25 :: .sh d :: r) := rfl
theorem eva_26 {s0 s1 s2 s3 s4 s5 s6 s7 s8 s9 s10 s11 s12 s13 s14 s15 s16 s17 s18 s19 s20 s21 s22 s23 s24 s25 : Sl} {o : Ob} {r : Rho} : eVar 26 (s0 :: s1 :: s2 :: s3 :: s4 :: s5 :: s6 :: s7 :: s8 :: s9 :: s10 :: s11 :: s12 :: s13 :: s14 :: s15 :: s16 :: s17 :: s18 :: s19 :: s20 :: s21 :: s22 :: s23 :: s24 :: s25 :: .ow o :: r) = some (.al 26, s0 :: s1 :: s2 :: s3 :: s4 :: s5 :: s6 :: s7 :: s8 :: s9 :: s10 :: s11 :: s12 :: s13 :: s14 :: s15 :: s16 :: s17 :: s18 :: s19 :: s20 :: s21 :: s22 :: s23 :: s24 :: s25 :: .ow o :: r) := rfl
theorem ev_27 {s0 s1 s2 s3 s4 s5 s6 s7 s8 s9 s10 s11 s12 s13 s14 s15 s16 s17 s18 s19 s20 s21 s22 s23 s24 s25 s26 : Sl} {d : Dv} {r : Rho} : eVar 27 (s0 :: s1 :: s2 :: s3 :: s4 :: s5 :: s6 :: s7 :: s8 :: s9 :: s10 :: s11 :: s12 :: s13 :: s14 :: s15 :: s16 :: s17 :: s18 :: s19 :: s20 :: s21 :: s22 :: s23 :: s24 :: s25 :: s26 :: .sh d :: r) = some (.sh d, s0 :: s1 :: s2 :: s3 :: s4 :: s5 :: s6 :: s7 :: s8 :: s9 :: s10 :: s11 :: s12 :: s13 :: s14 :: s15 :: s16 :: s17 :: s18 :: s19 :: s20 :: s21 :: s22 :: s23 :: s24 :: s25 :: s26 :: .sh d :: r) := rfl
theorem eva_27 {s0 s1 s2 s3 s4 s5 s6 s7 s8 s9 s10 s11 s12 s13 s14 s15 s16 s17 s18 s19 s20 s21 s22 s23 s24 s25 s26 : Sl} {o : Ob} {r : Rho} : eVar 27 (s0 :: s1 :: s2 :: s3 :: s4 :: s5 :: s6 :: s7 :: s8 :: s9 :: s10 :: s11 :: s12 :: s13 :: s14 :: s15 :: s16 :: s17 :: s18 :: s19 :: s20 :: s21 :: s22 :: s23 :: s24 :: s25 :: s26 :: .ow o :: r) = some (.al 27, s0 :: s1 :: s2 :: s3 :: s4 :: s5 :: s6 :: s7 :: s8 :: s9 :: s10 :: s11 :: s12 :: s13 :: s14 :: s15 :: s16 :: s17 :: s18 :: s19 :: s20 :: s21 :: s22 :: s23 :: s24 :: s25 :: s26 :: .ow o :: r) := rfl
theorem ev_28 {s0 s1 s2 s3 s4 s5 s6 s7 s8 s9 s10 s11 s12 s13 s14 s15 s16 s17 s18 s19 s20 s21 s22 s23 s24 s25 s26 s27 : Sl} {d : Dv} {r : Rho} : eVar 28 (s0 :: s1 :: s2 :: s3 :: s4 :: s5 :: s6 :: s7 :: s8 :: s9 :: s10 :: s11 :: s12 :: s13 :: s14 :: s15 :: s16 :: s17 :: s18 :: s19 :: s20 :: s21 :: s22 :: s23 :: s24 :: s25 :: s26 :: s27 :: .sh d :: r) = some (.sh d, s0 :: s1 :: s2 :: s3 :: s4 :: s5 :: s6 :: s7 :: s8 :: s9 :: s10 :: s11 :: s12 :: s13 :: s14 :: s15 :: s16 :: s17 :: s18 :: s19 :: s20 :: s21 :: s22 :: s23 :: s24 :: s25 :: s26 :: s27 :: .sh d :: r) := rfl
theorem eva_28 {s0 s1 s2 s3 s4 s5 s6 s7 s8 s9 s10 s11 s12 s13 s14 s15 s16 s17 s18 s19 s20 s21 s22 s23 s24 s25 s26 s27 : Sl} {o : Ob} {r : Rho} : eVar 28 (s0 :: s1 :: s2 :: s3 :: s4 :: s5 :: s6 :: s7 :: s8 :: s9 :: s10 :: s11 :: s12 :: s13 :: s14 :: s15 :: s16 :: s17 :: s18 :: s19 :: s20 :: s21 :: s22 :: s23 :: s24 :: s25 :: s26 :: s27 :: .ow o :: r) = some (.al 28, s0 :: s1 :: s2 :: s3 :: s4 :: s5 :: s6 :: s7 :: s8 :: s9 :: s10 :: s11 :: s12 :: s13 :: s14 :: s15 :: s16 :: s17 :: s18 :: s19 :: s20 :: s21 :: s22 :: s23 :: s24 :: s25 :: s26 :: s27 :: .ow o :: r) := rfl
theorem ev_29 {s0 s1 s2 s3 s4 s5 s6 s7 s8 s9 s10 s11 s12 s13 s14 s15 s16 s17 s18 s19 s20 s21 s22 s23 s24 s25 s26 s27 s28 : Sl} {d : Dv} {r : Rho} : eVar 29 (s0 :: s1 :: s2 :: s3 :: s4 :: s5 :: s6 :: s7 :: s8 :: s9 :: s10 :: s11 :: s12 :: s13 :: s14 :: s15 :: s16 :: s17 :: s18 :: s19 :: s20 :: s21 :: s22 :: s23 :: s24 :: s25 :: s26 :: s27 :: s28 :: .sh d :: r) = some (.sh d, s0 :: s1 :: s2 :: s3 :: s4 :: s5 :: s6 :: s7 :: s8 :: s9 :: s10 :: s11 :: s12 :: s13 :: s14 :: s15 :: s16 :: s17 :: s18 :: s19 :: s20 :: s21 :: s22 :: s23 :: s24 :: s25 :: s26 :: s27 :: s28 :: .sh d :: r) := rfl
theorem eva_29 {s0 s1 s2 s3 s4 s5 s6 s7 s8 s9 s10 s11 s12 s13 s14 s15 s16 s17 s18 s19 s20 s21 s22 s23 s24 s25 s26 s27 s28 : Sl} {o : Ob} {r : Rho} : eVar 29 (s0 :: s1 :: s2 :: s3 :: s4 :: s5 :: s6 :: s7 :: s8 :: s9 :: s10 :: s11 :: s12 :: s13 :: s14 :: s15 :: s16 :: s17 :: s18 :: s19 :: s20 :: s21 :: s22 :: s23 :: s24 :: s25 :: s26 :: s27 :: s28 :: .ow o :: r) = some (.al 29, s0 :: s1 :: s2 :: s3 :: s4 :: s5 :: s6 :: s7 :: s8 :: s9 :: s10 :: s11 :: s12 :: s13 :: s14 :: s15 :: s16 :: s17 :: s18 :: s19 :: s20 :: s21 :: s22 :: s23 :: s24 :: s25 :: s26 :: s27 :: s28 :: .ow o :: r) := rfl
theorem ev_30 {s0 s1 s2 s3 s4 s5 s6 s7 s8 s9 s10 s11 s12 s13 s14 s15 s16 s17 s18 s19 s20 s21 s22 s23 s24 s25 s26 s27 s28 s29 : Sl} {d : Dv} {r : Rho} : eVar 30 (s0 :: s1 :: s2 :: s3 :: s4 :: s5 :: s6 :: s7 :: s8 :: s9 :: s10 :: s11 :: s12 :: s13 :: s14 :: s15 :: s16 :: s17 :: s18 :: s19 :: s20 :: s21 :: s22 :: s23 :: s24 :: s25 :: s26 :: s27 :: s28 :: s29 :: .sh d :: r) = some (.sh d, s0 :: s1 :: s2 :: s3 :: s4 :: s5 :: s6 :: s7 :: s8 :: s9 :: s10 :: s11 :: s12 :: s13 :: s14 :: s15 :: s16 :: s17 :: s18 :: s19 :: s20 :: s21 :: s22 :: s23 :: s24 :: s25 :: s26 :: s27 :: s28 :: s29 :: .sh d :: r) := rfl
theorem eva_30 {s0 s1 s2 s3 s4 s5 s6 s7 s8 s9 s10 s11 s12 s13 s14 s15 s16 s17 s18 s19 s20 s21 s22 s23 s24 s25 s26 s27 s28 s29 : Sl} {o : Ob} {r : Rho} : eVar 30 (s0 :: s1 :: s2 :: s3 :: s4 :: s5 :: s6 :: s7 :: s8 :: s9 :: s10 :: s11 :: s12 :: s13 :: s14 :: s15 :: s16 :: s17 :: s18 :: s19 :: s20 :: s21 :: s22 :: s23 :: s24 :: s25 :: s26 :: s27 :: s28 :: s29 :: .ow o :: r) = some (.al 30, s0 :: s1 :: s2 :: s3 :: s4 :: s5 :: s6 :: s7 :: s8 :: s9 :: s10 :: s11 :: s12 :: s13 :: s14 :: s15 :: s16 :: s17 :: s18 :: s19 :: s20 :: s21 :: s22 :: s23 :: s24 :: s25 :: s26 :: s27 :: s28 :: s29 :: .ow o :: r) := rfl
theorem ev_31 {s0 s1 s2 s3 s4 s5 s6 s7 s8 s9 s10 s11 s12 s13 s14 s15 s16 s17 s18 s19 s20 s21 s22 s23 s24 s25 s26 s27 s28 s29 s30 : Sl} {d : Dv} {r : Rho} : eVar 31 (s0 :: s1 :: s2 :: s3 :: s4 :: s5 :: s6 :: s7 :: s8 :: s9 :: s10 :: s11 :: s12 :: s13 :: s14 :: s15 :: s16 :: s17 :: s18 :: s19 :: s20 :: s21 :: s22 :: s23 :: s24 :: s25 :: s26 :: s27 :: s28 :: s29 :: s30 :: .sh d :: r) = some (.sh d, s0 :: s1 :: s2 :: s3 :: s4 :: s5 :: s6 :: s7 :: s8 :: s9 :: s10 :: s11 :: s12 :: s13 :: s14 :: s15 :: s16 :: s17 :: s18 :: s19 :: s20 :: s21 :: s22 :: s23 :: s24 :: s25 :: s26 :: s27 :: s28 :: s29 :: s30 :: .sh d :: r) := rfl
theorem eva_31 {s0 s1 s2 s3 s4 s5 s6 s7 s8 s9 s10 s11 s12 s13 s14 s15 s16 s17 s18 s19 s20 s21 s22 s23 s24 s25 s26 s27 s28 s29 s30 : Sl} {o : Ob} {r : Rho} : eVar 31 (s0 :: s1 :: s2 :: s3 :: s4 :: s5 :: s6 :: s7 :: s8 :: s9 :: s10 :: s11 :: s12 :: s13 :: s14 :: s15 :: s16 :: s17 :: s18 :: s19 :: s20 :: s21 :: s22 :: s23 :: s24 :: s25 :: s26 :: s27 :: s28 :: s29 :: s30 :: .ow o :: r) = some (.al 31, s0 :: s1 :: s2 :: s3 :: s4 :: s5 :: s6 :: s7 :: s8 :: s9 :: s10 :: s11 :: s12 :: s13 :: s14 :: s15 :: s16 :: s17 :: s18 :: s19 :: s20 :: s21 :: s22 :: s23 :: s24 :: s25 :: s26 :: s27 :: s28 :: s29 :: s30 :: .ow o :: r) := rfl
theorem ev_32 {s0 s1 s2 s3 s4 s5 s6 s7 s8 s9 s10 s11 s12 s13 s14 s15 s16 s17 s18 s19 s20 s21 s22 s23 s24 s25 s26 s27 s28 s29 s30 s31 : Sl} {d : Dv} {r : Rho} : eVar 32 (s0 :: s1 :: s2 :: s3 :: s4 :: s5 :: s6 :: s7 :: s8 :: s9 :: s10 :: s11 :: s12 :: s13 :: s14 :: s15 :: s16 :: s17 :: s18 :: s19 :: s20 :: s21 :: s22 :: s23 :: s24 :: s25 :: s26 :: s27 :: s28 :: s29 :: s30 :: s31 :: .sh d :: r) = some (.sh d, s0 :: s1 :: s2 :: s3 :: s4 :: s5 :: s6 :: s7 :: s8 :: s9 :: s10 :: s11 :: s12 :: s13 :: s14 :: s15 :: s16 :: s17 :: s18 :: s19 :: s20 :: s21 :: s22 :: s23 :: s24 :: s25 :: s26 :: s27 :: s28 :: s29 :: s30 :: s31 :: .sh d :: r) := rfl
theorem eva_32 {s0 s1 s2 s3 s4 s5 s6 s7 s8 s9 s10 s11 s12 s13 s14 s15 s16 s17 s18 s19 s20 s21 s22 s23 s24 s25 s26 s27 s28 s29 s30 s31 : Sl} {o : Ob} {r : Rho} : eVar 32 (s0 :: s1 :: s2 :: s3 :: s4 :: s5 :: s6 :: s7 :: s8 :: s9 :: s10 :: s11 :: s12 :: s13 :: s14 :: s15 :: s16 :: s17 :: s18 :: s19 :: s20 :: s21 :: s22 :: s23 :: s24 :: s25 :: s26 :: s27 :: s28 :: s29 :: s30 :: s31 :: .ow o :: r) = some (.al 32, s0 :: s1 :: s2 :: s3 :: s4 :: s5 :: s6 :: s7 :: s8 :: s9 :: s10 :: s11 :: s12 :: s13 :: s14 :: s15 :: s16 :: s17 :: s18 :: s19 :: s20 :: s21 :: s22 :: s23 :: s24 :: s25 :: s26 :: s27 :: s28 :: s29 :: s30 :: s31 :: .ow o :: r) := rfl
theorem ev_33 {s0 s1 s2 s3 s4 s5 s6 s7 s8 s9 s10 s11 s12 s13 s14 s15 s16 s17 s18 s19 s20 s21 s22 s23 s24 s25 s26 s27 s28 s29 s30 s31 s32 : Sl} {d : Dv} {r : Rho} : eVar 33 (s0 :: s1 :: s2 :: s3 :: s4 :: s5 :: s6 :: s7 :: s8 :: s9 :: s10 :: s11 :: s12 :: s13 :: s14 :: s15 :: s16 :: s17 :: s18 :: s19 :: s20 :: s21 :: s22 :: s23 :: s24 :: s25 :: s26 :: s27 :: s28 :: s29 :: s30 :: s31 :: s32 :: .sh d :: r) = some (.sh d, s0 :: s1 :: s2 :: s3 :: s4 :: s5 :: s6 :: s7 :: s8 :: s9 :: s10 :: s11 :: s12 :: s13 :: s14 :: s15 :: s16 :: s17 :: s18 :: s19 :: s20 :: s21 :: s22 :: s23 :: s24 :: s25 :: s26 :: s27 :: s28 :: s29 :: s30 :: s31 :: s32 :: .sh d :: r) := rfl
theorem eva_33 {s0 s1 s2 s3 s4 s5 s6 s7 s8 s9 s10 s11 s12 s13 s14 s15 s16 s17 s18 s19 s20 s21 s22 s23 s24 s25 s26 s27 s28 s29 s30 s31 s32 : Sl} {o : Ob} {r : Rho} : eVar 33 (s0 :: s1 :: s2 :: s3 :: s4 :: s5 :: s6 :: s7 :: s8 :: s9 :: s10 :: s11 :: s12 :: s13 :: s14 :: s15 :: s16 :: s17 :: s18 :: s19 :: s20 :: s21 :: s22 :: s23 :: s24 :: s25 :: s26 :: s27 :: s28 :: s29 :: s30 :: s31 :: s32 :: .ow o :: r) = some (.al 33, s0 :: s1 :: s2 :: s3 :: s4 :: s5 :: s6 :: s7 :: s8 :: s9 :: s10 :: s11 :: s12 :: s13 :: s14 :: s15 :: s16 :: s17 :: s18 :: s19 :: s20 :: s21 :: s22 :: s23 :: s24 :: s25 :: s26 :: s27 :: s28 :: s29 :: s30 :: s31 :: s32 :: .ow o :: r) := rfl
theorem ev_34 {s0 s1 s2 s3 s4 s5 s6 s7 s8 s9 s10 s11 s12 s13 s14 s15 s16 s17 s18 s19 s20 s21 s22 s23 s24 s25 s26 s27 s28 s29 s30 s31 s32 s33 : Sl} {d : Dv} {r : Rho} : eVar 34 (s0 :: s1 :: s2 :: s3 :: s4 :: s5 :: s6 :: s7 :: s8 :: s9 :: s10 :: s11 :: s12 :: s13 :: s14 :: s15 :: s16 :: s17 :: s18 :: s19 :: s20 :: s21 :: s22 :: s23 :: s24 :: s25 :: s26 :: s27 :: s28 :: s29 :: s30 :: s31 :: s32 :: s33 :: .sh d :: r) = some (.sh d, s0 :: s1 :: s2 :: s3 :: s4 :: s5 :: s6 :: s7 :: s8 :: s9 :: s10 :: s11 :: s12 :: s13 :: s14 :: s15 :: s16 :: s17 :: s18 :: s19 :: s20 :: s21 :: s22 :: s23 :: s24 :: s25 :: s26 :: s27 :: s28 :: s29 :: s30 :: s31 :: s32 :: s33 :: .sh d :: r) := rfl
theorem eva_34 {s0 s1 s2 s3 s4 s5 s6 s7 s8 s9 s10 s11 s12 s13 s14 s15 s16 s17 s18 s19 s20 s21 s22 s23 s24 s25 s26 s27 s28 s29 s30 s31 s32 s33 : Sl} {o : Ob} {r : Rho} : eVar 34 (s0 :: s1 :: s2 :: s3 :: s4 :: s5 :: s6 :: s7 :: s8 :: s9 :: s10 :: s11 :: s12 :: s13 :: s14 :: s15 :: s16 :: s17 :: s18 :: s19 :: s20 :: s21 :: s22 :: s23 :: s24 :: s25 :: s26 :: s27 :: s28 :: s29 :: s30 :: s31 :: s32 :: s33 :: .ow o :: r) = some (.al 34, s0 :: s1 :: s2 :: s3 :: s4 :: s5 :: s6 :: s7 :: s8 :: s9 :: s10 :: s11 :: s12 :: s13 :: s14 :: s15 :: s16 :: s17 :: s18 :: s19 :: s20 :: s21 :: s22 :: s23 :: s24 :: s25 :: s26 :: s27 :: s28 :: s29 :: s30 :: s31 :: s32 :: s33 :: .ow o :: r) := rfl
theorem ev_35 {s0 s1 s2 s3 s4 s5 s6 s7 s8 s9 s10 s11 s12 s13 s14 s15 s16 s17 s18 s19 s20 s21 s22 s23 s24 s25 s26 s27 s28 s29 s30 s31 s32 s33 s34 : Sl} {d : Dv} {r : Rho} : eVar 35 (s0 :: s1 :: s2 :: s3 :: s4 :: s5 :: s6 :: s7 :: s8 :: s9 :: s10 :: s11 :: s12 :: s13 :: s14 :: s15 :: s16 :: s17 :: s18 :: s19 :: s20 :: s21 :: s22 :: s23 :: s24 :: s25 :: s26 :: s27 :: s28 :: s29 :: s30 :: s31 :: s32 :: s33 :: s34 :: .sh d :: r) = some (.sh d, s0 :: s1 :: s2 :: s3 :: s4 :: s5 :: s6 :: s7 :: s8 :: s9 :: s10 :: s11 :: s12 :: s13 :: s14 :: s15 :: s16 :: s17 :: s18 :: s19 :: s20 :: s21 :: s22 :: s23 :: s24 :: s25 :: s26 :: s27 :: s28 :: s29 :: s30 :: s31 :: s32 :: s33 :: s34 :: .sh d :: r) := rfl
theorem eva_35 {s0 s1 s2 s3 s4 s5 s6 s7 s8 s9 s10 s11 s12 s13 s14 s15 s16 s17 s18 s19 s20 s21 s22 s23 s24 s25 s26 s27 s28 s29 s30 s31 s32 s33 s34 : Sl} {o : Ob} {r : Rho} : eVar 35 (s0 :: s1 :: s2 :: s3 :: s4 :: s5 :: s6 :: s7 :: s8 :: s9 :: s10 :: s11 :: s12 :: s13 :: s14 :: s15 :: s16 :: s17 :: s18 :: s19 :: s20 :: s21 :: s22 :: s23 :: s24 :: s25 :: s26 :: s27 :: s28 :: s29 :: s30 :: s31 :: s32 :: s33 :: s34 :: .ow o :: r) = some (.al 35, s0 :: s1 :: s2 :: s3 :: s4 :: s5 :: s6 :: s7 :: s8 :: s9 :: s10 :: s11 :: s12 :: s13 :: s14 :: s15 :: s16 :: s17 :: s18 :: s19 :: s20 :: s21 :: s22 :: s23 :: s24 :: s25 :: s26 :: s27 :: s28 :: s29 :: s30 :: s31 :: s32 :: s33 :: s34 :: .ow o :: r) := rfl
theorem ev_36 {s0 s1 s2 s3 s4 s5 s6 s7 s8 s9 s10 s11 s12 s13 s14 s15 s16 s17 s18 s19 s20 s21 s22 s23 s24 s25 s26 s27 s28 s29 s30 s31 s32 s33 s34 s35 : Sl} {d : Dv} {r : Rho} : eVar 36 (s0 :: s1 :: s2 :: s3 :: s4 :: s5 :: s6 :: s7 :: s8 :: s9 :: s10 :: s11 :: s12 :: s13 :: s14 :: s15 :: s16 :: s17 :: s18 :: s19 :: s20 :: s21 :: s22 :: s23 :: s24 :: s25 :: s26 :: s27 :: s28 :: s29 :: s30 :: s31 :: s32 :: s33 :: s34 :: s35 :: .sh d :: r) = some (.sh d, s0 :: s1 :: s2 :: s3 :: s4 :: s5 :: s6 :: s7 :: s8 :: s9 :: s10 :: s11 :: s12 :: s13 :: s14 :: s15 :: s16 :: s17 :: s18 :: s19 :: s20 :: s21 :: s22 :: s23 :: s24 :: s25 :: s26 :: s27 :: s28 :: s29 :: s30 :: s31 :: s32 :: s33 :: s34 :: s35 :: .sh d :: r) := rfl
theorem eva_36 {s0 s1 s2 s3 s4 s5 s6 s7 s8 s9 s10 s11 s12 s13 s14 s15 s16 s17 s18 s19 s20 s21 s22 s23 s24 s25 s26 s27 s28 s29 s30 s31 s32 s33 s34 s35 : Sl} {o : Ob} {r : Rho} : eVar 36 (s0 :: s1 :: s2 :: s3 :: s4 :: s5 :: s6 :: s7 :: s8 :: s9 :: s10 :: s11 :: s12 :: s13 :: s14 :: s15 :: s16 :: s17 :: s18 :: s19 :: s20 :: s21 :: s22 :: s23 :: s24 :: s25 :: s26 :: s27 :: s28 :: s29 :: s30 :: s31 :: s32 :: s33 :: s34 :: s35 :: .ow o :: r) = some (.al 36, s0 :: s1 :: s2 :: s3 :: s4 :: s5 :: s6 :: s7 :: s8 :: s9 :: s10 :: s11 :: s12 :: s13 :: s14 :: s15 :: s16 :: s17 :: s18 :: s19 :: s20 :: s21 :: s22 :: s23 :: s24 :: s25 :: s26 :: s27 :: s28 :: s29 :: s30 :: s31 :: s32 :: s33 :: s34 :: s35 :: .ow o :: r) := rfl
theorem ev_37 {s0 s1 s2 s3 s4 s5 s6 s7 s8 s9 s10 s11 s12 s13 s14 s15 s16 s17 s18 s19 s20 s21 s22 s23 s24 s25 s26 s27 s28 s29 s30 s31 s32 s33 s34 s35 s36 : Sl} {d : Dv} {r : Rho} : eVar 37 (s0 :: s1 :: s2 :: s3 :: s4 :: s5 :: s6 :: s7 :: s8 :: s9 :: s10 :: s11 :: s12 :: s13 :: s14 :: s15 :: s16 :: s17 :: s18 :: s19 :: s20 :: s21 :: s22 :: s23 :: s24 :: s25 :: s26 :: s27 :: s28 :: s29 :: s30 :: s31 :: s32 :: s33 :: s34 :: s35 :: s36 :: .sh d :: r) = some (.sh d, s0 :: s1 :: s2 :: s3 :: s4 :: s5 :: s6 :: s7 :: s8 :: s9 :: s10 :: s11 :: s12 :: s13 :: s14 :: s15 :: s16 :: s17 :: s18 :: s19 :: s20 :: s21 :: s22 :: s23 :: s24 :: s25 :: s26 :: s27 :: s28 :: s29 :: s30 :: s31 :: s32 :: s33 :: s34 :: s35 :: s36 :: .sh d :: r) := rfl
theorem eva_37 {s0 s1 s2 s3 s4 s5 s6 s7 s8 s9 s10 s11 s12 s13 s14 s15 s16 s17 s18 s19 s20 s21 s22 s23 s24 s25 s26 s27 s28 s29 s30 s31 s32 s33 s34 s35 s36 : Sl} {o : Ob} {r : Rho} : eVar 37 (s0 :: s1 :: s2 :: s3 :: s4 :: s5 :: s6 :: s7 :: s8 :: s9 :: s10 :: s11 :: s12 :: s13 :: s14 :: s15 :: s16 :: s17 :: s18 :: s19 :: s20 :: s21 :: s22 :: s23 :: s24 :: s25 :: s26 :: s27 :: s28 :: s29 :: s30 :: s31 :: s32 :: s33 :: s34 :: s35 :: s36 :: .ow o :: r) = some (.al 37, s0 :: s1 :: s2 :: s3 :: s4 :: s5 :: s6 :: s7 :: s8 :: s9 :: s10 :: s11 :: s12 :: s13 :: s14 :: s15 :: s16 :: s17 :: s18 :: s19 :: s20 :: s21 :: s22 :: s23 :: s24 :: s25 :: s26 :: s27 :: s28 :: s29 :: s30 :: s31 :: s32 :: s33 :: s34 :: s35 :: s36 :: .ow o :: r) := rfl
theorem ev_38 {s0 s1 s2 s3 s4 s5 s6 s7 s8 s9 s10 s11 s12 s13 s14 s15 s16 s17 s18 s19 s20 s21 s22 s23 s24 s25 s26 s27 s28 s29 s30 s31 s32 s33 s34 s35 s36 s37 : Sl} {d : Dv} {r : Rho} : eVar 38 (s0 :: s1 :: s2 :: s3 :: s4 :: s5 :: s6 :: s7 :: s8 :: s9 :: s10 :: s11 :: s12 :: s13 :: s14 :: s15 :: s16 :: s17 :: s18 :: s19 :: s20 :: s21 :: s22 :: s23 :: s24 :: s25 :: s26 :: s27 :: s28 :: s29 :: s30 :: s31 :: s32 :: s33 :: s34 :: s35 :: s36 :: s37 :: .sh d :: r) = some (.sh d, s0 :: s1 :: s2 :: s3 :: s4 :: s5 :: s6 :: s7 :: s8 :: s9 :: s10 :: s11 :: s12 :: s13 :: s14 :: s15 :: s16 :: s17 :: s18 :: s19 :: s20 :: s21 :: s22 :: s23 :: s24 :: s25 :: s26 :: s27 :: s28 :: s29 :: s30 :: s31 :: s32 :: s33 :: s34 :: s35 :: s36 :: s37 :: .sh d :: r) := rfl
theorem eva_38 {s0 s1 s2 s3 s4 s5 s6 s7 s8 s9 s10 s11 s12 s13 s14 s15 s16 s17 s18 s19 s20 s21 s22 s23 s24 s25 s26 s27 s28 s29 s30 s31 s32 s33 s34 s35 s36 s37 : Sl} {o : Ob} {r : Rho} : eVar 38 (s0 :: s1 :: s2 :: s3 :: s4 :: s5 :: s6 :: s7 :: s8 :: s9 :: s10 :: s11 :: s12 :: s13 :: s14 :: s15 :: s16 :: s17 :: s18 :: s19 :: s20 :: s21 :: s22 :: s23 :: s24 :: s25 :: s26 :: s27 :: s28 :: s29 :: s30 :: s31 :: s32 :: s33 :: s34 :: s35 :: s36 :: s37 :: .ow o :: r) = some (.al 38, s0 :: s1 :: s2 :: s3 :: s4 :: s5 :: s6 :: s7 :: s8 :: s9 :: s10 :: s11 :: s12 :: s13 :: s14 :: s15 :: s16 :: s17 :: s18 :: s19 :: s20 :: s21 :: s22 :: s23 :: s24 :: s25 :: s26 :: s27 :: s28 :: s29 :: s30 :: s31 :: s32 :: s33 :: s34 :: s35 :: s36 :: s37 :: .ow o :: r) := rfl
theorem ev_39 {s0 s1 s2 s3 s4 s5 s6 s7 s8 s9 s10 s11 s12 s13 s14 s15 s16 s17 s18 s19 s20 s21 s22 s23 s24 s25 s26 s27 s28 s29 s30 s31 s32 s33 s34 s35 s36 s37 s38 : Sl} {d : Dv} {r : Rho} : eVar 39 (s0 :: s1 :: s2 :: s3 :: s4 :: s5 :: s6 :: s7 :: s8 :: s9 :: s10 :: s11 :: s12 :: s13 :: s14 :: s15 :: s16 :: s17 :: s18 :: s19 :: s20 :: s21 :: s22 :: s23 :: s24 :: s25 :: s26 :: s27 :: s28 :: s29 :: s30 :: s31 :: s32 :: s33 :: s34 :: s35 :: s36 :: s37 :: s38 :: .sh d :: r) = some (.sh d, s0 :: s1 :: s2 :: s3 :: s4 :: s5 :: s6 :: s7 :: s8 :: s9 :: s10 :: s11 :: s12 :: s13 :: s14 :: s15 :: s16 :: s17 :: s18 :: s19 :: s20 :: s21 :: s22 :: s23 :: s24 :: s25 :: s26 :: s27 :: s28 :: s29 :: s30 :: s31 :: s32 :: s33 :: s34 :: s35 :: s36 :: s37 :: s38 :: .sh d :: r) := rfl
theorem eva_39 {s0 s1 s2 s3 s4 s5 s6 s7 s8 s9 s10 s11 s12 s13 s14 s15 s16 s17 s18 s19 s20 s21 s22 s23 s24 s25 s26 s27 s28 s29 s30 s31 s32 s33 s34 s35 s36 s37 s38 : Sl} {o : Ob} {r : Rho} : eVar 39 (s0 :: s1 :: s2 :: s3 :: s4 :: s5 :: s6 :: s7 :: s8 :: s9 :: s10 :: s11 :: s12 :: s13 :: s14 :: s15 :: s16 :: s17 :: s18 :: s19 :: s20 :: s21 :: s22 :: s23 :: s24 :: s25 :: s26 :: s27 :: s28 :: s29 :: s30 :: s31 :: s32 :: s33 :: s34 :: s35 :: s36 :: s37 :: s38 :: .ow o :: r) = some (.al 39, s0 :: s1 :: s2 :: s3 :: s4 :: s5 :: s6 :: s7 :: s8 :: s9 :: s10 :: s11 :: s12 :: s13 :: s14 :: s15 :: s16 :: s17 :: s18 :: s19 :: s20 :: s21 :: s22 :: s23 :: s24 :: s25 :: s26 :: s27 :: s28 :: s29 :: s30 :: s31 :: s32 :: s33 :: s34 :: s35 :: s36 :: s37 :: s38 :: .ow o :: r) := rfl
section
variable {α β σ τ r : Type} {P : Prop}
theorem ite_elim {α : Type} {c : Bool} {x y : Option α} {r : α} (h : (if c = true then x else y) = some r) (a : c = true → x = some r → P) (b : c = false → y = some r → P) : P := by
  rcases ite_inv h with ⟨h1, h2⟩ | ⟨h1, h2⟩
  · exact a h1 h2
  · exact b h1 h2
theorem qs_nx {h : MS} {Q : Fl → Prop} {ρ : Rho} (a : Wp (h ρ) Q) : QS h Q (.nx ρ) := a
theorem qs_rt {h : MS} {Q : Fl → Prop} {rv : Rv} {ρ : Rho} (a : Q (.rt rv ρ)) : QS h Q (.rt rv ρ) := a
theorem qs_bk {h : MS} {Q : Fl → Prop} {ρ : Rho} (a : Q (.bk ρ)) : QS h Q (.bk ρ) := a
theorem qs_ct {h : MS} {Q : Fl → Prop} {ρ : Rho} (a : Q (.ct ρ)) : QS h Q (.ct ρ) := a
theorem rt_i {as as' : List Sl} {ix : List Nat} {r rv : Rv} {ρ : Rho} (h : r = rv) (h2 : outA 0 ix as ρ = as') : Rt as ix rv as' (.rt r ρ) := ⟨h, h2⟩
theorem rt_n {as as' : List Sl} {ix : List Nat} {rv : Rv} {ρ : Rho} (h : rv = .sh .none) (h2 : outA 0 ix as ρ = as') : Rt as ix rv as' (.nx ρ) := ⟨h, h2⟩
theorem pb_nx {R : σ → Rho → Prop} {Qr : r → Fl → Prop} {s : σ} {ρ : Rho} (h : R s ρ) : Pb R Qr (.nx s) (.nx ρ) := ⟨ρ, .inl rfl, h⟩
theorem pb_ct {R : σ → Rho → Prop} {Qr : r → Fl → Prop} {s : σ} {ρ : Rho} (h : R s ρ) : Pb R Qr (.nx s) (.ct ρ) := ⟨ρ, .inr rfl, h⟩
theorem pb_bk {R : σ → Rho → Prop} {Qr : r → Fl → Prop} {s : σ} {ρ : Rho} (h : R s ρ) : Pb R Qr (.bk s) (.bk ρ) := ⟨ρ, rfl, h⟩
theorem pb_rt {R : σ → Rho → Prop} {Qr : r → Fl → Prop} {x : r} {rv : Rv} {ρ : Rho} (h : Qr x (.rt rv ρ)) : Pb R Qr (.rt x) (.rt rv ρ) := ⟨rv, ρ, rfl, h⟩
theorem jn {R : σ → Rho → Prop} {s : σ} {ρ : Rho} (h : R s ρ) : ∃ ρ', Fl.nx ρ = .nx ρ' ∧ R s ρ' := ⟨ρ, rfl, h⟩
theorem lf_n {R : σ → Rho → Prop} {s : σ} {ρ : Rho} (h : R s ρ) : ∃ ρ', (Fl.nx ρ = .nx ρ' ∨ Fl.nx ρ = .ct ρ') ∧ R s ρ' := ⟨ρ, .inl rfl, h⟩
theorem lf_c {R : σ → Rho → Prop} {s : σ} {ρ : Rho} (h : R s ρ) : ∃ ρ', (Fl.ct ρ = .nx ρ' ∨ Fl.ct ρ = .ct ρ') ∧ R s ρ' := ⟨ρ, .inr rfl, h⟩
theorem few' {α : Type} {ds : List α} (h : Nat.ble ds.length 100000 = true) : ds.length ≤ sizeLine := Nat.le_trans (Nat.le_of_ble_eq_true h) szl_big
theorem eq_i (a b : Int) : eqqD (eI a) (eI b) = some (.sh (eB (decide (a = b)))) := rfl
theorem ne_i (a b : Int) : neqD (eI a) (eI b) = some (.sh (eB (!decide (a = b)))) := rfl
theorem eif_e {t : MB} {fa fb : M} {ρ : Rho} {k : Bool} {e : α → Dv} {x y : α} (h : t ρ = some (k, ρ)) (h1 : fa ρ = some (.sh (e x), ρ)) (h2 : fb ρ = some (.sh (e y), ρ)) : eIf t fa fb ρ = some (.sh (e (if k = true then x else y)), ρ) := by
  cases k
  · exact eif_f h rfl h2
  · exact eif_t h rfl h1
theorem eif_o {t : MB} {fa fb : M} {ρ : Rho} {k : Bool} {e : α → Dv} {x y : List α} (h : t ρ = some (k, ρ)) (h1 : fa ρ = some (.ow (.lst (x.map e)), ρ)) (h2 : fb ρ = some (.ow (.lst (y.map e)), ρ)) : eIf t fa fb ρ = some (.ow (.lst ((if k = true then x else y).map e)), ρ) := by
  cases k
  · exact eif_f h rfl h2
  · exact eif_t h rfl h1
def slO (e : α → Dv) : Option α → Sl
  | none => .no
  | some a => .sh (e a)
theorem tcong {t : MB} {ρ ρ1 : Rho} {k k' : Bool} (h : t ρ = some (k, ρ1)) (e : k = k') : t ρ = some (k', ρ1) := e ▸ h
theorem opn {f : M} {ρ ρ1 : Rho} {e : α → Dv} {x : Option α} {v : α} (h : f ρ = some (.sh (eO e x), ρ1)) (hv : x = some v) : f ρ = some (.sh (e v), ρ1) := by
  subst hv
  exact h
theorem eand_fb {fa fb : M} {ρ ρ1 : Rho} {x : Bool} (h : fa ρ = some (.sh (.bool x), ρ1)) (e : x = false) : eAnd fa fb ρ = some (.sh (.bool false), ρ1) := by
  subst e
  exact eand_f (pk_s h) rfl rfl rfl
theorem eor_tb {fa fb : M} {ρ ρ1 : Rho} {x : Bool} (h : fa ρ = some (.sh (.bool x), ρ1)) (e : x = true) : eOr fa fb ρ = some (.sh (.bool true), ρ1) := by
  subst e
  exact eor_t (pk_s h) rfl rfl rfl
theorem dcoT {e : α → Dv} {e' : β → Dv} {g : α → β} (h : ∀ z, e' (g z) = e z) (xs : List α) : some (PyData.tuple (List.map e xs)) = some (PyData.tuple (List.map e' (List.map g xs))) := by
  rw [List.map_map]
  congr 2
  exact List.map_congr_left fun x _ => (h x).symm
theorem dcoL {e : α → Dv} {e' : β → Dv} {g : α → β} (h : ∀ z, e' (g z) = e z) (xs : List α) : some (PyData.list (List.map e xs)) = some (PyData.list (List.map e' (List.map g xs))) := by
  rw [List.map_map]
  congr 2
  exact List.map_congr_left fun x _ => (h x).symm
def lenNO (kvs : List α) : Option Int := if kvs.length < 1000000 then some kvs.length else none
theorem lenN_e {ek : α → Dv} {ev : β → Dv} {kvs : List (α × β)} {v : Int} (h : lenNO kvs = some v) : lenA [obD (.dtn (kvs.map (ekv ek ev)))] = some (.sh (eI v)) := by
  unfold lenNO at h
  split at h
  · rename_i hc
    cases h
    unfold lenA obD
    simp only
    rw [if_neg (by simp [plD]), List.tail_cons, List.length_map, if_pos hc]
    rfl
  · cases h
theorem lenI_e {ek : α → Dv} [KeyI ek] {ev : β → Dv} (kvs : List (α × β)) : lenG [obD (.dct (kvs.map (ekv ek ev)))] = some (.sh (eI (kvs.length : Int))) := by
  show (if plD (kvs.map (ekv ek ev)) = true then some (Rz.sh (.int (kvs.map (ekv ek ev)).length)) else none) = _
  rw [if_pos (plD_ek kvs), List.length_map]
  rfl
theorem isx_none (d : Dv) : isXD d .none = isND d .none := by cases d <;> rfl
theorem notx_none (d : Dv) : notXD d .none = notND d .none := by cases d <;> rfl
theorem isndx_e {e : α → Dv} [OrdE e] (x : Option α) : isXD (eO e x) (eN ()) = some (.sh (eB x.isNone)) := (isx_none _).trans (isnd_e x)
theorem notndx_e {e : α → Dv} [OrdE e] (x : Option α) : notXD (eO e x) (eN ()) = some (.sh (eB (!x.isNone))) := (notx_none _).trans (notnd_e x)
theorem isndx_s {e : α → Dv} [OrdE e] (x : α) : isXD (e x) (eN ()) = some (.sh (eB false)) := (isx_none _).trans (isnd_s x)
theorem notndx_s {e : α → Dv} [OrdE e] (x : α) : notXD (e x) (eN ()) = some (.sh (eB true)) := (notx_none _).trans (notnd_s x)
theorem isndx_a (x : Dv) : isXD x (eN ()) = some (.sh (eB (isNone x))) := (isx_none _).trans (isnd_a x)
theorem notndx_a (x : Dv) : notXD x (eN ()) = some (.sh (eB (!isNone x))) := (notx_none _).trans (notnd_a x)
theorem isb_ (a b : Bool) : isXD (eB a) (eB b) = some (.sh (eB (decide (a = b)))) := rfl
theorem notb_ (a b : Bool) : notXD (eB a) (eB b) = some (.sh (eB (!decide (a = b)))) := rfl
theorem dct_ (ρ : Rho) : eDct ρ = some (.ow (.dct []), ρ) := rfl
theorem dtn_ (ρ : Rho) : eDctN ρ = some (.ow (.dtn []), ρ) := rfl
/-! lists in a dict, d.get -/
def addKT (q : α → α → Bool) : List (α × List β) → α → β → List (α × List β)
  | [], k, d => [(k, [d])]
  | p :: r, k, d => if q p.1 k = true then (p.1, p.2 ++ [d]) :: r else p :: addKT q r k d
def sdfO (fk : α → Option Int) (fe : α → Option β) : List α → List (Int × List β) → Option (List (Int × List β))
  | [], kvs => some kvs
  | x :: xs, kvs => (fk x).bind fun k => (fe x).bind fun e => if kvs.length < 100000 ∧ (kvs.all fun p => decide (p.2.length < 100000)) = true then sdfO fk fe xs (addKT (EqE.eq eI) kvs k e) else none
theorem addK_e {ev : β → Dv} (k : Int) (d : β) : ∀ kvs : List (Int × List β), addK (kvs.map fun p => (eI p.1, p.2.map ev)) (eI k) (ev d) = (addKT (EqE.eq eI) kvs k d).map fun p => (eI p.1, p.2.map ev)
  | [] => rfl
  | p :: r => by
    rw [List.map_cons]
    unfold addK addKT
    rw [KeyI.same (ek := eI)]
    split
    · simp
    · rw [addK_e k d r]
      rfl
theorem sdfL_e {j : Nat} {fk fe : M} {e : α → Dv} {ev : β → Dv} {gk : α → Option Int} {ge : α → Option β} {W : Rho} : ∀ {xs : List α} {kvs zs : List (Int × List β)} {s : Sl}, (∀ x k, x ∈ xs → gk x = some k → pkM fk (W.set j (.sh (e x))) = some (.sh (eI k), W.set j (.sh (e x)))) → (∀ x v, x ∈ xs → ge x = some v → frM fe (W.set j (.sh (e x))) = some (.sh (ev v), W.set j (.sh (e x)))) →
    sdfO gk ge xs kvs = some zs → ∃ s', sdfL j fk fe (xs.map e) (kvs.map fun p => (eI p.1, p.2.map ev)) (W.set j s) = some (zs.map fun p => (eI p.1, p.2.map ev), W.set j s')
  | [], kvs, zs, s, _, _, h => by
    cases h
    exact ⟨s, rfl⟩
  | x :: xs, kvs, zs, s, hk, he, h => by
    unfold sdfO at h
    obtain ⟨k, h1, h⟩ := bnd h
    obtain ⟨v, h2, h⟩ := bnd h
    split at h
    rotate_left
    · cases h
    rename_i hc
    obtain ⟨s', e1⟩ := sdfL_e (s := .sh (e x)) (fun y k hy => hk y k (List.mem_cons_of_mem _ hy)) (fun y k hy => he y k (List.mem_cons_of_mem _ hy)) h
    refine ⟨s', ?_⟩
    rw [List.map_cons]
    unfold sdfL
    rw [List.set_set, hk x k (List.mem_cons_self ..) h1]
    simp only [Option.bind_some]
    have hke : (eI k) = PyData.int k := rfl
    rw [hke]
    simp only
    rw [he x v (List.mem_cons_self ..) h2]
    simp only [Option.bind_some]
    rw [if_pos ⟨by rw [List.length_map]; exact hc.1, by
      rw [List.all_map]
      refine List.all_eq_true.mpr fun p hp => ?_
      have := List.all_eq_true.mp hc.2 p hp
      simpa using this⟩, ← hke, addK_e]
    exact e1
theorem sdf_ {i j : Nat} {fi : ML} {fk fe : M} {e : α → Dv} {ev : β → Dv} {gk : α → Option Int} {ge : α → Option β} {xs : List α} {zs : List (Int × List β)} {ρ ρ1 W : Rho} {s : Sl} (hi : fi ρ = some (xs.map e, ρ1)) (hslot : ρ1[i]? = some (.ow (.dct []))) (hW : ρ1.set i .no = W.set j s)
    (hk : ∀ x k, x ∈ xs → gk x = some k → pkM fk (W.set j (.sh (e x))) = some (.sh (eI k), W.set j (.sh (e x)))) (he : ∀ x v, x ∈ xs → ge x = some v → frM fe (W.set j (.sh (e x))) = some (.sh (ev v), W.set j (.sh (e x)))) (h : sdfO gk ge xs [] = some zs) :
    sSdf i j fi fk fe ρ = some (.nx ((W.set i (.ow (.dct (zs.map (ekv eI (eL ev)))))).set j .no)) := by
  obtain ⟨s', e1⟩ := sdfL_e (s := s) hk he h
  unfold sSdf
  rw [hi]
  simp only [Option.bind_some]
  rw [hslot]
  simp only
  rw [hW]
  rw [show (List.map (fun p : Int × List β => (eI p.1, p.2.map ev)) []) = [] from rfl] at e1
  rw [e1]
  simp only [Option.bind_some]
  unfold shK
  rw [List.map_map]
  refine congrArg (fun z => some (Fl.nx z)) ?_
  by_cases hij : i = j
  · subst hij
    rw [List.set_set, List.set_set, List.set_set]
  · rw [List.set_comm _ _ (fun z => hij z), List.set_set, List.set_comm _ _ (fun z => hij z.symm)]
    rfl
theorem dget_ {fo fk fd : M} {i : Nat} {ρ : Rho} {r : Rv} {k : Int} {ev : β → Dv} {kvs : List (Int × β)} {d : β} (ho : fo ρ = some (.al i, ρ)) (hd : ρ[i]? = some (.ow (.dct (kvs.map (ekv eI ev))))) (hk : pkM fk ρ = some (r, ρ)) (h1 : dat ρ r = some (eI k)) (hf : frM fd ρ = some (.sh (ev d), ρ)) :
    eDGet fo fk fd ρ = some (.sh (ev ((dgetO (EqE.eq eI) kvs k).getD d)), ρ) := by
  unfold eDGet
  rw [ho]
  simp only [Option.bind_some]
  rw [if_pos (by rw [hd]; rfl), hk]
  simp only [Option.bind_some]
  rw [h1]
  simp only [Option.bind_some]
  rw [hf]
  simp only [Option.bind_some, hd]
  rw [if_pos (show isKey (eI k) = true from rfl), getD_e]
  cases dgetO (EqE.eq eI) kvs k <;> rfl
/-! the draws -/
def nextO (ds : List Int) (n : Nat) (m : Int) : Option (Int × Nat) := if 0 < m then some ((match ds[n]? with | some d => d % m | none => 0), n + 1) else none
theorem w_init {F : FnS} {i : Nat} {xs ds : List Int} {m : Int} {ρ : Rho} {as' : List Sl} (h0 : ρ[0]? = some (.sh (eL eI xs))) (hd : F [.sh (eL eI xs), .sh (eI m)] = some (.ow (.lst (List.map eI ds)), as')) :
    sSet i (eDisp [((.inr ("draws" : Str) : Key), eFn F (aCons (frM (eVar 0)) (aCons (eC (.int m)) aNil))), ((.inr ("at" : Str) : Key), eC (.int 0))]) ρ = some (.nx (ρ.set i (.ow (W1 ds 0)))) := by
  have h1 : eFn F (aCons (frM (eVar 0)) (aCons (eC (.int m)) aNil)) ρ = some (.ow (.lst (List.map eI ds)), ρ) := fn_o (ac_ (fr_s (ev h0)) (ac_ (ec _ _) (an_ _))) rfl rfl hd (by
    cases as' with
    | nil => rfl
    | cons a as =>
      cases as with
      | nil => rfl
      | cons b as => cases as <;> rfl)
  have h2 := fr_o h1
  have h4 : prS [((.inr ("draws" : Str) : Key), eFn F (aCons (frM (eVar 0)) (aCons (eC (.int m)) aNil))), ((.inr ("at" : Str) : Key), eC (.int 0))] ρ = some ([((.inr ("draws" : Str) : Key), .list (List.map eI ds)), ((.inr ("at" : Str) : Key), .int 0)], ρ) := by
    unfold prS
    rw [h2]
    rfl
  have h5 : mergeD [] [((.inr ("draws" : Str) : Key), .list (List.map eI ds)), ((.inr ("at" : Str) : Key), .int 0)] = [(.str ("draws" : Str), .list (List.map eI ds)), (.str ("at" : Str), .int 0)] := by
    simp only [mergeD, List.foldl, putD, keyD, List.any, List.nil_append, Bool.or_false, key1]
    rfl
  have h3 : eDisp [((.inr ("draws" : Str) : Key), eFn F (aCons (frM (eVar 0)) (aCons (eC (.int m)) aNil))), ((.inr ("at" : Str) : Key), eC (.int 0))] ρ = some (.ow (W1 ds 0), ρ) := by
    unfold eDisp
    rw [h4]
    simp only [Option.bind_some]
    rw [h5]
    rfl
  exact set_o h3
theorem next_ex {ds : List Int} {n : Nat} {m : Int} (hm : 0 < m) : ∃ v, 0 ≤ v ∧ v < m ∧ nextO ds n m = some (v, n + 1) := by
  refine ⟨_, ?_, ?_, if_pos hm⟩
  · cases ds[n]? with
    | none => exact Int.le_refl _
    | some d => exact Int.emod_nonneg _ (by omega)
  · cases ds[n]? with
    | none => exact hm
    | some d => exact Int.emod_lt_of_pos _ hm
theorem sim_next {ds : List Int} {n : Nat} {m : Int} {v : Int × Nat} (h : nextO ds n m = some v) : nextF [.ow (W1 ds n), .sh (eI m)] = some (.sh (eI v.1), [.ow (W1 ds v.2), .sh (eI m)]) := by
  unfold nextO at h
  split at h
  rotate_left
  · cases h
  rename_i hm
  cases h
  show nextF [.ow (W1 ds n), .sh (.int m)] = some (.sh (.int _), [.ow (W1 ds (n + 1)), .sh (.int m)])
  by_cases h : n < ds.length
  · rw [List.getElem?_eq_getElem h]
    have e0 := next_s0 ds n (.sh (.int m))
    have e1 : ¬ (ds.length : Int) < (n : Int) + 1 := by omega
    have e2 := atI_map ds n h
    unfold nextF runF
    simp only [okA, List.contains, List.elem, nextG, sSeq, List.cons_append, List.nil_append, List.length_nil, List.replicate, Nat.sub_self, e0, Option.bind_some, ite_true, beq_self_eq_true, Bool.true_and, Bool.and_true]
    simp [sIf, tB, binS, pkM, eVar, eC, dat, eCall, aCons, aNil, dats, lenG, ixA, plD, isKey, W1, obD, getD, key1, key2, key3, cmpD, Rz.rv, e1, sNil, sRet, subD, intG, ixD, e2, modD, hm, outA]
  · rw [List.getElem?_eq_none (by omega)]
    have e0 := next_s0 ds n (.sh (.int m))
    have e1 : (ds.length : Int) < (n : Int) + 1 := by omega
    unfold nextF runF
    simp only [okA, List.contains, List.elem, nextG, sSeq, List.cons_append, List.nil_append, List.length_nil, List.replicate, Nat.sub_self, e0, Option.bind_some, ite_true, beq_self_eq_true, Bool.true_and, Bool.and_true]
    simp [sIf, tB, binS, pkM, eVar, eC, dat, eCall, aCons, aNil, dats, lenG, ixA, plD, isKey, W1, obD, getD, key1, key2, key3, cmpD, Rz.rv, e1, sNil, sRet, outA]
def pickO (ds : List Int) (n : Nat) (xs : List α) : Option (α × Nat) := (nextO ds n xs.length).bind fun v => (atI xs v.1).bind fun y => some (y, v.2)
theorem pick_ex {ds : List Int} {n : Nat} {xs : List α} (hx : xs ≠ []) : ∃ v, v ∈ xs ∧ pickO ds n xs = some (v, n + 1) := by
  have hl : 0 < xs.length := List.length_pos_iff.mpr hx
  obtain ⟨v, h0, h1, e⟩ := next_ex (ds := ds) (n := n) (m := xs.length) (by omega)
  obtain ⟨j, rfl⟩ := Int.eq_ofNat_of_zero_le h0
  have hj : j < xs.length := by omega
  refine ⟨xs[j], List.getElem_mem _, ?_⟩
  unfold pickO
  rw [e]
  simp only [Option.bind_some]
  rw [show atI xs (j : Int) = some xs[j] from atI_nat (List.getElem?_eq_getElem hj)]
  rfl
theorem sim_pick {ds : List Int} {n : Nat} {xs : List α} {e : α → Dv} {v : α × Nat} (h : pickO ds n xs = some v) : pickF [.ow (W1 ds n), .sh (.list (xs.map e))] = some (.sh (e v.1), [.ow (W1 ds v.2), .sh (.list (xs.map e))]) := by
  unfold pickO at h
  obtain ⟨u, h1, h⟩ := bnd h
  obtain ⟨y, h2, h⟩ := bnd h
  cases h
  have h3 := sim_next h1
  have h4 : ixA (.list (xs.map e)) (eI u.1) = some (.sh (e y)) := ixl_e h2
  refine run_wp (as := [.ow (W1 ds n), .sh (.list (xs.map e))]) rfl (fun i => by intro z; cases z) ?_
  refine wp_ret (d := e y) (ρ1 := [.ow (W1 ds u.2), .sh (.list (xs.map e))]) ?_ (rt_i rfl rfl)
  refine bin_s ev_1 ?_ h4
  exact fn_s (ac_ eva_0 (ac_ (fr_s (call_s (ac_ ev_1 (an_ _)) rfl (lenL_e xs))) (an_ _))) rfl rfl h3 rfl
end
end DL

set_option Elab.async false
set_option linter.all false
set_option autoImplicit false
set_option maxRecDepth 100000
set_option maxHeartbeats 1000000
namespace DL
open PySem PySem.Spec PyProof.Rows L2
section
variable {α β γ σ τ r : Type}
/-! ### plain lemmas over the typed combinators -/
theorem be {x : Option α} {f : α → Option β} {v : α} (h : x = some v) : x.bind f = f v := by
  rw [h]
  rfl
theorem whileO_le {c : σ → Option Bool} {f : σ → Option (Fo σ r)} : ∀ {n m : Nat} {s : σ} {o : Fo σ r}, n ≤ m → whileO c f n s = some o → whileO c f m s = some o
  | 0, _, _, _, _, h => by cases h
  | n + 1, 0, _, _, hl, _ => by omega
  | n + 1, m + 1, s, o, hl, h => by
    unfold whileO at h ⊢
    obtain ⟨b, h1, h⟩ := bnd h
    rw [h1]
    simp only [Option.bind_some]
    cases b with
    | false => exact h
    | true =>
      simp only [if_true] at h ⊢
      obtain ⟨u, h2, h⟩ := bnd h
      rw [h2]
      simp only [Option.bind_some]
      cases u with
      | nx s1 => exact whileO_le (by omega) h
      | bk s1 => exact h
      | rt y => exact h
theorem whileB_of {c : σ → Option Bool} {f : σ → Option (Fo σ r)} {n m : Nat} {s s' : σ} {k : σ → Option τ} {kr : r → Option τ} (hl : n ≤ m) (h : whileO c f n s = some (.nx s')) : whileB c f m s k kr = k s' := by
  unfold whileB
  rw [whileO_le hl h]
  rfl
theorem while_stop {c : σ → Option Bool} {f : σ → Option (Fo σ r)} {n : Nat} {s : σ} (h : c s = some false) : whileO c f (n + 1) s = some (.nx s) := by
  unfold whileO
  rw [h]
  rfl
theorem while_go {c : σ → Option Bool} {f : σ → Option (Fo σ r)} {n : Nat} {s s1 : σ} (h : c s = some true) (h2 : f s = some (.nx s1)) : whileO c f (n + 1) s = whileO c f n s1 := by
  rw [whileO, h]
  simp only [Option.bind_some, if_true]
  rw [h2]
  rfl
theorem forB_of {f : α → σ → Option (Fo σ r)} {xs : List α} {s s' : σ} {k : σ → Option τ} {kr : r → Option τ} (h : forO f xs s = some (.nx s')) : forB f xs s k kr = k s' := by
  unfold forB
  rw [h]
  rfl
theorem for_go {f : α → σ → Option (Fo σ r)} {x : α} {xs : List α} {s s1 : σ} (h : f x s = some (.nx s1)) : forO f (x :: xs) s = forO f xs s1 := by
  rw [forO, h]
  rfl
theorem for_bk {f : α → σ → Option (Fo σ r)} {x : α} {xs : List α} {s s1 : σ} (h : f x s = some (.bk s1)) : forO f (x :: xs) s = some (.nx s1) := by
  rw [forO, h]
  rfl
/-- a loop that keeps P and never leaves -/
theorem for_keep {f : α → σ → Option (Fo σ r)} (P : σ → Prop) : ∀ (xs : List α) (s : σ), P s → (∀ x s, x ∈ xs → P s → ∃ s', f x s = some (.nx s') ∧ P s') → ∃ s', forO f xs s = some (.nx s') ∧ P s'
  | [], s, h, _ => ⟨s, rfl, h⟩
  | x :: xs, s, h, st => by
    obtain ⟨s1, e1, h1⟩ := st x s (List.mem_cons_self ..) h
    obtain ⟨s2, e2, h2⟩ := for_keep P xs s1 h1 fun y s hy => st y s (List.mem_cons_of_mem _ hy)
    exact ⟨s2, (for_go e1).trans e2, h2⟩
theorem fold_go {f : α → σ → Option σ} {x : α} {xs : List α} {s s1 : σ} (h : f x s = some s1) : foldO f (x :: xs) s = foldO f xs s1 := by
  rw [foldO, h]
  rfl
theorem fold_keep {f : α → σ → Option σ} (P : σ → Prop) : ∀ (xs : List α) (s : σ), P s → (∀ x s, x ∈ xs → P s → ∃ s', f x s = some s' ∧ P s') → ∃ s', foldO f xs s = some s' ∧ P s'
  | [], s, h, _ => ⟨s, rfl, h⟩
  | x :: xs, s, h, st => by
    obtain ⟨s1, e1, h1⟩ := st x s (List.mem_cons_self ..) h
    obtain ⟨s2, e2, h2⟩ := fold_keep P xs s1 h1 fun y s hy => st y s (List.mem_cons_of_mem _ hy)
    exact ⟨s2, (fold_go e1).trans e2, h2⟩
theorem mapO_eq {f : α → Option β} {g : α → β} : ∀ {xs : List α}, (∀ x ∈ xs, f x = some (g x)) → mapO f xs = some (xs.map g)
  | [], _ => rfl
  | x :: xs, h => by
    rw [mapO, h x (List.mem_cons_self ..), mapO_eq fun y hy => h y (List.mem_cons_of_mem _ hy)]
    rfl
theorem szO_eq {x : Option (List β)} {ys : List β} (h : x = some ys) (hl : ys.length ≤ 1000000) : szO x = some ys := by
  rw [szO, h]
  exact if_pos (Nat.le_trans hl szl_6)
theorem szmap_eq {f : α → Option β} {g : α → β} {xs : List α} (h : ∀ x ∈ xs, f x = some (g x)) (hl : xs.length ≤ 1000000) : szO (mapO f xs) = some (xs.map g) := szO_eq (mapO_eq h) (by rw [List.length_map]; exact hl)
theorem lcO_eq {f : α → Option (Option β)} {g : α → Option β} : ∀ {xs : List α}, (∀ x ∈ xs, f x = some (g x)) → lcO f xs = some (xs.filterMap g)
  | [], _ => rfl
  | x :: xs, h => by
    rw [lcO, h x (List.mem_cons_self ..), lcO_eq fun y hy => h y (List.mem_cons_of_mem _ hy)]
    simp only [Option.bind_some]
    cases hg : g x with
    | none => rw [List.filterMap_cons_none hg]
    | some y => rw [List.filterMap_cons_some hg]
/-- a comprehension with one test -/
theorem lcO_filter {t : α → Bool} {g : α → β} {f : α → Option (Option β)} {xs : List α} (h : ∀ x ∈ xs, f x = some (if t x = true then some (g x) else none)) : lcO f xs = some ((xs.filter t).map g) := by
  rw [lcO_eq h]
  congr 1
  induction xs with
  | nil => rfl
  | cons x xs ih =>
    have := ih fun y hy => h y (List.mem_cons_of_mem _ hy)
    cases ht : t x with
    | true => rw [List.filterMap_cons_some (b := g x) (by rw [ht]; rfl), List.filter_cons_of_pos ht, List.map_cons, this]
    | false => rw [List.filterMap_cons_none (by rw [ht]; rfl), List.filter_cons_of_neg (by rw [ht]; decide), this]
theorem filterMap_len {g : α → Option β} (xs : List α) : (xs.filterMap g).length ≤ xs.length := List.length_filterMap_le ..
theorem szlc_eq {f : α → Option (Option β)} {g : α → Option β} {xs : List α} (h : ∀ x ∈ xs, f x = some (g x)) (hl : xs.length ≤ 1000000) : szO (lcO f xs) = some (xs.filterMap g) := szO_eq (lcO_eq h) (Nat.le_trans (filterMap_len xs) hl)
theorem szlc_filter {t : α → Bool} {g : α → β} {f : α → Option (Option β)} {xs : List α} (h : ∀ x ∈ xs, f x = some (if t x = true then some (g x) else none)) (hl : xs.length ≤ 1000000) : szO (lcO f xs) = some ((xs.filter t).map g) :=
  szO_eq (lcO_filter h) (by rw [List.length_map]; exact Nat.le_trans (List.length_filter_le ..) hl)
theorem catO_eq {f : α → Option (List β)} {g : α → List β} : ∀ {xs : List α}, (∀ x ∈ xs, f x = some (g x)) → catO f xs = some (xs.flatMap g)
  | [], _ => rfl
  | x :: xs, h => by
    rw [catO, h x (List.mem_cons_self ..), catO_eq fun y hy => h y (List.mem_cons_of_mem _ hy)]
    rfl
theorem plusO_eq {xs ys : List α} (h : xs.length + ys.length ≤ 1000000) : plusO xs ys = some (xs ++ ys) := if_pos (Nat.le_trans h szl_6)
theorem pushO_eq {xs : List α} {v : α} (h : xs.length < 1000000) : pushO xs v = some (xs ++ [v]) := if_pos (Nat.lt_of_lt_of_le h szl_6)
theorem rngO1_eq {n : Nat} (h : n ≤ 1000000) : rngO1 (n : Int) = some (rangeI 0 n) := by
  unfold rngO1 bnd62
  rw [if_pos (decide_eq_true ⟨by omega, by omega⟩)]
  rfl
theorem rngO2_eq {n : Nat} (h : n ≤ 1000000) : rngO2 1 (n : Int) = some (rangeI 1 (n - 1)) := by
  unfold rngO2 bnd62
  rw [if_pos ⟨decide_eq_true ⟨by omega, by omega⟩, decide_eq_true ⟨by omega, by omega⟩⟩]
  congr 2
  omega
theorem rangeI_nat (n : Nat) : rangeI 0 n = (List.range n).map (fun i : Nat => (i : Int)) := by
  unfold rangeI
  congr 1
  funext i
  simp
theorem rangeI_len (lo : Int) (n : Nat) : (rangeI lo n).length = n := by simp [rangeI]
theorem atI_ge {xs : List α} {j : Nat} {v : α} (h : xs[j]? = some v) : atI xs (j : Int) = some v := atI_nat h
end
section
variable {α β : Type}
theorem fold_flat {f : α → List β → Option (List β)} {g : α → List β} (b : Nat) : ∀ (xs : List α) (s : List β), s.length + xs.length * b ≤ 1000000 → (∀ x ∈ xs, (g x).length ≤ b) → (∀ x ∈ xs, ∀ s : List β, s.length + b ≤ 1000000 → f x s = some (s ++ g x)) → foldO f xs s = some (s ++ xs.flatMap g)
  | [], s, _, _, _ => by simp [foldO]
  | x :: xs, s, hl, hb, hf => by
    rw [List.length_cons, Nat.add_mul] at hl
    have h1 := hb x (List.mem_cons_self ..)
    refine (fold_go (hf x (List.mem_cons_self ..) s (by omega))).trans ?_
    rw [fold_flat b xs (s ++ g x) (by rw [List.length_append]; omega) (fun y hy => hb y (List.mem_cons_of_mem _ hy)) fun y hy => hf y (List.mem_cons_of_mem _ hy)]
    simp
theorem maxE_spec : ∀ (xs : List Int) (x : Int), maxE eI x xs ∈ x :: xs ∧ ∀ y ∈ x :: xs, y ≤ maxE eI x xs
  | [], x => by simp [maxE]
  | z :: xs, x => by
    have h := maxE_spec xs (if ltE eI x z = true then z else x)
    have e : maxE eI x (z :: xs) = maxE eI (if ltE eI x z = true then z else x) xs := rfl
    have hl : ltE eI x z = true ↔ x < z := decide_eq_true_iff
    rw [e]
    by_cases hc : x < z
    · rw [if_pos (hl.mpr hc)] at h ⊢
      refine ⟨List.mem_cons_of_mem _ h.1, fun y hy => ?_⟩
      rcases List.mem_cons.mp hy with rfl | hy
      · have := h.2 z (List.mem_cons_self ..)
        omega
      · exact h.2 y hy
    · rw [if_neg (fun q => hc (hl.mp q))] at h ⊢
      refine ⟨?_, fun y hy => ?_⟩
      · rcases List.mem_cons.mp h.1 with h | h
        · rw [h]; exact List.mem_cons_self ..
        · exact List.mem_cons_of_mem _ (List.mem_cons_of_mem _ h)
      · rcases List.mem_cons.mp hy with rfl | hy
        · exact h.2 _ (List.mem_cons_self ..)
        · rcases List.mem_cons.mp hy with rfl | hy
          · have := h.2 x (List.mem_cons_self ..)
            omega
          · exact h.2 y (List.mem_cons_of_mem _ hy)
end
/-! ### told plainly: `_law_plain` of k85 and others on data of types -/
end DL

set_option Elab.async false
set_option linter.all false
set_option autoImplicit false
set_option maxRecDepth 100000
set_option maxHeartbeats 1000000
namespace DL
open PySem PySem.Spec PyProof.Rows L2
section
variable {α : Type} {e : α → Dv}
def popO (xs : List α) : Option (α × List α) := (xs[xs.length - 1]?).map fun v => (v, xs.dropLast)
theorem pop_ {fo : M} {j : Nat} {ρ : Rho} {xs : List α} {w : α × List α} (h : popO xs = some w) (ho : fo ρ = some (.al j, ρ)) (hi : isOb "list" ρ[j]? = true) (hj : ρ[j]? = some (.ow (.lst (xs.map e)))) : mutM "list" popG fo aNil ρ = some (.sh (e w.1), ρ.set j (.ow (.lst (w.2.map e)))) := by
  unfold popO at h
  obtain ⟨v, h1, rfl⟩ := Option.map_eq_some_iff.mp h
  unfold mutM
  rw [ho]
  simp only [Option.bind_some]
  rw [if_pos hi]
  simp only [aNil, Option.bind_some, shs]
  rw [hj]
  simp only [popG]
  rw [List.getElem?_map, List.length_map, h1]
  simp [List.map_dropLast]
def idxO (e : α → Dv) [EqE e] (xs : List α) (v : α) : Option Nat := xs.findIdx? fun z => eqE e z v
theorem idx_ [EqE e] {fo : M} {ga : MA} {ρ ρ0 ρ1 : Rho} {xs : List α} {v : α} {j : Nat} (hd : EqE.dep e + 1 ≤ 64) (h : idxO e xs v = some j) (ho : fo ρ = some (.sh (.list (xs.map e)), ρ0)) (ha : ga ρ0 = some ([.sh (e v)], ρ1)) : eIdx fo ga ρ = some (.sh (eI (j : Int)), ρ1) := by
  unfold eIdx
  rw [ho]
  simp only [Option.bind_some]
  rw [ha]
  simp only [Option.bind_some]
  have : idxN (xs.map e) (e v) = some j := by
    unfold idxN
    rw [if_pos ⟨shapedL_e hd xs, shaped_e (by omega) v⟩, List.findIdx?_map]
    refine Eq.trans ?_ h
    unfold idxO
    congr 1
    funext z
    exact EqE.eqv z v
  rw [this]
  rfl
end
end DL

set_option Elab.async false
set_option linter.all false
set_option autoImplicit false
set_option maxRecDepth 100000
set_option maxHeartbeats 1000000
namespace DL
open PySem PySem.Spec PyProof.Rows L2
/-! ### order of typed data; least ones -/
section
variable {α β τ : Type} {e : α → Dv} {et : τ → Dv}
theorem ltE_data [OrdE e] (a b : α) : ltE e a b = PySem.W.dataLt (e a) (e b) := (OrdE.ltEq a b).symm
theorem ltE_trans [OrdE e] {a b c : α} (h1 : ltE e a b = true) (h2 : ltE e b c = true) : ltE e a c = true := by
  rw [ltE_data] at *
  exact lex_trans (O := itemOrd) _ _ _ h1 h2
theorem ltE_irr [OrdE e] (a : α) : ltE e a a = false := lt_irr a
theorem ltE_asym [OrdE e] {a b : α} (h : ltE e a b = true) : ltE e b a = false := by
  cases h2 : ltE e b a with
  | false => rfl
  | true => exact absurd (ltE_trans h h2) (by rw [ltE_irr]; decide)
theorem ltE_neg [OrdE e] {a c : α} (b : α) (h : ltE e a c = true) : ltE e a b = true ∨ ltE e b c = true := by
  rw [ltE_data] at *
  rw [ltE_data]
  exact lex_negTrans (O := itemOrd) _ _ _ h
theorem ltE_tot [OrdE e] {a b : α} (h1 : ltE e a b = false) (h2 : ltE e b a = false) : a = b := OrdE.tot a b h1 h2
theorem minE_spec [OrdE e] : ∀ (xs : List α) (x : α), minE e x xs ∈ x :: xs ∧ ∀ y ∈ x :: xs, ltE e y (minE e x xs) = false
  | [], x => by
    refine ⟨List.mem_cons_self .., fun y hy => ?_⟩
    rcases List.mem_cons.mp hy with rfl | hy
    · exact ltE_irr _
    · cases hy
  | z :: xs, x => by
    have h := minE_spec xs (if ltE e z x = true then z else x)
    have eq : minE e x (z :: xs) = minE e (if ltE e z x = true then z else x) xs := rfl
    rw [eq]
    by_cases hc : ltE e z x = true
    · rw [if_pos hc] at h ⊢
      refine ⟨List.mem_cons_of_mem _ h.1, fun y hy => ?_⟩
      rcases List.mem_cons.mp hy with rfl | hy
      · cases hq : ltE e y (minE e z xs) with
        | false => rfl
        | true => exact absurd (ltE_trans hc hq) (by rw [h.2 z (List.mem_cons_self ..)]; decide)
      · exact h.2 y hy
    · rw [if_neg hc] at h ⊢
      refine ⟨?_, fun y hy => ?_⟩
      · rcases List.mem_cons.mp h.1 with h | h
        · rw [h]; exact List.mem_cons_self ..
        · exact List.mem_cons_of_mem _ (List.mem_cons_of_mem _ h)
      · rcases List.mem_cons.mp hy with rfl | hy
        · exact h.2 _ (List.mem_cons_self ..)
        · rcases List.mem_cons.mp hy with rfl | hy
          · cases hq : ltE e y (minE e x xs) with
            | false => rfl
            | true =>
              rcases ltE_neg x hq with h1 | h1
              · exact absurd h1 hc
              · exact absurd h1 (by rw [h.2 x (List.mem_cons_self ..)]; decide)
          · exact h.2 y (List.mem_cons_of_mem _ hy)
theorem minO_spec [OrdE e] {xs : List α} {m : α} (h : minO e xs = some m) : m ∈ xs ∧ ∀ y ∈ xs, ltE e y m = false := by
  cases xs with
  | nil => cases h
  | cons x xs =>
    cases h
    exact minE_spec xs x
theorem minO_of [OrdE e] {xs : List α} {m : α} (h : m ∈ xs) (k : ∀ y ∈ xs, ltE e y m = false) : minO e xs = some m := by
  cases xs with
  | nil => cases h
  | cons x xs =>
    have h2 := minE_spec (e := e) xs x
    exact congrArg some (ltE_tot (h2.2 m h |> fun q => k _ h2.1) (h2.2 m h))
theorem minO_ex [OrdE e] {xs : List α} (h : xs ≠ []) : ∃ m, minO e xs = some m ∧ m ∈ xs ∧ ∀ y ∈ xs, ltE e y m = false := by
  cases xs with
  | nil => exact absurd rfl h
  | cons x xs => exact ⟨_, rfl, minE_spec xs x⟩
theorem minO_mem [OrdE e] {xs ys : List α} (h : ∀ x, x ∈ xs ↔ x ∈ ys) : minO e xs = minO e ys := by
  cases hx : minO e xs with
  | some m =>
    obtain ⟨h1, h2⟩ := minO_spec hx
    exact (minO_of ((h m).mp h1) fun y hy => h2 y ((h y).mpr hy)).symm
  | none =>
    cases xs with
    | cons x xs => cases hx
    | nil =>
      cases ys with
      | nil => rfl
      | cons y ys => exact absurd ((h y).mpr (List.mem_cons_self ..)) List.not_mem_nil
theorem idx_of [EqE e] {xs : List α} {v : α} (h : v ∈ xs) : ∃ j, idxO e xs v = some j ∧ j < xs.length ∧ xs[j]? = some v ∧ ∀ i, i < j → xs[i]? ≠ some v := by
  unfold idxO
  cases hf : List.findIdx? (fun z => eqE e z v) xs with
  | none =>
    have := List.findIdx?_eq_none_iff.mp hf v h
    rw [eqE_self] at this
    cases this
  | some j =>
    obtain ⟨hj, h1, h2⟩ := List.findIdx?_eq_some_iff_getElem.mp hf
    refine ⟨j, rfl, hj, ?_, fun i hi hv => ?_⟩
    · rw [List.getElem?_eq_getElem hj]
      exact congrArg some (eqE_iff.mp h1)
    · have hi2 : i < xs.length := by omega
      rw [List.getElem?_eq_getElem hi2, Option.some.injEq] at hv
      have := h2 i hi
      rw [hv, eqE_self] at this
      exact this rfl
/-- the least of pairs of an image and what makes it, the makers ascending -/
theorem pair_min [OrdE e] [OrdE et] {xs : List τ} {g : τ → α} (asc : xs.Pairwise fun a b => ltE et a b = true) {m : α} (hm : minO e (xs.map g) = some m) {j : Nat} {t : τ} (ht : xs[j]? = some t) (hg : g t = m) (hj : ∀ i, i < j → ∀ s, xs[i]? = some s → g s ≠ m) :
    minO (e2 e et) (xs.map fun t => (g t, t)) = some (m, t) := by
  obtain ⟨h1, h2⟩ := minO_spec hm
  have hjl : j < xs.length := by
    rcases Nat.lt_or_ge j xs.length with h | h
    · exact h
    · rw [List.getElem?_eq_none h] at ht
      cases ht
  have htm : t ∈ xs := List.mem_of_getElem? ht
  refine minO_of (List.mem_map.mpr ⟨t, htm, by rw [hg]⟩) fun y hy => ?_
  obtain ⟨s, hs, rfl⟩ := List.mem_map.mp hy
  show (if EqE.eq e (g s) m = true then OrdE.lt et s t else OrdE.lt e (g s) m) = false
  by_cases hc : g s = m
  · rw [if_pos ((EqE.iff _ _).mpr hc)]
    obtain ⟨i, hi⟩ := List.getElem?_of_mem hs
    rcases Nat.lt_trichotomy i j with h | h | h
    · exact absurd hc (hj i h s hi)
    · subst h
      rw [ht] at hi
      cases hi
      exact lt_irr t
    · have hil : i < xs.length := by
        rcases Nat.lt_or_ge i xs.length with h | h
        · exact h
        · rw [List.getElem?_eq_none h] at hi
          cases hi
      have := List.pairwise_iff_getElem.mp asc j i hjl hil h
      rw [List.getElem?_eq_getElem hjl, Option.some.injEq] at ht
      rw [List.getElem?_eq_getElem hil, Option.some.injEq] at hi
      rw [ht, hi] at this
      exact ltE_asym this
  · rw [if_neg fun z => hc ((EqE.iff _ _).mp z)]
    exact h2 _ (List.mem_map.mpr ⟨s, hs, rfl⟩)
end
/-! ### chains of binds -/
theorem ext {α : Type} {x : Option α} {f : α → Option Bool} {v : α} (h : x = some v) (k : f v = some true) : x.bind f = some true := (be h).trans k
theorem exi {c : Bool} {x y : Option Bool} (h : c = false) (k : y = some true) : (if c = true then x else y) = some true := by
  rw [if_neg (by rw [h]; decide)]
  exact k
theorem exn {α σ r : Type} {x : Option α} {f : α → Option (Fo σ r)} {v : α} (h : x = some v) (k : ∃ n, f v = some (.nx n)) : ∃ n, x.bind f = some (.nx n) := by
  rw [be h]
  exact k
theorem exnif {σ r : Type} {c : Bool} {x y : Option (Fo σ r)} (h : c = false) (k : ∃ n, y = some (.nx n)) : ∃ n, (if c = true then x else y) = some (.nx n) := by
  rw [if_neg (by rw [h]; decide)]
  exact k
/-- as exn, with a property of what goes on -/
theorem exp {α σ r : Type} {P : σ → Prop} {x : Option α} {f : α → Option (Fo σ r)} {v : α} (h : x = some v) (k : ∃ n, f v = some (.nx n) ∧ P n) : ∃ n, x.bind f = some (.nx n) ∧ P n := by
  rw [be h]
  exact k
theorem expif {σ r : Type} {P : σ → Prop} {c : Bool} {x y : Option (Fo σ r)} (h : c = false) (k : ∃ n, y = some (.nx n) ∧ P n) : ∃ n, (if c = true then x else y) = some (.nx n) ∧ P n := by
  rw [if_neg (by rw [h]; decide)]
  exact k
theorem told_ {α : Type} {e : α → Dv} [EqE e] {a b : α} {x : Option Bool} (h : a = b) (hx : x = some (!eqE e a b)) : ((if (!true) = true then some true else x)) = some false := by
  rw [if_neg (by decide), hx, h, eqE_self]
  rfl
def anO {α : Type} (x : Option α) (f : α → Bool) : Bool := match x with
  | some v => f v
  | none => false
theorem anO_inv {α : Type} {x : Option α} {f : α → Bool} (h : anO x f = true) : ∃ v, x = some v ∧ f v = true := by
  cases x with
  | none => cases h
  | some v => exact ⟨v, rfl, h⟩
/-- is it this one -/
def isO {α : Type} (e : α → Dv) [EqE e] (x : Option α) (v : α) : Bool := match x with
  | some u => eqE e u v
  | none => false
theorem isO_inv {α : Type} {e : α → Dv} [EqE e] {x : Option α} {v : α} (h : isO e x v = true) : x = some v := by
  cases x with
  | none => cases h
  | some u => exact congrArg some (eqE_iff.mp h)
end DL

set_option Elab.async false
set_option linter.all false
set_option autoImplicit false
set_option maxRecDepth 100000
set_option maxHeartbeats 1000000
namespace DL
open PySem PySem.Spec PyProof.Rows L2
/-! ### dicts that stay as they are -/
def fzM (f : M) : M := fun ρ => (f ρ).bind fun x => match x.1 with
  | .ow (.lst _) => none
  | .ow (.dct kvs) => some (.fd (.dct kvs), x.2)
  | .ow (.dtn kvs) => some (.fd (.dtn kvs), x.2)
  | .al i => match x.2[i]? with
    | some (.ow (.dct kvs)) => some (.fd (.dct kvs), x.2.set i (.fd (.dct kvs)))
    | some (.ow (.dtn kvs)) => some (.fd (.dtn kvs), x.2.set i (.fd (.dtn kvs)))
    | _ => none
  | .fd o => some (.fd o, x.2)
  | .sh _ => none
section
variable {K : PySem.W.Frag} {ix : List Nat} {Fr G H : Hp} {FX : Nat → Option V} {ρ : Rho} {σ : L2.St}
theorem RS.freeze (R : RS K ix Fr FX G ρ σ H) {p : Addr} {u : HO} (hg : G p = none) (hf : Fr p = none) (hn : ∀ (i : Nat) (o' : Ob), ρ[i]? = some (.ow o') → σ[i]? ≠ some (some (.ref p))) : RS K ix Fr FX (upd G p u) ρ σ (upd H p u) := by
  refine ⟨fun a o e => ?_, fun a o e => ?_, fun a n => ?_, R.len, fun i s e => ?_, R.sep, R.fx⟩
  · by_cases ha : a = p
    · subst ha; rw [upd_same] at e ⊢; exact e
    · rw [upd_ne ha] at e ⊢; exact R.gh a o e
  · by_cases ha : a = p
    · subst ha; rw [hf] at e; cases e
    · rw [upd_ne ha]; exact R.fh a o e
  · by_cases ha : a = p
    · subst ha; exact absurd hf n
    · rw [upd_ne ha]; exact R.gf a n
  · refine (R.sl i s e).mono (sub_upd hg) fun a o' e1 e2 g f => ?_
    have ha : a ≠ p := fun z => by
      subst z; subst e2
      exact hn i _ e e1
    rw [upd_ne ha, upd_ne ha]
    exact ⟨g, rfl⟩
/-- the owned dict of a value is frozen -/
theorem freeze_ow {X : Cx} {pins : List (Addr × Obj)} {s1 : Shared} {a : Addr} {o : Ob} (hl : ∀ xs, o ≠ .lst xs) (I : Inv X pins σ H s1) (R : RS X.K ix Fr FX G ρ σ H) (g : G a = none) (f : Fr a = none) (c : Ct X.K G H a o) (hn : ∀ (i : Nat) (o' : Ob), ρ[i]? = some (.ow o') → σ[i]? ≠ some (some (.ref a))) :
    ∃ G' H', Inv X pins σ H' s1 ∧ Sub G G' ∧ RS X.K ix Fr FX G' ρ σ H' ∧ Cf X.K G' a o := by
  cases o with
  | lst xs => exact absurd rfl (hl xs)
  | dct kvs =>
    obtain ⟨ks, e, q⟩ := c
    obtain ⟨od, I'⟩ := I.lock e True.intro
    exact ⟨_, _, I', sub_upd g, R.freeze g f hn, od, ks, upd_same, q.mono (sub_upd g)⟩
  | dtn kvs =>
    obtain ⟨ks, e, q⟩ := c
    obtain ⟨od, I'⟩ := I.lock e True.intro
    exact ⟨_, _, I', sub_upd g, R.freeze g f hn, od, ks, upd_same, q.mono (sub_upd g)⟩
end
section
variable {X : Cx} {ix : List Nat} {e a b o : Expr} {f fo fk fv : M} {tg : Expr} {pos : Pos}
theorem de_fz (h : PE X e (TE' X.K ix f)) : PE X e (TE' X.K ix (fzM f)) := ⟨fun pins s σ H Q I ⟨Fr, FX, G, ρ, r, ρ', R, hf, k⟩ => by
  unfold fzM at hf
  obtain ⟨⟨r0, ρ0⟩, h0, hf⟩ := Option.bind_eq_some_iff.mp hf
  refine thn (h.run pins s σ H (fun v H1 => ∃ G1, Sub G G1 ∧ RS X.K ix Fr FX G1 ρ0 σ H1 ∧ VOk X.K Fr G1 H1 ρ0 σ r0 v) I ⟨Fr, FX, G, ρ, r0, ρ0, R, h0, fun v G' H' s R' q => ⟨G', s, R', q⟩⟩) fun u s1 ⟨v, H1, I1, ru, G1, sb, R1, v1⟩ => ?_
  have own : ∀ (o : Ob) (hl : ∀ xs, o ≠ .lst xs), r0 = .ow o → r = .fd o → ρ' = ρ0 → ∃ x Hz, Inv X pins σ Hz s1 ∧ RelV x u ∧ Q x Hz := by
    intro o hl e1 e2 e3
    subst e1 e2 e3
    obtain ⟨a, rfl, g, fr, c, hn⟩ := v1
    obtain ⟨G2, H2, I2, s2, R2, c2⟩ := freeze_ow hl I1 R1 g fr c hn
    exact ⟨.ref a, H2, I2, ru, k _ G2 H2 (sb.trans s2) R2 ⟨a, rfl, c2⟩⟩
  have als : ∀ (i : Nat) (o : Ob) (hl : ∀ xs, o ≠ .lst xs), r0 = .al i → ρ0[i]? = some (.ow o) → r = .fd o → ρ' = ρ0.set i (.fd o) → ∃ x Hz, Inv X pins σ Hz s1 ∧ RelV x u ∧ Q x Hz := by
    intro i o hl e1 hi e2 e3
    subst e1 e2 e3
    obtain ⟨a, ev, g, fr, c⟩ := R1.sl i _ hi
    have e' : σ[i]? = some (some v) := v1
    rw [ev] at e'
    cases e'
    have hlt : i < ρ0.length := (List.getElem?_eq_some_iff.mp hi).1
    have W := R1.weak (i := i) (s := .no) trivial (fun o z => nomatch z)
    have hn : ∀ (j : Nat) (o' : Ob), (ρ0.set i .no)[j]? = some (.ow o') → σ[j]? ≠ some (some (.ref a)) := fun j o' e1 e2 => by
      by_cases hj : i = j
      · subst hj
        rw [List.getElem?_set_self hlt] at e1
        cases e1
      · rw [List.getElem?_set_ne hj] at e1
        exact R1.sep i j a _ o' hj hi e1 ev e2
    obtain ⟨G2, H2, I2, s2, R2, c2⟩ := freeze_ow hl I1 W g fr c hn
    have R3 := R2.weak (i := i) (s := .fd o) ⟨a, ev, c2⟩ (fun o z => nomatch z)
    rw [List.set_set] at R3
    exact ⟨.ref a, H2, I2, ru, k _ G2 H2 (sb.trans s2) R3 ⟨a, rfl, c2⟩⟩
  cases r0 with
  | sh d => cases hf
  | ow o =>
    cases o with
    | lst xs => cases hf
    | dct kvs => cases hf; exact own (.dct kvs) (fun xs z => nomatch z) rfl rfl rfl
    | dtn kvs => cases hf; exact own (.dtn kvs) (fun xs z => nomatch z) rfl rfl rfl
  | fd o =>
    cases hf
    exact ⟨v, H1, I1, ru, k _ G1 H1 sb R1 v1⟩
  | al i =>
    simp only at hf
    split at hf
    · rename_i kvs hi
      cases hf
      exact als i (.dct kvs) (fun xs z => nomatch z) rfl hi rfl rfl
    · rename_i kvs hi
      cases hf
      exact als i (.dtn kvs) (fun xs z => nomatch z) rfl hi rfl rfl
    · cases hf⟩
/-! ### for k in d, d frozen -/
def keysOf : Ob → Option (List Dv)
  | .dct kvs => some (kvs.map Prod.fst)
  | .dtn kvs => some (kvs.map Prod.fst)
  | .lst _ => none
def iFd (f : M) : ML := fun ρ => (f ρ).bind fun x => match x.1 with
  | .fd o => (keysOf o).bind fun ds => some (ds, x.2)
  | _ => none
/-- the keys of the locked dict with (nested) tuple keys at d -/
def Itq (d : Addr) (o : Obj) (ps : List (NestedKey × Addr × V)) : It :=
  ⟨fun i H => H d = some (.frz o (tkO d ps)) ∧ i < ps.length, fun i H x H' => H' = H ∧ ∃ k b v, ps[i]? = some (k, b, v) ∧ x = .ref b, fun i H => H d = some (.frz o (tkO d ps)) ∧ ps.length ≤ i⟩
theorem pr_get : ∀ {ps : List (NestedKey × Addr × V)} {xs : List (NestedKey × Addr × Value)} {i : Nat} {k : NestedKey} {b : Addr} {v : V}, PR ps xs → ps[i]? = some (k, b, v) → ∃ u, xs[i]? = some (k, b, u)
  | _, _, i, k, b, v, .nil, e => by simp at e
  | _, _, 0, k, b, v, .cons r t, e => by
    simp only [List.getElem?_cons_zero, Option.some.injEq, Prod.mk.injEq] at e
    obtain ⟨rfl, rfl, rfl⟩ := e
    exact ⟨_, rfl⟩
  | _, _, i + 1, k, b, v, .cons r t, e => by
    simp only [List.getElem?_cons_succ] at e ⊢
    exact pr_get t e
section
variable {pins : List (Addr × Obj)} {σ : L2.St} {H : Hp} {s : Shared} {d : Addr} {oo : Obj}
theorem frzQ {ps : List (NestedKey × Addr × V)} (I : Inv X pins σ H s) (h : H d = some (.frz oo (tkO d ps))) :
    (d == sysModules) = false ∧ s.heap.get? d = some oo ∧ oo.ExactDict ∧ ∃ (es : Array DictEntry) (ep : Nat), oo.data = .dict es ep ∧ es.size = ps.length ∧
      ∀ (i : Nat) (k : NestedKey) (b : Addr) (v : V), ps[i]? = some (k, b, v) → ∃ (en : DictEntry), es[i]? = some en ∧ en.key = .ref b := by
  obtain ⟨hd, ⟨hs, xs, o', es, ep, pr, ho, hx, hdt, he, nd⟩, _, _⟩ := I.hok d _ h
  rw [hd] at ho
  cases ho
  have he' := he X.w
  have l1 : es.size = xs.length := by rw [← Array.length_toList, he', List.length_map]
  refine ⟨hs, hd, hx, es, ep, hdt, by rw [l1, pr_len pr], fun i k b v e => ?_⟩
  obtain ⟨u, hu⟩ := pr_get pr e
  refine ⟨⟨k.hash X.w, .ref b, u⟩, ?_, rfl⟩
  rw [← Array.getElem?_toList, he', List.getElem?_map, hu]
  rfl
/-- a turn of the walk over the keys, by the library's walk over raw entries -/
theorem turn_q {P : Program} {w : World} {K : PySem.W.Frag} {ps : List (NestedKey × Addr × V)} {es : Array DictEntry} {ep : Nat} (it : Addr) (hod : oo.data = .dict es ep) : Turn P w K tg (Itq d oo ps) [it] it (fun i h => h.IsKeyIter it d i es.size ep) := by
  have raw : ∀ (X : Cx) (pins : List (Addr × Obj)) (σ : L2.St) (H : Hp) (s : Shared), Inv X pins σ H s → H d = some (.frz oo (tkO d ps)) → H it = none → s.heap.DictRaw d es ep ∧ d ≠ it ∧ es.size = ps.length ∧ ∀ (i : Nat) (hi : i < es.size), ∃ k b v, ps[i]? = some (k, b, v) ∧ es[i].key = .ref b := by
    intro X pins σ H s I hd hit
    obtain ⟨_, h1, h2, es', ep', h3, h4, h5⟩ := frzQ I hd
    obtain ⟨rfl, rfl⟩ := dict_ep hod h3
    refine ⟨⟨oo, h1, h2, hod⟩, (fun z => by rw [z, hit] at hd; cases hd), h4, fun i hi => ?_⟩
    obtain ⟨en, h6, h7⟩ := h5 i ps[i].1 ps[i].2.1 ps[i].2.2 (List.getElem?_eq_getElem (by omega))
    rw [Array.getElem?_eq_getElem hi] at h6
    cases h6
    exact ⟨_, _, _, List.getElem?_eq_getElem (by omega), h7⟩
  constructor
  case mem => exact List.mem_singleton.mpr rfl
  case obj =>
    rintro i h ⟨oi, e, c, dd⟩ b hb
    rw [List.mem_singleton.mp hb]
    exact ⟨oi, e, fun v z => by rw [dd] at z; cases z⟩
  case keep => exact fun i h h' st k => st.at fun oi e => k it (List.mem_singleton.mpr rfl) oi e
  case self => exact fun A i s Q E st h => wpAny_pyIter_keyiter st h
  case item =>
    rintro X rfl rfl rfl hc i pins s σ H E I hf st ⟨hd, hi⟩
    obtain ⟨f0, f1, f2, f3, f4, f5⟩ := hf it (List.mem_singleton.mpr rfl)
    obtain ⟨r1, r2, r3, r4⟩ := raw X pins σ H s I hd f0
    refine (Walks.rawKeys (I.ok.hd hc) it d r2 es ep).item i s _ _ (by omega) ⟨st, r1⟩ fun v h' tk ⟨hj, ev⟩ st' kk => ?_
    obtain ⟨k, b, x, e1, e2⟩ := r4 i hj
    obtain ⟨oi, e, c, dd⟩ := id st'.1
    have J := I.turned (t' := tk) (h' := h') (fun b o hb e => kk b o (by simpa using hb) e) f0 f1 f3 f4 f5
    exact ⟨v, rfl, go_of (s := { s with heap := h', toks := tk }) e c dd (by decide) ⟨.ref b, H, J, by rw [ev, e2]; rfl, ⟨rfl, k, b, x, e1, rfl⟩, st'.1, fun b hb => (hf b hb).1⟩⟩
  case done =>
    rintro X rfl rfl rfl hc i pins s σ H E I hf st ⟨hd, hi⟩
    obtain ⟨f0, f1, f2, f3, f4, f5⟩ := hf it (List.mem_singleton.mpr rfl)
    obtain ⟨r1, r2, r3, r4⟩ := raw X pins σ H s I hd f0
    exact next_key_end (I.ok.hd hc) st (frzQ I hd).2.1 hod rfl (by omega) fun h' eb => ⟨rfl, I.turned (t' := s.toks) (fun b o hb e => eb b o hb e) f0 f1 f3 f4 f5⟩
end
def iKeysF (td : TE) : TI := fun σ H R => td σ H fun x H1 => ∃ d o, x = .ref d ∧ ((∃ kvs, H1 d = some (.frz o (.dK kvs)) ∧ R (Itk d o kvs) H1) ∨ ∃ ps, H1 d = some (.frz o (tkO d ps)) ∧ R (Itq d o ps) H1)
theorem pi_keysF {td : TE} (he : PE X e td) : PI X tg e (iKeysF td) := by
  refine ⟨fun pins s σ H R I h => ?_⟩
  refine thn (he.run pins s σ H _ I h) fun u s1 ⟨x, H1, I1, rx, d, o, ex, q⟩ => ?_
  subst ex
  obtain rfl : u = Value.ref d := rx
  rcases q with ⟨kvs, hd, q⟩ | ⟨kvs, hd, q⟩
  · obtain ⟨n1, n2, n3, es, ep, _, n4, n5, _⟩ := I1.frzK hd
    exact iter_keys n1 n2 n3 n4 (pi_one (tk := s1.toks) I1 _ (turn_keys _ n4) ⟨_, Heap.get?_push_size _ rfl, rfl, by rw [n5] <;> rfl⟩ q)
  · obtain ⟨n1, n2, n3, es, ep, n4, _, _⟩ := frzQ I1 hd
    exact iter_keys n1 n2 n3 n4 (pi_one (tk := s1.toks) I1 _ (turn_q _ n4) ⟨_, Heap.get?_push_size _ rfl, rfl, rfl⟩ q)
theorem dkv_at {K : PySem.W.Frag} {G : Hp} : ∀ {ks : List (Key × V)} {kvs : List (Dv × Dv)} {i : Nat}, DKV K G ks kvs → ∀ {kd : Dv × Dv}, kvs[i]? = some kd → ∃ k v, ks[i]? = some (k, v) ∧ kd.1 = keyD k ∧ Dp K G v kd.2
  | _, _, i, .nil, kd, e => by simp at e
  | _, _, 0, .cons h t, kd, e => by
    simp only [List.getElem?_cons_zero, Option.some.injEq] at e
    subst e
    exact ⟨_, _, rfl, rfl, h⟩
  | _, _, i + 1, .cons h t, kd, e => by
    simp only [List.getElem?_cons_succ] at e ⊢
    exact dkv_at t e
theorem tkv_at {K : PySem.W.Frag} {G : Hp} : ∀ {ps : List (NestedKey × Addr × V)} {kvs : List (Dv × Dv)} {i : Nat}, TKV K G ps kvs → ∀ {kd : Dv × Dv}, kvs[i]? = some kd → ∃ k b v, ps[i]? = some (k, b, v) ∧ Dp K G (.ref b) kd.1 ∧ Dp K G v kd.2
  | _, _, i, .nil, kd, e => by simp at e
  | _, _, 0, .cons h1 h2 h3 h4 t, kd, e => by
    simp only [List.getElem?_cons_zero, Option.some.injEq] at e
    subst e
    exact ⟨_, _, _, rfl, h3, h4⟩
  | _, _, i + 1, .cons h1 h2 h3 h4 t, kd, e => by
    simp only [List.getElem?_cons_succ] at e ⊢
    exact tkv_at t e
theorem dp_key {K : PySem.W.Frag} {G : Hp} (k : Key) : Dp K G (kV k) (keyD k) := by
  cases k with
  | inl i => exact .int i
  | inr x => exact .str x
theorem jok_dk {K : PySem.W.Frag} {G : Hp} {d : Addr} {o : Obj} {ks : List (Key × V)} {kvs : List (Dv × Dv)} (e : G d = some (.frz o (.dK ks))) (q : DKV K G ks kvs) : Jok K G (Itk d o ks) (kvs.map Prod.fst) := fun i G1 H1 s gh => by
  have l := dkv_length q
  have e1 : H1 d = some (.frz o (.dK ks)) := gh _ _ (s _ _ e)
  refine ⟨fun dd hd => ?_, fun hl => ⟨e1, by simp at hl; omega⟩⟩
  rw [List.getElem?_map] at hd
  obtain ⟨kd, hkd, rfl⟩ := Option.map_eq_some_iff.mp hd
  obtain ⟨k, v, h1, h2, h3⟩ := dkv_at q hkd
  refine ⟨⟨e1, (List.getElem?_eq_some_iff.mp h1).1⟩, fun x H2 ⟨e2, k', v', h4, e3⟩ => .inl ⟨e2, ?_⟩⟩
  rw [h1] at h4
  cases h4
  rw [e3, h2]
  exact dp_key k
theorem jok_dq {K : PySem.W.Frag} {G : Hp} {d : Addr} {o : Obj} {ks : List (NestedKey × Addr × V)} {kvs : List (Dv × Dv)} (e : G d = some (.frz o (tkO d ks))) (q : TKV K G ks kvs) : Jok K G (Itq d o ks) (kvs.map Prod.fst) := fun i G1 H1 s gh => by
  have l := tkv_len q
  have e1 : H1 d = some (.frz o (tkO d ks)) := gh _ _ (s _ _ e)
  refine ⟨fun dd hd => ?_, fun hl => ⟨e1, by simp at hl; omega⟩⟩
  rw [List.getElem?_map] at hd
  obtain ⟨kd, hkd, rfl⟩ := Option.map_eq_some_iff.mp hd
  obtain ⟨k, b, v, h1, h2, h3⟩ := tkv_at q hkd
  refine ⟨⟨e1, (List.getElem?_eq_some_iff.mp h1).1⟩, fun x H2 ⟨e2, k', b', v', h4, e3⟩ => .inl ⟨e2, ?_⟩⟩
  rw [h1] at h4
  cases h4
  rw [e3]
  exact dp_mono s _ _ h2
theorem di_fd (h : PE X e (TE' X.K ix f)) : PI X tg e (TI' X.K ix (iFd f)) :=
  pi_imp (pi_keysF h) fun σ H R ⟨Fr, FX, G, ρ, ds, ρ', R0, hf, k⟩ => by
    unfold iFd at hf
    obtain ⟨⟨r0, ρ0⟩, h0, hf⟩ := Option.bind_eq_some_iff.mp hf
    refine ⟨Fr, FX, G, ρ, r0, ρ0, R0, h0, fun v G1 H1 s1 R1 q => ?_⟩
    cases r0 with
    | ow o => cases hf
    | al i => cases hf
    | sh d => cases hf
    | fd o =>
      simp only at hf
      obtain ⟨es, he, hf⟩ := Option.bind_eq_some_iff.mp hf
      cases hf
      obtain ⟨a, rfl, c⟩ := q
      cases o with
      | lst xs => cases he
      | dct kvs =>
        cases he
        obtain ⟨od, ks, e1, q⟩ := c
        exact ⟨a, od, rfl, .inl ⟨ks, R1.gh _ _ e1, k _ G1 H1 s1 R1 (jok_dk e1 q)⟩⟩
      | dtn kvs =>
        cases he
        obtain ⟨od, ks, e1, q⟩ := c
        exact ⟨a, od, rfl, .inr ⟨ks, R1.gh _ _ e1, k _ G1 H1 s1 R1 (jok_dq e1 q)⟩⟩
end
end DL

set_option Elab.async false
set_option linter.all false
set_option autoImplicit false
set_option maxRecDepth 100000
set_option maxHeartbeats 1000000
namespace DL
open PySem PySem.Spec PyProof.Rows L2
/-! ### d.get(k, v), d any dict -/
def getA (ob : Ob) (k d0 : Dv) : Option Dv := match ob with
  | .dct kvs => if isKey k = true then some ((getD kvs k).getD d0) else none
  | .dtn kvs => if okT k = true then some ((getN kvs k).getD d0) else none
  | .lst _ => none
def obAt (ρ : Rho) : Rv → Option Ob
  | .al i => match ρ[i]? with
    | some (.ow ob) => some ob
    | _ => none
  | .fd ob => some ob
  | _ => none
def isDt : Ob → Bool
  | .lst _ => false
  | _ => true
def eDGetA (fo fk fd : M) : M := fun ρ => (fo ρ).bind fun x => (obAt x.2 x.1).bind fun ob0 => if isDt ob0 = true then (pkM fk x.2).bind fun y => (dat y.2 y.1).bind fun k => (frM fd y.2).bind fun z => (match z.1 with
  | .sh d0 => (obAt z.2 x.1).bind fun ob => (getA ob k d0).bind fun d => some (.sh d, z.2)
  | _ => none) else none
theorem obAt_cr {K : PySem.W.Frag} {ix : List Nat} {Fr G H : Hp} {FX : Nat → Option V} {ρ : Rho} {σ : L2.St} (R : RS K ix Fr FX G ρ σ H) {r : Rv} {v : V} {ob : Ob} (e : obAt ρ r = some ob) (q : VOk K Fr G H ρ σ r v) : ∃ a, v = .ref a ∧ CR K G H a ob := by
  cases r with
  | sh d => cases e
  | ow d => cases e
  | fd o =>
    cases e
    obtain ⟨a, rfl, c⟩ := q
    exact ⟨a, rfl, c.cr R.gh⟩
  | al i =>
    unfold obAt at e
    simp only at e
    split at e
    · rename_i o ho
      cases e
      obtain ⟨a, ev, _, _, c⟩ := R.sl i _ ho
      have e' : σ[i]? = some (some v) := q
      rw [ev] at e'
      cases e'
      exact ⟨a, rfl, c.cr⟩
    · cases e
def IsDA (H : Hp) (a : Addr) : Prop := IsD H a ∨ ∃ ps, Rd H a (tkO a ps)
theorem isDA_at {X : Cx} {pins : List (Addr × Obj)} {σ : L2.St} {H : Hp} {s : Shared} {a : Addr} (I : Inv X pins σ H s) (d : IsDA H a) :
    s.TypeIs (.ref a) "dict" ∧ (∀ b, Value.ref a = .ref b → ∃ ob, s.heap.get? b = some ob ∧ ob.dict = none) ∧ (a == sysModules) = false := by
  rcases d with d | ⟨ps, e⟩
  · exact isD_at I d
  · obtain ⟨⟨hd, xs, o, es, ep, p, e1, e2, e3, e4, e5⟩, _, _⟩ := Rd.ok e I.hok
    refine ⟨⟨o, e1, e2.1⟩, fun b q => ?_, hd⟩
    cases q
    exact ⟨o, e1, e2.2.1⟩
theorem cr_isDA {K : PySem.W.Frag} {G H : Hp} {a : Addr} {ob : Ob} (c : CR K G H a ob) (h : isDt ob = true) : IsDA H a := by
  cases ob with
  | lst xs => cases h
  | dct kvs => obtain ⟨ks, e, _⟩ := c; exact .inl (.inl ⟨ks, e⟩)
  | dtn kvs => obtain ⟨ks, e, _⟩ := c; exact .inr ⟨ks, e⟩
/-- what get gives -/
def RGetA (K : PySem.W.Frag) (a : Addr) (y z : V) (H : Hp) (Q : VK) : Prop := ∃ G ob k d0 d, (∀ a o, G a = some o → H a = some o) ∧ CR K G H a ob ∧ VD K G H k y ∧ Dp K G z d0 ∧ getA ob k d0 = some d ∧ ∀ v, Dp K G v d → Q v H
def tDGetA (K : PySem.W.Frag) (td ty tx : TE) : TE := fun σ H Q => td σ H fun x H1 => ∃ a, x = .ref a ∧ IsDA H1 a ∧ ty σ H1 fun y H2 => tx σ H2 fun z H3 => RGetA K a y z H3 Q
section
variable {X : Cx} {ix : List Nat} {o e f : Expr} {fo fk fd : M} {td ty tx : TE} {apos cpos : Pos}
theorem get2_ok {pins : List (Addr × Obj)} {σ : L2.St} {H : Hp} {s : Shared} {a : Addr} {y z : V} {u r : Value} {Q : VK} (hu : X.A.units + 10 < cLine) (I : Inv X pins σ H s) (ry : RelV y u) (rz : RelV z r) (h : RGetA X.K a y z H Q) :
    wpAny (model X.prog X.w) X.A (call (.builtin "dict.get") [.ref a, u, r]) (EP X pins σ Q) X.xe s := by
  obtain ⟨G, ob, k, d0, d, gh, c, vk, vz, hg, q⟩ := h
  unfold getA at hg
  split at hg
  · rename_i kvs
    split at hg
    · rename_i hk
      cases hg
      obtain ⟨ks, hv, qs⟩ := c
      obtain ⟨k', rfl⟩ := isKey_of hk
      rw [vd_key vk] at ry
      refine d_get2 (by omega) I (y := kV k') (.inl ⟨ks, k', hv, rfl, rfl⟩) ry rz fun w' s' I' rw' => ⟨_, H, I', rw', q _ ?_⟩
      rcases dkv_get (k := k') qs with ⟨d', v', h1, h2, h3⟩ | ⟨h1, h2⟩
      · rw [h1, h2]; exact h3
      · rw [h1, h2]; exact vz
    · cases hg
  · rename_i kvs
    split at hg
    · rename_i hk
      cases hg
      obtain ⟨ps, hv, qs⟩ := c
      obtain ⟨ds, n, rfl, hn, h8⟩ := okT_of hk
      obtain ⟨b, vs, rfl, _⟩ := vd_tup gh vk
      have pk : Dp X.K G (.ref b) (.tuple ds) := vk
      cases (show u = Value.ref b from ry)
      obtain ⟨xs, hp, hdk, hsys⟩ := tk_of I hv (qs.mono (sub_le gh))
      have hT : s.TypeIs (.ref a) "dict" := by
        obtain ⟨o, es, ep, e1, e2, _⟩ := id hdk
        exact ⟨o, e1, e2.1⟩
      refine call_meetsIn PySem.F.slot_dict_get hT PySem.F.entry_dict_get (PySem.F.args_dict_get_3 _ _ _) (meetsH_dict_get_default (nestedKind X.prog X.w) a b hsys r) ⟨show X.A.units + 1 + 8 < cLine by omega, n, xs, ⟨nestedIs_of I _ _ _ _ (dp_mono (sub_le gh) _ _ pk) rfl hn, h8⟩, hdk, ?_⟩
      rcases getN_at hn hp qs with ⟨a1, a2⟩ | ⟨b', u', v', d', a1, a2, a3, a4⟩
      · rw [a1]
        exact ⟨z, H, I.tok _, rz, q _ (by rw [a2]; exact vz)⟩
      · rw [a1]
        exact ⟨v', H, I.tok _, a2, q _ (by rw [a4]; exact a3)⟩
    · cases hg
  · cases hg
theorem pe_dgetA (hu : X.A.units + 10 < cLine) (ho : PE X o td) (he : PE X e ty) (hf : PE X f tx) (m : M2 X o "get" apos e f cpos) : PE X (.Call (.Attribute o "get" apos) [e, f] [] cpos) (tDGetA X.K td ty tx) := by
  refine ⟨fun pins s σ H Q I h => ?_⟩
  refine wpAny_Call_method m.base m.few m.line PySem.F.plainAttrs_dict PySem.F.slot_dict_get PySem.F.type_dict_get (thn (ho.run pins s σ H _ I h) fun u s1 ⟨x, H1, I1, rx, a, ex, d, q1⟩ => ?_)
  subst ex
  obtain rfl : u = Value.ref a := rx
  obtain ⟨t1, t2, _⟩ := isDA_at I1 d
  refine ⟨t1, t2, ?_⟩
  rw [m.trees]
  refine Calls.callWith_builtin rfl (Calls.evalArgs_plain (Calls.spliced_cons (thn (he.run pins s1 σ H1 _ I1 q1) fun iv s2 ⟨y, H2, I2, ry, q2⟩ =>
    Calls.spliced_cons (thn (hf.run pins s2 σ H2 _ I2 q2) fun fv s3 ⟨z, H3, I3, rz, q3⟩ => Calls.spliced_nil ?_))))
  exact get2_ok hu I3 ry rz q3
theorem de_dgetA (hu : X.A.units + 10 < cLine) (ho : PE X o (TE' X.K ix fo)) (he : PE X e (TE' X.K ix fk)) (hf : PE X f (TE' X.K ix fd)) (m : M2 X o "get" apos e f cpos) : PE X (.Call (.Attribute o "get" apos) [e, f] [] cpos) (TE' X.K ix (eDGetA fo fk fd)) :=
  pe_imp (pe_dgetA hu ho (de_pk he) (de_fr hf) m) fun σ H Q ⟨Fr, FX, G, ρ, r, ρ', R, h, k⟩ => by
    unfold eDGetA at h
    obtain ⟨⟨r0, ρ0⟩, h0, h⟩ := Option.bind_eq_some_iff.mp h
    obtain ⟨ob0, hob0, h⟩ := Option.bind_eq_some_iff.mp h
    split at h
    rotate_left
    · cases h
    rename_i hdt
    obtain ⟨⟨r1, ρ1⟩, h1, h⟩ := Option.bind_eq_some_iff.mp h
    obtain ⟨kd, h2, h⟩ := Option.bind_eq_some_iff.mp h
    obtain ⟨⟨r2, ρ2⟩, h3, h⟩ := Option.bind_eq_some_iff.mp h
    cases r2 with
    | ow o => cases h
    | al i => cases h
    | fd o => cases h
    | sh d0 =>
    obtain ⟨ob, hob, h⟩ := Option.bind_eq_some_iff.mp h
    obtain ⟨d, hd, h⟩ := Option.bind_eq_some_iff.mp h
    cases h
    refine ⟨Fr, FX, G, ρ, r0, ρ0, R, h0, fun x G1 H1 s1 R1 v1 => ?_⟩
    obtain ⟨a, rfl, c1⟩ := obAt_cr R1 hob0 v1
    refine ⟨a, rfl, cr_isDA c1 hdt, Fr, FX, G1, ρ0, r1, ρ1, R1, h1, fun y G2 H2 s2 R2 v2 => ?_⟩
    refine ⟨Fr, FX, G2, ρ1, .sh d0, ρ2, R2, h3, fun z G3 H3 s3 R3 v3 => ?_⟩
    have v1' : VOk X.K Fr G3 H3 ρ2 σ r0 (.ref a) := by
      cases r0 with
      | sh d => cases hob0
      | ow d => cases hob0
      | al i => exact v1
      | fd o => obtain ⟨b, e, c⟩ := v1; exact ⟨b, e, c.mono (s2.trans s3)⟩
    obtain ⟨a', e, c3⟩ := obAt_cr R3 hob v1'
    cases e
    have hkk : (isKey kd || okT kd) = true := by
      cases ob with
      | lst xs => cases hd
      | dct kvs =>
        unfold getA at hd
        simp only at hd
        split at hd
        · rename_i hk; rw [hk]; rfl
        · cases hd
      | dtn kvs =>
        unfold getA at hd
        simp only at hd
        split at hd
        · rename_i hk; rw [hk]; simp
        · cases hd
    exact ⟨G3, ob, kd, d0, d, R3.gh, c3, key_stay s3 hkk (dat_vd R2 v2 h2), v3, hd, fun v q => k v G3 H3 ((s1.trans s2).trans s3) R3 q⟩
end
/-! ### {k: v} with a tuple as key -/
def eDisp1 (fk fv : M) : M := fun ρ => (pkM fk ρ).bind fun x => match x.1 with
  | .sh k => if okT k = true then (frM fv x.2).bind fun y => (match y.1 with
    | .sh d => some (.ow (.dtn [(k, d)]), y.2)
    | _ => none) else none
  | _ => none
section
variable {X : Cx} {ix : List Nat} {ke ve : Expr} {fk fv : M} {pos : Pos}
theorem de_disp1 (hu : X.A.units + 10 < cLine) (hk : PE X ke (TE' X.K ix fk)) (hv : PE X ve (TE' X.K ix fv)) :
    PE X (.Dict [some ke] [ve] pos) (TE' X.K ix (eDisp1 fk fv)) := ⟨fun pins s σ H Q I ⟨Fr, FX, G, ρ, r, ρ', R, h, k⟩ => by
  unfold eDisp1 at h
  obtain ⟨⟨r1, ρ1⟩, h1, h⟩ := Option.bind_eq_some_iff.mp h
  cases r1 with
  | ow o => cases h
  | al i => cases h
  | fd o => cases h
  | sh kd =>
  simp only at h
  split at h
  rotate_left
  · cases h
  rename_i hok
  obtain ⟨⟨r2, ρ2⟩, h2, h⟩ := Option.bind_eq_some_iff.mp h
  cases r2 with
  | ow o => cases h
  | al i => cases h
  | fd o => cases h
  | sh d =>
  cases h
  obtain ⟨ds, n, rfl, hn, h8⟩ := okT_of hok
  have hp : H s.heap.objs.size = none := I.hok.fresh (Nat.le_refl s.heap.objs.size)
  have hsys : (s.heap.objs.size == sysModules) = false := by
    have := I.big
    exact beq_false_of_ne fun z => by rw [z] at this; exact Nat.lt_irrefl _ this
  have I1 : Inv X pins σ (upd H s.heap.objs.size (tkO s.heap.objs.size [])) { s with heap := s.heap.push { cls := .type "dict", data := .dict #[] }, toks := s.toks } :=
    I.laid (a := s.heap.objs.size) (t' := s.toks) (fun _ _ q => Heap.get?_push_of_some _ q) (Nat.le_refl _) (tk_new (xs := []) hsys .nil (Heap.DictOfH.new s.heap) (fun x hx => by cases hx))
  have g0 := (R.none_of hp).1
  have f0 := (R.none_of hp).2
  have R0 := (R.newH (o := tkO s.heap.objs.size []) hp).frame g0 upd_same (R.notIn hp)
  rw [arm_eval_Dict, zip_pairTrees [some ke] [ve] X.env pos rfl rfl, dictDisplay_pairs (pairTrees [some ke] [ve] X.env pos) (by simp [pairTrees]) (by simp [pairTrees])]
  refine wpAny_bind (wpAny_standAt (wpAny_bind (wpAny_subDictH (knd := nestedKind X.prog X.w) (Q := fun d s' => wpAny (model X.prog X.w) X.A (pure (Value.ref d)) (EP X pins σ Q) X.xe s') (show X.A.units + 8 < cLine by omega) (by simp [pairTrees]) ?_)))
  refine pairTrees_cons_walk (thn ((de_pk hk).run pins _ σ _ (fun x H1 => ∃ G1, Sub G G1 ∧ RS X.K ix (upd Fr s.heap.objs.size (tkO s.heap.objs.size [])) FX G1 ρ1 σ H1 ∧ Dp X.K G1 x (.tuple ds)) I1 ⟨_, FX, G, ρ, _, ρ1, R0, h1, fun v G1 H1 s1 R1 q => ⟨G1, s1, R1, q⟩⟩) fun u s1 ⟨x, H1, J1, rx, G1, sb1, R1, q1⟩ =>
    thn ((de_fr hv).run pins s1 σ H1 (fun y H2 => ∃ G2, Sub G1 G2 ∧ RS X.K ix (upd Fr s.heap.objs.size (tkO s.heap.objs.size [])) FX G2 ρ2 σ H2 ∧ Dp X.K G2 y d) J1 ⟨_, FX, G1, ρ1, _, ρ2, R1, h2, fun v G2 H2 s2 R2 q => ⟨G2, s2, R2, q⟩⟩) fun w s2 ⟨y, H2, J2, ry, G2, sb2, R2, q2⟩ => pairTrees_nil_walk ?_)
  have q1' : Dp X.K G2 x (.tuple ds) := dp_mono sb2 _ _ q1
  obtain ⟨b, vs, rfl, _⟩ := vd_tup R2.gh (dp_vd R2.gh q1')
  cases (show u = Value.ref b from rx)
  have hH2 : H2 s.heap.objs.size = some (tkO s.heap.objs.size []) := R2.fh _ _ upd_same
  have gp : G2 s.heap.objs.size = none := R2.gf _ (by rw [upd_same]; simp)
  obtain ⟨xs, pr, hdk, _⟩ := tk_of J2 (.inl hH2) .nil
  cases pr
  have hkey : (nestedKind X.prog X.w).is s2.heap n b := ⟨nestedIs_of J2 _ _ _ _ (dp_mono R2.sub _ _ q1') rfl hn, h8⟩
  refine ⟨[(n, b, w)], ⟨rfl, rfl, hkey, trivial⟩, hdk, fun h' tk hm hs => ?_⟩
  have hm' : h'.DictOfH (nestedKind X.prog X.w) s.heap.objs.size [(n, b, w)] := hm
  have nD : ∀ (i : Nat) (o' : Ob), ρ2[i]? = some (.ow o') → σ[i]? ≠ some (some (.ref s.heap.objs.size)) := fun i o' z1 z2 => by
    obtain ⟨a, ea, _, fa, _⟩ := R2.sl i _ z1
    rw [z2] at ea
    cases ea
    rw [upd_same] at fa
    cases fa
  have Rz := (R2.unframe f0).out (u := tkO s.heap.objs.size [(n, b, y)]) gp f0 nD
  have he : ∃ q, h'.get? s.heap.objs.size = some q := let ⟨q, _, _, hq, _⟩ := hm'; ⟨q, hq⟩
  refine wpAny_pure ⟨.ref s.heap.objs.size, _, d_write J2 (by rw [hH2]; exact True.intro) hs he (tk_new hsys (.cons ry .nil) hm' ?_), rfl, k _ G2 _ (sb1.trans sb2) Rz ⟨_, rfl, gp, f0, ⟨[(n, b, y)], upd_same, .cons hn h8 q1' q2 .nil⟩, nD⟩⟩
  intro x hx w'
  rcases List.mem_cons.mp hx with rfl | hx
  · exact hash_same X.w w' _ _ hn
  · cases hx⟩
end
end DL

set_option Elab.async false
set_option linter.all false
set_option autoImplicit false
set_option maxRecDepth 100000
set_option maxHeartbeats 1000000
namespace DL
open PySem PySem.Spec PyProof.Rows L2
/-! ### sorted of what is not a list -/
section
variable {X : Cx} {pins : List (Addr × Obj)} {σ : L2.St} {H G : Hp} {s : Shared} {Q : VK}
theorem ok_there {P : Program} {w : World} {H : Hp} {h : Heap} {a : Addr} : ∀ {o : HO}, ObjOk P w H h a o → ∃ u, h.get? a = some u
  | .lst _, ⟨_, _, _, _, e⟩ => ⟨_, e⟩
  | .tup _, ⟨_, _, _, ⟨u, e, _⟩⟩ => ⟨u, e⟩
  | .dK _, ⟨_, _, _, _, u, _, _, e, _⟩ => ⟨u, e⟩
  | .dT _, ⟨_, _, _, _, u, _, _, e, _⟩ => ⟨u, e⟩
  | .set _ _, ⟨u, _, _, _, e, _⟩ => ⟨u, e⟩
  | .ins _ _ _, ⟨_, _, _, e, _⟩ => ⟨_, e⟩
  | .own _, ⟨u, e⟩ => ⟨u, e⟩
  | .xd _, ⟨_, ⟨u, _, _, e, _⟩, _⟩ => ⟨u, e⟩
  | .rng _ _, ⟨_, _, _, e⟩ => ⟨_, e⟩
  | .frz _ _, ⟨e, _⟩ => ⟨_, e⟩
  | .tbl _, e => ⟨_, e⟩
  | .met _ _, e => ⟨_, e⟩
  | .ext _, ⟨_, ⟨u, e⟩, _⟩ => ⟨u, e⟩
theorem sorted_col {x : Value} (hu : X.A.units + 200 < cLine) (I : Inv X pins σ H s) (gh : ∀ a o, G a = some o → H a = some o)
    (hc : wpAny (model X.prog X.w) X.A.in1 (collect x) (fun vs s1 => (∀ b o, s.heap.get? b = some o → s1.heap.get? b = some o) ∧ s1.gens = s.gens ∧ s1.os = s.os ∧
      ∃ ws bs, DpAll X.K G ws bs ∧ Vals ws vs ∧ okSo bs = true ∧ Res X.K G H Q (.ow (.lst (sortD bs)))) X.xe s) :
    wpAny (model X.prog X.w) X.A (call (.builtin "sorted") [x]) (EP X pins σ Q) X.xe s := by
  refine Calls.call_function_entry kind_sorted plain_sorted entry_sorted (args_sorted1 _) ?_
  unfold Builtin.«sorted»
  refine wpAny_bind (m := checkCount "sorted" 1 1 _) (wpAny_pure ?_)
  refine wpAny_bind (wpAny_mono hc (fun vs s1 ⟨k1, g1, o1, ws, bs, dp, rv, hok, res⟩ => ?_) fun _ _ e => e)
  obtain ⟨q1, q2, q3, q4⟩ := okSo_all hok
  have hwl : ws.length = bs.length := dpAll_length dp
  have hvl : vs.length = bs.length := by rw [← rv.length, hwl]
  refine wpAny_bind (wpAny_newList ?_ (by rw [hvl]; exact q4))
  have hoL : (s1.heap.push (seqObj "list" vs.toArray 0)).get? s1.heap.objs.size = some (seqObj "list" vs.toArray 0) := Heap.get?_push_size _ rfl
  obtain ⟨e1, e2⟩ := each_of I (sub_le gh) dp rv
  have old : ∀ b o, s.heap.get? b = some o → (PySem.W.sortingHeap (s1.heap.push (seqObj "list" vs.toArray 0)) s1.heap.objs.size vs).get? b = some o := fun b o e => by
    have h1 := k1 b o e
    have hlt := Heap.lt_size h1
    exact PySem.W.sortingHeap_old (Nat.ne_of_lt hlt) (Heap.get?_push_of_some _ h1)
  have er : PySem.W.EachIs (fun v b => ∃ as, Reads (PySem.W.sortingHeap (s1.heap.push (seqObj "list" vs.toArray 0)) s1.heap.objs.size vs) v b as) vs bs := e2.mono fun _ _ ⟨as, r⟩ => ⟨as, PyProof.Rows.Reads.keeps old r⟩
  have S := fun (A : Around) (hA : A.units + 100 < cLine) => PySem.W.SortsAt.data (prog := X.prog) (w := X.w) (A := A) (s := { s1 with heap := PySem.W.sortingHeap (s1.heap.push (seqObj "list" vs.toArray 0)) s1.heap.objs.size vs }) er q2 q1 (fun d hd => by have := q3 d hd; omega)
  have eo : PySem.W.EachIs (fun u d => ∃ v, RelV v u ∧ Dp X.K G v d) (PySem.W.sortVals (PySem.W.dataKind (PySem.W.sortingHeap (s1.heap.push (seqObj "list" vs.toArray 0)) s1.heap.objs.size vs) bs) false vs vs) (bs.mergeSort (PySem.W.dataLe false fun d : Dv => d)) := by
    have z := PySem.W.sortVals_data (enc := fun d : Dv => d) false e1 er (by rw [List.map_id']; exact q2)
    rw [List.map_id'] at z
    exact z
  refine wpAny_bind (wpAny_holding (wpAny_call_entry slot_list_sort ⟨_, hoL, rfl⟩ entry_list_sort (PySem.W.list_sort_vals (κ := PySem.W.dataKind (PySem.W.sortingHeap (s1.heap.push (seqObj "list" vs.toArray 0)) s1.heap.objs.size vs) bs) hoL (S _ (by show X.A.units + 1 + 1 + 100 < cLine; omega)) (by rw [hvl]; exact q4) ⟨_, rfl, ?_⟩) (args_list_sort _)))
  obtain ⟨ws', rw', dw⟩ := of_each eo
  obtain ⟨c, hc'⟩ := PyProof.Rows.sortedHeap_at (vs := vs) (out := (PySem.W.sortVals (PySem.W.dataKind (PySem.W.sortingHeap (s1.heap.push (seqObj "list" vs.toArray 0)) s1.heap.objs.size vs) bs) false vs vs).toArray) hoL
  have hsn : s.heap.get? s1.heap.objs.size = none := by
    cases e : s.heap.get? s1.heap.objs.size with
    | none => rfl
    | some u => exact absurd (Heap.lt_size (k1 _ u e)) (Nat.lt_irrefl _)
  have hn : H s1.heap.objs.size = none := by
    cases e : H s1.heap.objs.size with
    | none => rfl
    | some u =>
      obtain ⟨o, ho⟩ := ok_there (I.hok _ u e)
      rw [hsn] at ho
      cases ho
  have hlen : ws'.length ≤ sizeLine := by
    rw [dpAll_length dw, List.length_mergeSort]
    exact q4
  have keep : ∀ b o, s.heap.get? b = some o → (PyProof.Rows.sortedHeap (s1.heap.push (seqObj "list" vs.toArray 0)) s1.heap.objs.size vs (PySem.W.sortVals (PySem.W.dataKind (PySem.W.sortingHeap (s1.heap.push (seqObj "list" vs.toArray 0)) s1.heap.objs.size vs) bs) false vs vs).toArray).get? b = some o := fun b u e => by
    have q := k1 b u e
    have hlt := Heap.lt_size q
    rw [PyProof.Rows.sortedHeap_old (Nat.ne_of_lt hlt) (by rw [size_push']; exact Nat.lt_succ_of_lt hlt)]
    exact Heap.get?_push_of_some _ q
  refine wpAny_pure ⟨_, rfl, ?_⟩
  refine ⟨.ref s1.heap.objs.size, upd H s1.heap.objs.size (.lst ws'), I.call' (ch := []) o1 (Un.laidN keep hsn hn) (I.hok.laidN keep hn (o := .lst ws') ⟨hlen, _, c, rw', hc'⟩) ?_ (fun _ z => nomatch z), rfl, res_lst res hn dw⟩
  show AllBare s1.gens
  rw [g1]
  exact I.bare
/-- sorted of a dict: its keys -/
def sortA (ds : List Dv) : Option Rz := match ds with
  | [.dict kvs] => if plD kvs = true then (if okSo (kvs.map Prod.fst) = true then some (.ow (.lst (sortD (kvs.map Prod.fst)))) else none) else (if okSo (kvs.tail.map Prod.fst) = true then some (.ow (.lst (sortD (kvs.tail.map Prod.fst)))) else none)
  | _ => sortG ds
theorem collect_dict {d : Addr} {es : Array DictEntry} {ep : Nat} {R : List Value → Shared → Prop} {E : Value → Shared → Prop} {A : Around} (hh : A.handled = none) (lo : (d == sysModules) = false) (hr : s.heap.DictRaw d es ep) (hn : es.size ≤ sizeLine)
    (h : ∀ (h' : Heap) (tk : Nat), (∀ b o, s.heap.get? b = some o → h'.get? b = some o) → R (es.toList.map (·.key)) { s with heap := h', toks := tk }) : wpAny (model X.prog X.w) A (collect (.ref d)) R E s :=
  PySem.W.kdu_collect (KdlSrc.rawDict lo) hh hr hn fun h' tk acc k it => by
    have : acc.toList = es.toList.map (·.key) := by
      refine List.ext_getElem (by rw [Array.length_toList, it.1, List.length_map, Array.length_toList]) fun i h1 h2 => ?_
      have hi : i < acc.size := by rw [Array.length_toList] at h1; exact h1
      obtain ⟨hj, e⟩ := it.2 i _ (Array.getElem?_eq_getElem hi)
      rw [Array.getElem_toList, e]
      simp
    rw [this]
    exact h h' tk k
theorem vals_of {ws : List V} {us : List Value} (hl : ws.length = us.length) (h : ∀ (i : Nat) (w : V) (u : Value), ws[i]? = some w → us[i]? = some u → RelV w u) : Vals ws us := by
  induction ws generalizing us with
  | nil =>
    cases us with
    | nil => exact .nil
    | cons u us => cases hl
  | cons w ws ih =>
    cases us with
    | nil => cases hl
    | cons u us => exact .cons (h 0 w u rfl rfl) (ih (by simpa using hl) fun i w' u' e1 e2 => h (i + 1) w' u' (by simpa using e1) (by simpa using e2))
theorem dpAll_of {K : PySem.W.Frag} {G : Hp} {ws : List V} {ds : List Dv} (hl : ws.length = ds.length) (h : ∀ (i : Nat) (w : V) (d : Dv), ws[i]? = some w → ds[i]? = some d → Dp K G w d) : DpAll K G ws ds := by
  induction ws generalizing ds with
  | nil =>
    cases ds with
    | nil => exact .nil
    | cons u us => cases hl
  | cons w ws ih =>
    cases ds with
    | nil => cases hl
    | cons u us => exact .cons (h 0 w u rfl rfl) (ih (by simpa using hl) fun i w' u' e1 e2 => h (i + 1) w' u' (by simpa using e1) (by simpa using e2))
theorem sortA_d (hu : X.A.units + 200 < cLine) (hcalm : X.calm = true) : CallD X (.builtin "sorted") sortA := by
  intro pins s σ H xs us Q I r h
  obtain ⟨G, ds, z, gh, vd, hz, q⟩ := h
  unfold sortA at hz
  split at hz
  rotate_left
  · exact sorted_d hu pins s σ H xs us Q I r ⟨G, ds, z, gh, vd, hz, q⟩
  rename_i kvs
  obtain ⟨v, rfl, hv⟩ := vds1 vd
  split at hz
  · rename_i hpl
    split at hz
    rotate_left
    · cases hz
    rename_i hok
    cases hz
    obtain ⟨a, ks, rfl, h1, h2⟩ := vd_dk hv hpl
    rw [Vals.ref1 r]
    obtain ⟨z, hd, vs, rel, dd⟩ := dk_rd I.hok h1
    obtain ⟨es, ep, hraw, hsz, hent⟩ := dd.raw
    have l1 := dkv_length h2
    have l2 : ks.length = vs.length := Paired.length rel
    refine sorted_col hu I gh (collect_dict (I.ok.hd hcalm) hd hraw (by omega) fun h' tk k => ⟨k, rfl, rfl, ks.map (fun kv => kV kv.1), _, ?_, ?_, hok, q⟩)
    · refine dpAll_of (by simp [l1]) fun i w d e1 e2 => ?_
      rw [List.getElem?_map] at e1 e2
      obtain ⟨kv, e3, rfl⟩ := Option.map_eq_some_iff.mp e1
      obtain ⟨kd, e4, rfl⟩ := Option.map_eq_some_iff.mp e2
      obtain ⟨k', v', e5, e6, _⟩ := dkv_at h2 e4
      rw [e3] at e5
      cases e5
      rw [e6]
      exact dp_key _
    · refine vals_of (by simp; omega) fun i w u e1 e2 => ?_
      rw [List.getElem?_map] at e1 e2
      obtain ⟨kv, e3, rfl⟩ := Option.map_eq_some_iff.mp e1
      obtain ⟨en, e4, rfl⟩ := Option.map_eq_some_iff.mp e2
      obtain ⟨u', e5, _⟩ := kv_get rel (k := kv.1) (v := kv.2) e3
      have hi : i < es.size := by
        have := (List.getElem?_eq_some_iff.mp e4).1
        simpa using this
      have := (hent i hi _ _ e5).1
      rw [Array.getElem?_toList, Array.getElem?_eq_getElem hi] at e4
      cases e4
      exact relV_key this
  · rename_i hpl
    split at hz
    rotate_left
    · cases hz
    rename_i hok
    cases hz
    obtain ⟨a, ps, rfl, h1, h2⟩ := vd_dn hv (by simpa using hpl)
    rw [Vals.ref1 r]
    obtain ⟨xs, pr, hdk, hsys⟩ := tk_of I h1 (h2.mono (sub_le gh))
    obtain ⟨es, ep, hraw, hsz, hent⟩ := hdk.raw
    have l1 := tkv_len h2
    have l2 := pr_len pr
    have hq4 := (okSo_all hok).2.2.2
    rw [List.length_map] at hq4
    refine sorted_col hu I gh (collect_dict (I.ok.hd hcalm) hsys hraw (by omega) fun h' tk k => ⟨k, rfl, rfl, ps.map (fun kv => V.ref kv.2.1), _, ?_, ?_, hok, q⟩)
    · refine dpAll_of (by simp [l1]) fun i w d e1 e2 => ?_
      rw [List.getElem?_map] at e1 e2
      obtain ⟨kv, e3, rfl⟩ := Option.map_eq_some_iff.mp e1
      obtain ⟨kd, e4, rfl⟩ := Option.map_eq_some_iff.mp e2
      obtain ⟨k', b', v', e5, e6, _⟩ := tkv_at h2 e4
      rw [e3] at e5
      cases e5
      exact e6
    · refine vals_of (by simp; omega) fun i w u e1 e2 => ?_
      rw [List.getElem?_map] at e1 e2
      obtain ⟨⟨k1, b1, v1⟩, e3, rfl⟩ := Option.map_eq_some_iff.mp e1
      obtain ⟨en, e4, rfl⟩ := Option.map_eq_some_iff.mp e2
      have hi : i < es.size := by
        have := (List.getElem?_eq_some_iff.mp e4).1
        simpa using this
      obtain ⟨y, e5, e6, _⟩ := hent i hi
      obtain ⟨u', e7⟩ := pr_get pr e3
      rw [e7] at e5
      cases e5
      rw [Array.getElem?_toList, Array.getElem?_eq_getElem hi] at e4
      cases e4
      exact e6
end
end DL

set_option Elab.async false
set_option linter.all false
set_option autoImplicit false
set_option maxRecDepth 100000
set_option maxHeartbeats 1000000
namespace DL
open PySem PySem.Spec PyProof.Rows L2
/-! ### the members of a list, each once, in order -/
section
variable {α : Type} {e : α → Dv}
def nubE (e : α → Dv) [EqE e] : List α → List α
  | [] => []
  | x :: xs => x :: (nubE e xs).filter fun y => !eqE e y x
theorem nub_mem [EqE e] {x : α} : ∀ {xs : List α}, x ∈ nubE e xs ↔ x ∈ xs
  | [] => Iff.rfl
  | y :: xs => by
    unfold nubE
    rw [List.mem_cons, List.mem_cons, List.mem_filter, nub_mem (xs := xs)]
    by_cases h : x = y
    · simp [h]
    · have : eqE e x y = false := eqE_ne.mpr h
      simp [h, this]
theorem nub_nodup [EqE e] : ∀ xs : List α, (nubE e xs).Nodup
  | [] => List.nodup_nil
  | x :: xs => by
    unfold nubE
    refine List.nodup_cons.mpr ⟨fun h => ?_, (nub_nodup xs).filter _⟩
    have := (List.mem_filter.mp h).2
    rw [eqE_self] at this
    cases this
theorem nub_len [EqE e] : ∀ xs : List α, (nubE e xs).length ≤ xs.length
  | [] => Nat.le_refl _
  | x :: xs => by
    unfold nubE
    have h1 := nub_len xs
    have h2 := List.length_filter_le (fun y => !eqE e y x) (nubE e xs)
    rw [List.length_cons, List.length_cons]
    omega
theorem isort_one [OrdE e] {xs ys : List α} (hx : xs.Nodup) (hy : ys.Nodup) (h : ∀ x, x ∈ xs ↔ x ∈ ys) : isort (OrdE.lt e) xs = isort (OrdE.lt e) ys := by
  have p : List.Perm xs ys := (List.perm_ext_iff_of_nodup hx hy).mpr h
  refine (((isort_perm _ xs).trans p).trans (isort_perm _ ys).symm).eq_of_pairwise (fun a b _ _ h1 h2 => OrdE.tot a b h2 h1) (isort_sorted (e := e) xs) (isort_sorted (e := e) ys)
theorem sortD_one [OrdE e] {xs ys : List α} (hx : xs.Nodup) (h : ∀ x, x ∈ xs ↔ x ∈ ys) : sortD (xs.map e) = (isort (OrdE.lt e) (nubE e ys)).map e := by
  rw [sortD_e, isort_one hx (nub_nodup (e := e) ys) fun x => (h x).trans nub_mem.symm]
end
/-! ### set(xs) of a list of ints, with its order -/
/-- the empty set that set.__new__ lays -/
def set0 (w : World) : Obj := { cls := .type "set", dict := none, data := .set #[] 0 (.fresh 0 0 (!w.params.followText "set-order")) }
section
variable {P : Program} {w : World} {A : Around} {E : Value → Shared → Prop} {s : Shared}
theorem want_on {M : Model} {B : Around} {c : Code} {Q1 E1 : Value → Shared → Prop} {R : Result → Shared → Prop} (h : codeAny M B c (wants Q1 E1) s) (k : ∀ v t, Q1 v t → R (.ok (.ret v)) t) (ke : ∀ e t, E1 e t → R (.error e) t) : codeAny M B c R s :=
  codeAny_mono h fun r t hr => by
    rcases r with e | f
    · exact ke e t hr
    · cases f <;> first | exact k _ t hr | exact absurd hr id
/-- what set.__init__ does with a list of ints -/
def SetsUp (s : Shared) (w : World) (ns : List Int) (s' : Shared) : Prop := ∃ (h' : Heap) (tk c : Nat), s' = { s with heap := h', toks := tk } ∧ SetR w h' s.heap.objs.size (fun j => decide (j ∈ ns)) c ∧ c ≤ ns.length ∧ ∀ b o, s.heap.get? b = some o → h'.get? b = some o
set_option maxHeartbeats 3200000 in
theorem set_filled {l : Addr} {items : Array Value} {ns : List Int} (hh : A.handled = none) (hl : s.heap.IsList l items) (hit : IntsAre items.toList ns) (hb : ns.length + 1 < scanBound) :
    codeAny (model P w) A (.call (.builtin "set.__init__") ⟨[.ref s.heap.objs.size, .ref l], []⟩) (wants (fun v t => v = .none ∧ SetsUp s w ns t) E) { s with heap := s.heap.push (set0 w) } := by
  have fresh : (s.heap.push (set0 w)).get? s.heap.objs.size = some (set0 w) := Heap.get?_push_size _ rfl
  have al := hl.push (set0 w)
  have ls : l < s.heap.objs.size := by
    obtain ⟨_, e, _⟩ := hl
    exact Heap.lt_size e
  have sz : (s.heap.push (set0 w)).objs.size = s.heap.objs.size + 1 := Heap.size_push ..
  refine codeAny_call_builtin F.called_set.init.plain F.entry_set_init (check_set_init_1 ⟨_, fresh, rfl⟩ ?_)
  obtain ⟨⟨cl, dc, dt, sl⟩, ol, e1, k, e2⟩ := id al
  cases e1
  cases e2
  have n1 := F.sub_list_set
  have n2 := F.sub_list_frozenset
  have n3 : (Value.type "list" == Value.type "dict") = false := by decide
  unfold Builtin.«set.__init__» noKeywords Builtin.Frozenset.updateFrom
  unfold set0 at *
  generalize hp : pyIter = pi
  wp_walk
  subst hp
  have d1 : l ≠ (s.heap.push { cls := Value.type "set", data := Data.set #[] 0 (SetTable.fresh 0 0 !w.params.followText "set-order") }).objs.size := fun e => absurd (e.trans sz) (Nat.ne_of_lt (Nat.lt_succ_of_lt ls))
  have d2 : s.heap.objs.size ∉ [(s.heap.push { cls := Value.type "set", data := Data.set #[] 0 (SetTable.fresh 0 0 !w.params.followText "set-order") }).objs.size, l] := by
    rw [sz]
    exact fun m => (List.mem_cons.mp m).elim (Nat.ne_of_lt (Nat.lt_succ_self _)) fun m => Nat.ne_of_gt ls (List.mem_singleton.mp m)
  have cnt : items.size = ns.length := Array.length_toList.symm.trans (IntsAre.length hit)
  refine wpAny_pyIter_list al (wpAny_bind (wpAny_runValue (set_update_ints (Walks.list (A := A.in1.in1) (by simp [hh]) _ l d1 items).toS s.heap.objs.size d2 ns cnt hb (fun i v hv => ?_) _ 0 _ rfl (Nat.zero_le _)
    ⟨⟨_, Heap.get?_push_size _ rfl, rfl, rfl⟩, al.push _⟩ ⟨0, Nat.le_refl _, setR_new_at (Heap.get?_push_of_some _ fresh)⟩ fun t c mv hc R => ?_)))
  · have hi : i < ns.length := cnt ▸ (Array.getElem?_eq_some_iff.mp hv).1
    obtain ⟨tk, e⟩ := IntsAre.int_at hit i v (by rw [Array.getElem?_toList, hv])
    exact ⟨ns[i], tk, List.getElem?_eq_getElem hi, by rw [e, List.getD_eq_getElem?_getD, List.getElem?_eq_getElem hi]; rfl⟩
  · refine wpAny_pure (wpAny_pure ⟨rfl, t.heap, t.toks, c, ?_, R, cnt ▸ hc, fun b o e => ?_⟩)
    · have g1 := mv.gens
      have g2 := mv.drawn
      have g3 := mv.os
      obtain ⟨h1, g, d, tk, os⟩ := t
      cases g1
      cases g2
      cases g3
      rfl
    · have lt := Heap.lt_size e
      refine mv.heap b o (fun m => (List.mem_cons.mp m).elim (Nat.ne_of_lt lt) fun m => Nat.ne_of_lt (Nat.lt_succ_of_lt lt) ((List.mem_singleton.mp m).trans sz)) (Heap.get?_push_of_some _ (Heap.get?_push_of_some _ e))
set_option maxHeartbeats 3200000 in
theorem set_of_ints {l : Addr} {items : Array Value} (ns : List Int) {Q : Value → Shared → Prop} (hh : A.handled = none) (hl : s.heap.IsList l items) (hit : IntsAre items.toList ns) (hb : ns.length + 1 < scanBound)
    (h : ∀ (h' : Heap) (tk c : Nat), SetR w h' s.heap.objs.size (fun j => decide (j ∈ ns)) c → c ≤ ns.length → (∀ b o, s.heap.get? b = some o → h'.get? b = some o) → Q (.ref s.heap.objs.size) { s with heap := h', toks := tk }) :
    wpAny (model P w) A (call (.type "set") [.ref l]) Q E s := by
  obtain ⟨m0, m1, mro⟩ := F.called_set.mro
  have made := F.called_set.made
  have sub := F.called_set.sub
  have nt := F.called_set.notType
  have cc := F.called_set.canCreate
  have tc := F.typeCall_set_1 (.ref l)
  have il := F.called_set.init.lookup
  have ib := F.called_set.init.bind (.ref s.heap.objs.size)
  refine wpAny_call (codeAny_of_tree (wpAny_pure ⟨Code.quiet_builtin _ (by decide +kernel), codeAny_builtin F.entry_type_call ?_⟩))
  rw [Around.under_plain (weight_type_call_type "set" [.ref l] []) rfl]
  wp_walk
  refine want_on (code_set_led1 (.ref l) (E := E) (Q₁ := fun v t => v = .ref s.heap.objs.size ∧ t = { s with heap := s.heap.push (set0 w) }) ⟨rfl, rfl⟩) (fun v t hv => ?_) fun _ _ he => he
  obtain ⟨rfl, rfl⟩ := hv
  have ht : Shared.TypeIs { s with heap := s.heap.push (set0 w) } (.ref s.heap.objs.size) "set" := ⟨_, Heap.get?_push_size _ rfl, rfl⟩
  wp_walk
  refine want_on (set_filled hh hl hit hb) (fun v t hv => ?_) fun _ _ he => he
  obtain ⟨rfl, h', tk, c, rfl, R, hc, k⟩ := hv
  wp_walk
  exact h h' tk c R hc k
end
/-! ### sorted(set(xs)) -/
def asI : List Dv → Option (List Int)
  | [] => some []
  | .int i :: ds => (asI ds).map (i :: ·)
  | _ => none
def asT : List Dv → Option (List (List Int))
  | [] => some []
  | .tuple es :: ds => (asI es).bind fun t => (asT ds).map (t :: ·)
  | _ => none
theorem asI_e : ∀ {ds : List Dv} {ns : List Int}, asI ds = some ns → ds = ns.map eI
  | [], ns, h => by cases h; rfl
  | .int i :: ds, ns, h => by
    obtain ⟨ms, h1, rfl⟩ := Option.map_eq_some_iff.mp h
    rw [asI_e h1]
    rfl
  | .none :: _, _, h => by cases h
  | .bool _ :: _, _, h => by cases h
  | .str _ :: _, _, h => by cases h
  | .list _ :: _, _, h => by cases h
  | .tuple _ :: _, _, h => by cases h
  | .dict _ :: _, _, h => by cases h
theorem asT_e : ∀ {ds : List Dv} {ns : List (List Int)}, asT ds = some ns → ds = ns.map (eT eI)
  | [], ns, h => by cases h; rfl
  | .tuple es :: ds, ns, h => by
    obtain ⟨t, h1, h⟩ := Option.bind_eq_some_iff.mp h
    obtain ⟨ms, h2, rfl⟩ := Option.map_eq_some_iff.mp h
    rw [asT_e h2, asI_e h1]
    rfl
  | .none :: _, _, h => by cases h
  | .bool _ :: _, _, h => by cases h
  | .str _ :: _, _, h => by cases h
  | .list _ :: _, _, h => by cases h
  | .int _ :: _, _, h => by cases h
  | .dict _ :: _, _, h => by cases h
def ssI (ds : List Dv) : Option Rz := (asI ds).bind fun ns => if ns.length ≤ 1000 then some (.ow (.lst ((isort (OrdE.lt eI) (nubE eI ns)).map eI))) else none
def ssT (ds : List Dv) : Option Rz := (asT ds).bind fun ns => if ns.length < 64 ∧ ns.all (OrdE.ok (eT eI)) = true then some (.ow (.lst ((isort (OrdE.lt (eT eI)) (nubE (eT eI) ns)).map (eT eI)))) else none
def ssD : Dv → Option Rz
  | .list ds => if (asI ds).isSome = true then ssI ds else ssT ds
  | .tuple ds => ssI ds
  | _ => none
def eSset (f : M) : M := fun ρ => (frM f ρ).bind fun x => match x.1 with
  | .sh d => (ssD d).bind fun r => some (r.rv, x.2)
  | _ => none
section
variable {X : Cx} {pins : List (Addr × Obj)} {σ : L2.St} {H G : Hp} {s : Shared} {Q : VK}
/-- sorted of a set of ints -/
def rSortS (X : Cx) : List V → Hp → VK → Prop := fun vs H Q => ∃ a S n G, vs = [V.ref a] ∧ H a = some (SetO X.w a S n) ∧ (∀ a o, G a = some o → H a = some o) ∧ n ≤ 1000 ∧
  ∀ ms : List Int, ms.Nodup → (∀ k, k ∈ ms ↔ S k = true) → Res X.K G H Q (.ow (.lst (sortD (ms.map eI))))
theorem cr_sortS (hu : X.A.units + 200 < cLine) (hc : X.calm = true) : CallR X (.builtin "sorted") (rSortS X) := by
  intro pins s σ H vs us Q I r h
  obtain ⟨a, S, n, G, rfl, ha, gh, hn, q⟩ := h
  rw [Vals.ref1 r]
  obtain ⟨o, es, ep, t, ho, hex, hd, g, nd, hm, hb, hf, hnn, hr, hl⟩ := setO_get I ha
  refine sorted_col hu I gh (collect_set (A := X.A.in1) (I.ok.hd hc) ⟨o, ho, hex.1, hd⟩ hf hb hr hl fun s1 out k1 hz g1 o1 pm => ?_)
  have hi : ∀ v ∈ out, ∃ k tk, v = Value.int k tk := fun v hv => by
    obtain ⟨e, he, q⟩ := List.mem_map.mp (pm.mem_iff.mp hv)
    obtain ⟨k, tk, h1, _⟩ := g e he
    exact ⟨k, tk, by rw [← q]; exact h1⟩
  have pk : (out.map L2.vInt).Perm (es.toList.map keyOf) := by
    have z := pm.map L2.vInt
    rw [List.map_map] at z
    have e2 : (L2.vInt ∘ fun (x : Int × Value) => x.2) = keyOf := funext fun e => (key_vInt e).symm
    rwa [e2] at z
  have hl' : (out.map L2.vInt).length ≤ 1000 := by rw [pk.length_eq, List.length_map, Array.length_toList, hnn]; exact hn
  refine ⟨k1, g1, o1, (out.map L2.vInt).map V.int, (out.map L2.vInt).map eI, dpAll_ints _, ?_, ?_, q _ (pk.nodup_iff.mpr nd) fun k => by rw [pk.mem_iff, hm k]⟩
  · refine vals_of (by simp) fun i w u e1 e2 => ?_
    rw [List.getElem?_map, List.getElem?_map, e2] at e1
    obtain ⟨k, tk, rfl⟩ := hi u (List.mem_of_getElem? e2)
    cases e1
    exact ⟨tk, rfl⟩
  · exact okSo_e _ (by decide) (List.all_eq_true.mpr fun _ _ => rfl) (Nat.le_trans hl' (Nat.le_trans (by decide) szl_6))
/-- sorted of a set of tuples of ints -/
def rSortST (X : Cx) : List V → Hp → VK → Prop := fun vs H Q => ∃ (a : Addr) (L : List (Addr × List Int)) (G : Hp), vs = [V.ref a] ∧ H a = some (SetTO X.prog X.w a L) ∧ (∀ a o, G a = some o → H a = some o) ∧ (∀ p ∈ L, Dp X.K G (.ref p.1) (eT eI p.2)) ∧ (∀ p ∈ L, OrdE.ok (eT eI) p.2 = true) ∧
  ∀ ms : List (List Int), ms.Nodup → (∀ k, k ∈ ms ↔ k ∈ L.map (·.2)) → Res X.K G H Q (.ow (.lst (sortD (ms.map (eT eI)))))
theorem dp_tupI {K : PySem.W.Frag} {G : Hp} {b : Addr} {k : List Int} (h : Dp K G (.ref b) (eT eI k)) : SqT K G b (k.map V.int) := by
  cases h with
  | tup hs ha =>
    have := ints_of_dpAll ha
    rw [this] at hs
    exact hs
theorem cr_sortST (hu : X.A.units + 200 < cLine) (hc : X.calm = true) : CallR X (.builtin "sorted") (rSortST X) := by
  intro pins s σ H vs us Q I r h
  obtain ⟨a, L, G, rfl, ha, gh, hdp, hok, q⟩ := h
  rw [Vals.ref1 r]
  have R0 : SetT0 X.prog X.w s.heap a L := (I.hok a _ ha).1
  have hT : ∀ p ∈ L, IsT X.prog X.w s.heap p.2 p.1 := fun p hp => I.isT ((sub_le gh).sqT (dp_tupI (hdp p hp)))
  obtain ⟨es, ep, t, R⟩ := R0.full hT
  obtain ⟨o, ho, hex, hd⟩ := R.ob
  have hfew := R.few
  have hsz := R.size
  refine sorted_col hu I gh (collect_set (A := X.A.in1) (I.ok.hd hc) ⟨o, ho, hex.1, hd⟩ R.fits (by unfold scanBound; omega) R.tab.ris R.led fun s1 out k1 hz g1 o1 pm => ?_)
  have hes : es.toList.map (·.2) = L.map fun q => Value.ref q.1 := by
    rw [R.rows]
    unfold rowsOf
    rw [List.map_map] <;> rfl
  rw [hes] at pm
  have hk : ∀ p ∈ L, TS.intsOf s.heap (.ref p.1) = p.2 := fun p hp => (tupInts_of (hT p hp)).ints
  have pk : (out.map (TS.intsOf s.heap)).Perm (L.map (·.2)) := by
    have z := pm.map (TS.intsOf s.heap)
    rw [List.map_map] at z
    have e3 : L.map (TS.intsOf s.heap ∘ fun q : Addr × List Int => Value.ref q.1) = L.map (·.2) := List.map_congr_left fun p hp => hk p hp
    rwa [e3] at z
  have hr : ∀ v ∈ out, ∃ p ∈ L, v = Value.ref p.1 := fun v hv => by
    obtain ⟨p, hp, e⟩ := List.mem_map.mp (pm.mem_iff.mp hv)
    exact ⟨p, hp, e.symm⟩
  refine ⟨k1, g1, o1, out.map bkV, (out.map (TS.intsOf s.heap)).map (eT eI), ?_, ?_, ?_, q _ (pk.nodup_iff.mpr R.nd) fun k => pk.mem_iff⟩
  · refine dpAll_of (by simp) fun i w d e1 e2 => ?_
    rw [List.getElem?_map] at e1
    rw [List.getElem?_map, List.getElem?_map] at e2
    obtain ⟨v, e3, rfl⟩ := Option.map_eq_some_iff.mp e1
    rw [e3] at e2
    cases e2
    obtain ⟨p, hp, rfl⟩ := hr v (List.mem_of_getElem? e3)
    rw [hk p hp]
    exact hdp p hp
  · exact bkV_vals fun u hu => by
      obtain ⟨p, _, e⟩ := hr u hu
      exact ⟨p.1, e⟩
  · refine okSo_e _ (by decide) (List.all_eq_true.mpr fun k hk' => ?_) ?_
    · obtain ⟨p, hp, rfl⟩ := List.mem_map.mp (pk.mem_iff.mp hk')
      exact hok p hp
    · rw [List.length_map, pm.length_eq, List.length_map]
      exact Nat.le_trans (Nat.le_of_lt hfew) (Nat.le_trans (by decide) szl_6)
/-- set of a row of ints, of a list of tuples of ints -/
def rSetT (X : Cx) : List V → Hp → VK → Prop := fun vs H Q => (∃ (l : Addr) (ns : List Int), vs = [V.ref l] ∧ (SqT X.K H l (ns.map V.int) ∨ SqL X.K H l (ns.map V.int)) ∧ ns.length ≤ 1000 ∧ ∀ (a : Addr) (c : Nat), H a = none → c ≤ ns.length → Q (.ref a) (upd H a (SetO X.w a (fun j => decide (j ∈ ns)) c))) ∨ rSetOfT X.K X.prog X.w vs H Q
theorem cr_setT (hu : X.A.units + 200 < cLine) (hc : X.calm = true) : CallR X (.type "set") (rSetT X) := by
  intro pins s σ H vs us Q I r h
  rcases h with ⟨l, ns, rfl, hl, hn, q⟩ | h
  · rw [Vals.ref1 r]
    rcases hl with hl | hl
    rotate_left
    · obtain ⟨its, rv, pl, _⟩ := I.list hl
      exact set_of_ints (P := X.prog) (w := X.w) (items := its.toArray) ns (I.ok.hd hc) pl.isList (by simpa using rv.ints) (by unfold scanBound; omega) fun h' tk c R hcl k => ⟨.ref s.heap.objs.size, _, I.laid (t' := tk) k (Nat.le_refl _) (setO_new R), rfl, q _ c (I.hok.fresh (Nat.le_refl _)) hcl⟩
    obtain ⟨its, rv, pl, _⟩ := I.tuple hl
    refine call_set_tupI (P := X.prog) (w := X.w) (items := its.toArray) ns (I.ok.hd hc) pl (by simpa using rv.ints) (by unfold scanBound; omega) fun h' tk c R hcl k => ?_
    exact ⟨.ref s.heap.objs.size, _, I.laid (t' := tk) k (Nat.le_refl _) (setO_new R), rfl, q _ c (I.hok.fresh (Nat.le_refl _)) hcl⟩
  · exact cr_setOfT hc (by omega) pins s σ H vs us Q I r h
def rSortSS (X : Cx) : List V → Hp → VK → Prop := fun vs H Q => rSortS X vs H Q ∨ rSortST X vs H Q
theorem cr_sortSS (hu : X.A.units + 200 < cLine) (hc : X.calm = true) : CallR X (.builtin "sorted") (rSortSS X) := fun pins s σ H vs us Q I r h =>
  h.elim (cr_sortS hu hc pins s σ H vs us Q I r) (cr_sortST hu hc pins s σ H vs us Q I r)
theorem refs_split {K : PySem.W.Frag} {G : Hp} : ∀ {ts : List (List Int)} {vs : List V}, DpAll K G vs (ts.map (eT eI)) → ∃ ks : List (Addr × List Int), vs = ks.map (fun p => V.ref p.1) ∧ ts = ks.map (·.2) ∧ ∀ p ∈ ks, Dp K G (.ref p.1) (eT eI p.2)
  | [], _, h => by cases h; exact ⟨[], rfl, rfl, fun p hp => by cases hp⟩
  | t :: ts, _, h => by
    cases h with
    | cons h1 h2 =>
      obtain ⟨ks, e1, e2, h3⟩ := refs_split h2
      have h1' := h1
      cases h1' with
      | tup hs ha =>
        refine ⟨(_, t) :: ks, by rw [e1]; rfl, by rw [e2]; rfl, fun p hp => ?_⟩
        rcases List.mem_cons.mp hp with rfl | hp
        · exact h1
        · exact h3 p hp
variable {ix : List Nat} {e : Expr} {f : M} {p p2 q pos : Pos} {x y : Str}
theorem de_sset (hu : X.A.units + 200 < cLine) (hc : X.calm = true) (hg : Gl X "sorted") (hm : X.mg "sorted" = none) (hg2 : Gl X "set") (hm2 : X.mg "set" = none) (ha : PE X e (TE' X.K ix f))
    (he : starEach [e] X.env = (false, eval e X.env) :: starEach [] X.env := by rfl) (he2 : starEach [Expr.Call (.Name "set" p2) [e] [] q] X.env = (false, eval (.Call (.Name "set" p2) [e] [] q) X.env) :: starEach [] X.env := by rfl)
    (hpl : (backTo q (starEach ([] : List Expr) X.env)).any (·.1) = false := by rfl) (hpl2 : (backTo pos (starEach ([] : List Expr) X.env)).any (·.1) = false := by rfl) :
    PE X (.Call (.Name "sorted" p) [.Call (.Name "set" p2) [e] [] q] [] pos) (TE' X.K ix (eSset f)) :=
  pe_imp (pe_callB (cr_sortSS hu hc) hg hm (by decide +kernel) (pa_cons (pe_callTy (cr_setT hu hc) hg2 hm2 (by decide +kernel) (pa_cons (de_fr ha) pa_nil he) (by decide) (by decide) he hpl) pa_nil he2) (by decide) (by decide) he2 hpl2) fun σ H Q ⟨Fr, FX, G, ρ, r, ρ', R, hf, k⟩ => by
    unfold eSset at hf
    obtain ⟨⟨r0, ρ0⟩, h0, hf⟩ := Option.bind_eq_some_iff.mp hf
    cases r0 with
    | ow o => cases hf
    | al i => cases hf
    | fd o => cases hf
    | sh d =>
    obtain ⟨z, hz, hf⟩ := Option.bind_eq_some_iff.mp hf
    cases hf
    refine ⟨Fr, FX, G, ρ, .sh d, ρ0, R, h0, fun v G1 H1 s1 R1 v1 => ?_⟩
    have done : ∀ (a : Addr) (u : HO), H1 a = none → Res X.K G1 (upd H1 a u) Q z := fun a u ha => res_ok (R1.newH ha) fun w G2 H2 s2 R2 v2 => k w G2 H2 (s1.trans s2) R2 v2
    have byInt : ∀ (b : Addr) (ds : List Dv), ssI ds = some z → (∀ ns : List Int, ds = ns.map eI → SqT X.K H1 b (ns.map V.int) ∨ SqL X.K H1 b (ns.map V.int)) → rSetT X [V.ref b] H1 fun v' H' => rSortSS X [v'] H' Q := fun b ds hz hs => by
      unfold ssI at hz
      obtain ⟨ns, h1, hz⟩ := Option.bind_eq_some_iff.mp hz
      split at hz
      rotate_left
      · cases hz
      rename_i hn
      cases hz
      refine Or.inl ⟨b, ns, rfl, hs ns (asI_e h1), hn, fun a c ha hcl => Or.inl ⟨a, _, c, G1, rfl, upd_same, (R1.newH ha).gh, by omega, fun ms hnd hms => ?_⟩⟩
      rw [sortD_one hnd fun j => (hms j).trans decide_eq_true_iff]
      exact done a _ ha
    cases d with
    | tuple ds =>
      obtain ⟨b, vs, rfl, _⟩ := vd_tup R1.gh (dp_vd R1.gh v1)
      exact byInt b ds hz fun ns e => .inl (R1.sub.sqT (dp_tupI (by
        subst e
        exact v1)))
    | list ds =>
      unfold ssD at hz
      simp only at hz
      split at hz
      · cases v1 with
        | lst hs ha => exact byInt _ ds hz fun ns e => .inr (R1.sub.sqL (by
            subst e
            rw [← ints_of_dpAll ha]
            exact hs))
      unfold ssT at hz
      obtain ⟨ts, h1, hz⟩ := Option.bind_eq_some_iff.mp hz
      split at hz
      rotate_left
      · cases hz
      rename_i hn
      cases hz
      have e1 := asT_e h1
      subst e1
      cases v1 with
      | lst hs ha =>
        obtain ⟨ks, rfl, rfl, hks⟩ := refs_split ha
        refine Or.inr ⟨_, ks, rfl, R1.sub.sqL hs, fun p hp => R1.sub.sqT (dp_tupI (hks p hp)), by simpa using hn.1, fun a L ha hsub hall => Or.inr ⟨a, L, G1, rfl, upd_same, (R1.newH ha).gh, fun p hp => hks p (hsub p hp), fun p hp => ?_, fun ms hnd hms => ?_⟩⟩
        · exact List.all_eq_true.mp hn.2 p.2 (List.mem_map.mpr ⟨p, hsub p hp, rfl⟩)
        · rw [sortD_one (ys := ks.map (·.2)) hnd fun t => (hms t).trans ⟨fun h => ?_, fun h => ?_⟩]
          · exact done a _ ha
          · obtain ⟨p, hp, rfl⟩ := List.mem_map.mp h
            exact List.mem_map.mpr ⟨p, hsub p hp, rfl⟩
          · obtain ⟨p, hp, rfl⟩ := List.mem_map.mp h
            exact hall p hp
    | none => cases hz
    | bool b => cases hz
    | int b => cases hz
    | str b => cases hz
    | dict b => cases hz
end
end DL

set_option Elab.async false
set_option linter.all false
set_option autoImplicit false
set_option maxRecDepth 100000
set_option maxHeartbeats 1000000
namespace DL
open PySem PySem.Spec PyProof.Rows L2
section
variable {κ ν : Type} {ek : κ → Dv} {ev : ν → Dv} {f fo fk fd fv : M} {ρ ρ1 ρ2 ρ3 : Rho} {kvs : List (κ × ν)} {o : Ob} {r : Rv}
/-! ### dicts that stay -/
theorem evf {i : Nat} (h : ρ[i]? = some (.fd o)) : eVar i ρ = some (.fd o, ρ) := by
  unfold eVar
  rw [h]
theorem pk_f (h : f ρ = some (.fd o, ρ1)) : pkM f ρ = some (.fd o, ρ1) := by
  unfold pkM
  rw [h]
  rfl
theorem set_f {i : Nat} (h : f ρ = some (.fd o, ρ1)) : sSet i f ρ = some (.nx (ρ1.set i (.fd o))) := by
  unfold sSet
  rw [h]
  rfl
theorem fz_n {ds : List (Dv × Dv)} (h : f ρ = some (.ow (.dtn ds), ρ1)) : fzM f ρ = some (.fd (.dtn ds), ρ1) := by
  unfold fzM
  rw [h]
  rfl
theorem fz_d {ds : List (Dv × Dv)} (h : f ρ = some (.ow (.dct ds), ρ1)) : fzM f ρ = some (.fd (.dct ds), ρ1) := by
  unfold fzM
  rw [h]
  rfl
theorem fz_f (h : f ρ = some (.fd o, ρ1)) : fzM f ρ = some (.fd o, ρ1) := by
  unfold fzM
  rw [h]
  rfl
theorem fz_aln {ds : List (Dv × Dv)} {i : Nat} (h : f ρ = some (.al i, ρ1)) (e : ρ1[i]? = some (.ow (.dtn ds))) : fzM f ρ = some (.fd (.dtn ds), ρ1.set i (.fd (.dtn ds))) := by
  unfold fzM
  rw [h]
  simp [e]
theorem fz_ald {ds : List (Dv × Dv)} {i : Nat} (h : f ρ = some (.al i, ρ1)) (e : ρ1[i]? = some (.ow (.dct ds))) : fzM f ρ = some (.fd (.dct ds), ρ1.set i (.fd (.dct ds))) := by
  unfold fzM
  rw [h]
  simp [e]
theorem ikeys_n (h : f ρ = some (.fd (.dtn (kvs.map (ekv ek ev))), ρ1)) : iFd f ρ = some ((kvs.map Prod.fst).map ek, ρ1) := by
  unfold iFd
  rw [h]
  simp [keysOf, ekv, Function.comp_def]
theorem ikeys_i (h : f ρ = some (.fd (.dct (kvs.map (ekv ek ev))), ρ1)) : iFd f ρ = some ((kvs.map Prod.fst).map ek, ρ1) := by
  unfold iFd
  rw [h]
  simp [keysOf, ekv, Function.comp_def]
/-! ### reading -/
theorem ixN_e [KeyE ek] {k : κ} {v : ν} (h : dgetO (EqE.eq ek) kvs k = some v) : ixA (obD (.dtn (kvs.map (ekv ek ev)))) (ek k) = some (.sh (ev v)) := by
  have hk := KeyE.okt (ek := ek) k
  unfold ixA obD
  simp only
  rw [if_neg (fun z => by rw [isKey_okT hk] at z; cases z.1), if_pos ⟨hk, rfl⟩, List.tail_cons, getN_e, h]
  rfl
theorem getNo_e [KeyE ek] {k : κ} {v : ν} (h : dgetO (EqE.eq ek) kvs k = some v) : getOb (.dtn (kvs.map (ekv ek ev))) (ek k) = some (ev v) := by
  show (if okT (ek k) = true then getN (kvs.map (ekv ek ev)) (ek k) else none) = _
  rw [if_pos (KeyE.okt (ek := ek) k), getN_e, h]
  rfl
theorem getA_n [KeyE ek] (k : κ) (d : ν) : getA (.dtn (kvs.map (ekv ek ev))) (ek k) (ev d) = some (ev ((dgetO (EqE.eq ek) kvs k).getD d)) := by
  unfold getA
  simp only
  rw [if_pos (KeyE.okt (ek := ek) k), getN_e]
  cases dgetO (EqE.eq ek) kvs k <;> rfl
theorem getA_i [KeyI ek] (k : κ) (d : ν) : getA (.dct (kvs.map (ekv ek ev))) (ek k) (ev d) = some (ev ((dgetO (EqE.eq ek) kvs k).getD d)) := by
  unfold getA
  simp only
  rw [if_pos (KeyI.okt (ek := ek) k), getD_e]
  cases dgetO (EqE.eq ek) kvs k <;> rfl
theorem dgetA_ {x : Rv} {kd d0 d : Dv} {ob : Ob} (ho : fo ρ = some (x, ρ)) (h1 : obAt ρ x = some ob) (h2 : isDt ob = true) (hk : pkM fk ρ = some (r, ρ)) (h3 : dat ρ r = some kd) (hf : frM fd ρ = some (.sh d0, ρ)) (h4 : getA ob kd d0 = some d) : eDGetA fo fk fd ρ = some (.sh d, ρ) := by
  unfold eDGetA
  rw [ho]
  simp only [Option.bind_some]
  rw [h1]
  simp only [Option.bind_some]
  rw [if_pos h2, hk]
  simp only [Option.bind_some]
  rw [h3]
  simp only [Option.bind_some]
  rw [hf]
  simp only [Option.bind_some, h1, h4]
/-! ### {k: v} -/
theorem disp1_ [KeyE ek] {k : κ} {v : ν} (h1 : fk ρ = some (.sh (ek k), ρ1)) (h2 : frM fv ρ1 = some (.sh (ev v), ρ2)) : eDisp1 fk fv ρ = some (.ow (.dtn (([(k, v)] : List (κ × ν)).map (ekv ek ev))), ρ2) := by
  unfold eDisp1
  rw [pk_s h1]
  simp only [Option.bind_some]
  rw [if_pos (KeyE.okt (ek := ek) k), h2]
  rfl
/-! ### sorted of dicts and sets -/
theorem sortN_e [OrdE ek] {ys : List κ} (h : sortO ek (kvs.map Prod.fst) = some ys) (hd : EqE.dep ek ≤ 64 := by decide) : sortA [obD (.dtn (kvs.map (ekv ek ev)))] = some (.ow (.lst (ys.map ek))) := by
  unfold sortO at h
  split at h
  · rename_i hc
    cases h
    have e1 : (kvs.map (ekv ek ev)).map Prod.fst = (kvs.map Prod.fst).map ek := by simp [ekv, Function.comp_def]
    unfold sortA obD
    simp only
    rw [if_neg (by simp [plD]), List.tail_cons, e1, if_pos (okSo_e _ hd hc.1 hc.2), sortD_e]
  · cases h
theorem sortAL_e {α : Type} {e : α → Dv} [OrdE e] {xs ys : List α} (h : sortO e xs = some ys) (hd : EqE.dep e ≤ 64 := by decide) : sortA [.list (xs.map e)] = some (.ow (.lst (ys.map e))) := sort_e h hd
/-- sorted(set(xs)): xs, how many at most -/
def ssetO {α : Type} (e : α → Dv) [OrdE e] (b : Nat) (xs : List α) : Option (List α) := if xs.length < b ∧ xs.all (OrdE.ok e) = true then some (isort (OrdE.lt e) (nubE e xs)) else none
theorem asI_map : ∀ ns : List Int, asI (ns.map eI) = some ns
  | [] => rfl
  | n :: ns => by
    rw [List.map_cons]
    show (asI (ns.map eI)).map _ = _
    rw [asI_map ns]
    rfl
theorem asT_map : ∀ ts : List (List Int), asT (ts.map (eT eI)) = some ts
  | [] => rfl
  | t :: ts => by
    rw [List.map_cons]
    show (asI (t.map eI)).bind _ = _
    rw [asI_map]
    show (asT (ts.map (eT eI))).map _ = _
    rw [asT_map ts]
    rfl
theorem sset_ {d : Dv} {zs : List Dv} (h : frM f ρ = some (.sh d, ρ1)) (h2 : ssD d = some (.ow (.lst zs))) : eSset f ρ = some (.ow (.lst zs), ρ1) := by
  unfold eSset
  rw [h]
  simp only [Option.bind_some]
  rw [h2]
  rfl
theorem ssI_e {xs ys : List Int} (h : ssetO eI 1000 xs = some ys) : ssD (eT eI xs) = some (.ow (.lst (ys.map eI))) := by
  unfold ssetO at h
  split at h
  · rename_i hc
    cases h
    show (asI (xs.map eI)).bind _ = _
    rw [asI_map]
    exact if_pos (Nat.le_of_lt hc.1)
  · cases h
theorem ssL_e {xs ys : List Int} (h : ssetO eI 1000 xs = some ys) : ssD (eL eI xs) = some (.ow (.lst (ys.map eI))) := by
  unfold ssetO at h
  split at h
  · rename_i hc
    cases h
    show (if (asI (xs.map eI)).isSome = true then ssI (xs.map eI) else ssT (xs.map eI)) = _
    unfold ssI
    rw [asI_map]
    exact if_pos (Nat.le_of_lt hc.1)
  · cases h
/-- a list of rows is no list of ints, but the empty one -/
theorem ssD_rows {ds : List Dv} {ts : List (List Int)} {z : Rz} (e : ds = ts.map (eT eI)) (h : ssT ds = some z) : ssD (.list ds) = some z := by
  subst e
  cases ts with
  | nil => exact h
  | cons t ts => exact h
theorem ssT_e {xs ys : List (List Int)} (h : ssetO (eT eI) 64 xs = some ys) : ssD (eL (eT eI) xs) = some (.ow (.lst (ys.map (eT eI)))) := by
  unfold ssetO at h
  split at h
  · rename_i hc
    cases h
    refine ssD_rows rfl ?_
    show (asT (xs.map (eT eI))).bind _ = _
    rw [asT_map]
    exact if_pos hc
  · cases h
/-- pairs of ints as rows of ints -/
def prow (p : Int × Int) : List Int := [p.1, p.2]
theorem prow_inj {p q : Int × Int} (h : prow p = prow q) : p = q := by
  obtain ⟨a, b⟩ := p
  obtain ⟨c, d⟩ := q
  simp only [prow, List.cons.injEq, and_true] at h
  rw [h.1, h.2]
theorem ltE_prow (p q : Int × Int) : OrdE.lt (eT eI) (prow p) (prow q) = OrdE.lt (e2 eI eI) p q := by
  rw [← OrdE.ltEq, ← OrdE.ltEq]
  rfl
theorem eqE_prow (p q : Int × Int) : eqE (eT eI) (prow p) (prow q) = eqE (e2 eI eI) p q := by
  refine Bool.eq_iff_iff.mpr ?_
  rw [eqE_iff, eqE_iff]
  exact ⟨prow_inj, fun h => by rw [h]⟩
theorem nub_prow : ∀ xs : List (Int × Int), nubE (eT eI) (xs.map prow) = (nubE (e2 eI eI) xs).map prow
  | [] => rfl
  | x :: xs => by
    rw [List.map_cons, nubE, nubE, List.map_cons, nub_prow xs, List.filter_map]
    congr 2
    exact List.filter_congr fun y _ => by
      show (!eqE (eT eI) (prow y) (prow x)) = _
      rw [eqE_prow]
theorem ins_prow (x : Int × Int) : ∀ ys : List (Int × Int), insE (OrdE.lt (eT eI)) (prow x) (ys.map prow) = (insE (OrdE.lt (e2 eI eI)) x ys).map prow
  | [] => rfl
  | y :: ys => by
    rw [List.map_cons]
    unfold insE
    rw [ltE_prow, ins_prow x ys]
    split <;> rfl
theorem isort_prow : ∀ xs : List (Int × Int), isort (OrdE.lt (eT eI)) (xs.map prow) = (isort (OrdE.lt (e2 eI eI)) xs).map prow
  | [] => rfl
  | x :: xs => by
    rw [List.map_cons]
    unfold isort
    rw [isort_prow xs, ins_prow]
theorem ssP_e {xs ys : List (Int × Int)} (h : ssetO (e2 eI eI) 64 xs = some ys) : ssD (eL (e2 eI eI) xs) = some (.ow (.lst (ys.map (e2 eI eI)))) := by
  unfold ssetO at h
  split at h
  · rename_i hc
    cases h
    have e1 : ∀ l : List (Int × Int), l.map (e2 eI eI) = (l.map prow).map (eT eI) := fun l => by rw [List.map_map]; rfl
    refine ssD_rows (e1 xs) ?_
    show ssT (xs.map (e2 eI eI)) = _
    unfold ssT
    rw [e1, asT_map]
    refine (if_pos ⟨by rw [List.length_map]; exact hc.1, ?_⟩).trans ?_
    · rw [nub_prow, isort_prow, ← e1]
    · rw [List.all_map]
      exact List.all_eq_true.mpr fun _ _ => rfl
  · cases h
end
end DL

set_option Elab.async false
set_option linter.all false
set_option autoImplicit false
set_option maxRecDepth 100000
set_option maxHeartbeats 4000000
namespace K88
open PySem PySem.Spec PyProof.Rows L2 DL
def topS (i : Nat) : Stmt := PySem.Challenge.pw_turnwarrant_k88_whole_rules_of_cells.main.body.getD i (.Pass ⟨0, 0, 0, 0⟩)
structure Zs (mg : Str → Option Value) : Prop where
  abs : mg "abs" = none
  bool : mg "bool" = none
  int : mg "int" = none
  isinstance : mg "isinstance" = none
  len : mg "len" = none
  list : mg "list" = none
  min : mg "min" = none
  range : mg "range" = none
  set : mg "set" = none
  sorted : mg "sorted" = none
  tuple : mg "tuple" = none
/-! _law_draws -/
abbrev s__law_draws : Stmt := topS 11
theorem sc__law_draws : FnScope ["script", "many", "draws", "mixed", "k", "cell", "rest", "turn"] ["script", "many"] (defScope s__law_draws) := ⟨rfl, rfl, rfl, by decide +kernel, rfl, by decide +kernel, by decide +kernel⟩
def g__law_draws : MS :=
    (sSeq (sSet 2 (eLst aNil))
    (sSeq (sSet 3 (eC (.int 7)))
    (sSeq (sFor (iRng rng1 (aCons (eCall lenG (aCons (eVar 0) aNil)) aNil)) (tName 4) (sSeq (sSet 5 (eCall absG (aCons (eCall intG (aCons (binS ixA (eVar 0) (eVar 4)) aNil)) aNil)))
    (sSeq (sSet 3 (binS modD (eCall intG (aCons (binS addD (binS addD (binS mulD (eVar 3) (eC (.int 48271))) (binS modD (eVar 5) (eC (.int 1000003)))) (eVar 4)) aNil)) (eC (.int 65537))))
    (sSeq (sSet 6 (eC (.int 0)))
    (sSeq (sIf (tB (binS (cmpD fun i j => decide (j ≤ i)) (eVar 5) (binS powD (eC (.int 10)) (eC (.int 18))))) (sSet 6 (cpM (eVar 5))) (sSeq (sExpr (mutM "list" appG (eVar 2) (aCons (frM (binS modD (eCall intG (aCons (eVar 5) aNil)) (eC (.int 997)))) aNil)))
    (sExpr (mutM "list" appG (eVar 2) (aCons (frM (binS modD (binS modD (eCall intG (aCons (binS addD (binS mulD (eVar 3) (eC (.int 69621))) (eC (.int 5))) aNil)) (eC (.int 65521))) (eC (.int 997)))) aNil)))))
    (sFor (iRng rng1 (aCons (eC (.int 60)) aNil)) (tName 7) (sIf (tB (binS (cmpD fun i j => decide (j < i)) (eVar 6) (eC (.int 0)))) (sSeq (sExpr (mutM "list" appG (eVar 2) (aCons (frM (binS modD (eCall intG (aCons (eVar 6) aNil)) (eC (.int 997)))) aNil)))
    (sSet 6 (binS divD (eVar 6) (eC (.int 997))))) sNil)))))))
    (sSeq (sFor (iRng rng1 (aCons (eVar 1) aNil)) (tName 4) (sSeq (sSet 3 (binS modD (eCall intG (aCons (binS addD (binS addD (binS mulD (eVar 3) (eC (.int 16807))) (eVar 4)) (eC (.int 1))) aNil)) (eC (.int 65537))))
    (sExpr (mutM "list" appG (eVar 2) (aCons (frM (binS modD (eCall intG (aCons (eVar 3) aNil)) (eC (.int 997)))) aNil)))))
    (sRet [] (eCut (eVar 2) oNo (oInt (eVar 1))))))))
def F__law_draws : FnS := runF 2 8 [] g__law_draws
/-! rule_turned -/
abbrev s_rule_turned : Stmt := topS 1
theorem sc_rule_turned : FnScope ["rule", "mirror", "over", "found", "place", "left", "middle", "right", "bit"] ["rule", "mirror", "over"] (defScope s_rule_turned) := ⟨rfl, rfl, rfl, by decide +kernel, rfl, by decide +kernel, by decide +kernel⟩
def g_rule_turned : MS :=
    (sSeq (sSet 3 (eC (.int 0)))
    (sSeq (sFor (iRng rng1 (aCons (eC (.int 8)) aNil)) (tName 4) (sSeq (sPar3 5 6 7 (aCons (frM (binS shrD (eVar 4) (eC (.int 2)))) (aCons (frM (binS (bitD Builtin.bitAnd) (binS shrD (eVar 4) (eC (.int 1))) (eC (.int 1)))) (aCons (frM (binS (bitD Builtin.bitAnd) (eVar 4) (eC (.int 1)))) aNil))))
    (sSeq (sIf (tB (binS eqqD (eVar 1) (eC (.int 1)))) (sPar 5 7 (aCons (frM (eVar 7)) (aCons (frM (eVar 5)) aNil))) sNil)
    (sSeq (sIf (tB (binS eqqD (eVar 2) (eC (.int 1)))) (sPar3 5 6 7 (aCons (frM (binS subD (eC (.int 1)) (eVar 5))) (aCons (frM (binS subD (eC (.int 1)) (eVar 6))) (aCons (frM (binS subD (eC (.int 1)) (eVar 7))) aNil)))) sNil)
    (sSeq (sSet 8 (binS (bitD Builtin.bitAnd) (binS shrD (eVar 0) (binS addD (binS addD (binS mulD (eC (.int 4)) (eVar 5)) (binS mulD (eC (.int 2)) (eVar 6))) (eVar 7))) (eC (.int 1))))
    (sAug 3 (bitD Builtin.bitOr) (binS shlD (binS (bitD Builtin.bitXor) (eVar 8) (eVar 2)) (eVar 4))))))))
    (sRet [] (frM (eVar 3)))))
def F_rule_turned : FnS := runF 3 9 [] g_rule_turned
/-! _new -/
abbrev s__new : Stmt := topS 4
theorem sc__new : FnScope ["rule", "left", "middle", "right"] ["rule", "left", "middle", "right"] (defScope s__new) := ⟨rfl, rfl, rfl, by decide +kernel, rfl, by decide +kernel, by decide +kernel⟩
def g__new : MS :=
    (sRet [] (binS (bitD Builtin.bitAnd) (binS shrD (eVar 0) (binS addD (binS addD (binS mulD (eC (.int 4)) (eVar 1)) (binS mulD (eC (.int 2)) (eVar 2))) (eVar 3))) (eC (.int 1))))
def F__new : FnS := runF 4 4 [] g__new
/-! ran -/
abbrev s_ran : Stmt := topS 5
theorem sc_ran : FnScope ["rule", "cells", "n", "k"] ["rule", "cells"] (defScope s_ran) := ⟨rfl, rfl, rfl, by decide +kernel, rfl, by decide +kernel, by decide +kernel⟩
def g_ran : MS :=
    (sSeq (sSet 2 (pkM (eCall lenG (aCons (eVar 1) aNil))))
    (sRet [] (frM (eCall tupleG (aCons (eLc [3] (iRng rng1 (aCons (eVar 2) aNil)) (tName 3) cYes (eFn F__new (aCons (frM (eVar 0)) (aCons (frM (binS ixA (eVar 1) (binS subD (eVar 3) (eC (.int 1))))) (aCons (frM (binS ixA (eVar 1) (eVar 3))) (aCons (frM (binS ixA (eVar 1) (binS modD (binS addD (eVar 3) (eC (.int 1))) (eVar 2)))) aNil)))))) aNil)))))
def F_ran : FnS := runF 2 4 [] g_ran
/-! orbit_of -/
abbrev s_orbit_of : Stmt := topS 6
theorem sc_orbit_of : FnScope ["rule", "cells", "seen", "count"] ["rule", "cells"] (defScope s_orbit_of) := ⟨rfl, rfl, rfl, by decide +kernel, rfl, by decide +kernel, by decide +kernel⟩
def g_orbit_of : MS :=
    (sSeq (sSet 2 eDctN)
    (sSeq (sSet 3 (eC (.int 0)))
    (sSeq (whileS (tB (binS ninAD (eVar 1) (eVar 2))) (sSeq (sAsg (eVar 3) (tSub (eVar 2) (eVar 1)))
    (sSeq (sAug 3 iaddD (eC (.int 1)))
    (sSet 1 (pkM (eFn F_ran (aCons (frM (eVar 0)) (aCons (frM (eVar 1)) aNil))))))) 1048576)
    (sRet [] (eTup (aCons (frM (binS ixA (eVar 2) (eVar 1))) (aCons (frM (binS subD (eVar 3) (binS ixA (eVar 2) (eVar 1)))) aNil)))))))
def F_orbit_of : FnS := runF 2 4 [] g_orbit_of
/-! _law_next -/
abbrev s__law_next : Stmt := topS 12
theorem sc__law_next : FnScope ["w", "many"] ["w", "many"] (defScope s__law_next) := ⟨rfl, rfl, rfl, by decide +kernel, rfl, by decide +kernel, by decide +kernel⟩
def g__law_next : MS :=
    (sSeq (sAugS iaddD (eVar 0) (eC (.str ("at" : Str))) (eC (.int 1)))
    (sSeq (sIf (tB (binS (cmpD fun i j => decide (j < i)) (binS ixA (eVar 0) (eC (.str ("at" : Str)))) (eCall lenG (aCons (binS ixA (eVar 0) (eC (.str ("draws" : Str)))) aNil)))) (sRet [0] (eC (.int 0))) sNil)
    (sRet [0] (binS modD (eCall intG (aCons (binS ixA (binS ixA (eVar 0) (eC (.str ("draws" : Str)))) (binS subD (binS ixA (eVar 0) (eC (.str ("at" : Str)))) (eC (.int 1)))) aNil)) (eVar 1)))))
def F__law_next : FnS := runF 2 2 [0] g__law_next
/-! count_kept -/
abbrev s_count_kept : Stmt := topS 9
theorem sc_count_kept : FnScope ["rule", "n", "pairs", "total", "begin", "counts", "_", "more", "left", "middle", "right", "key"] ["rule", "n"] (defScope s_count_kept) := ⟨rfl, rfl, rfl, by decide +kernel, rfl, by decide +kernel, by decide +kernel⟩
def g_count_kept : MS :=
    (sSeq (sSet 2 (pkM (eLc2 [8, 9] [9] (iSeq (eTup (aCons (eC (.int 0)) (aCons (eC (.int 1)) aNil)))) (tName 8) cYes (iSeq (eTup (aCons (eC (.int 0)) (aCons (eC (.int 1)) aNil)))) (tName 9) cYes (eTup (aCons (frM (eVar 8)) (aCons (frM (eVar 9)) aNil))))))
    (sSeq (sSet 3 (eC (.int 0)))
    (sSeq (sFor (iSeq (eVar 2)) (tName 4) (sSeq (sSet 5 (fzM (eDisp1 (eVar 4) (eC (.int 1)))))
    (sSeq (sFor (iRng rng1 (aCons (eVar 1) aNil)) (tName 6) (sSeq (sSet 7 eDctN)
    (sSeq (sFor (iFd (eVar 5)) (tTupT [(tName 8), (tName 9)]) (sFor (iSeq (eTup (aCons (eC (.int 0)) (aCons (eC (.int 1)) aNil)))) (tName 10) (sIf (tB (binS eqqD (eFn F__new (aCons (frM (eVar 0)) (aCons (frM (eVar 8)) (aCons (frM (eVar 9)) (aCons (frM (eVar 10)) aNil))))) (eVar 9))) (sSeq (sSet 11 (eTup (aCons (frM (eVar 9)) (aCons (frM (eVar 10)) aNil))))
    (sAsg (binS addD (eDGetA (eVar 7) (eVar 11) (eC (.int 0))) (binS ixA (eVar 5) (eTup (aCons (frM (eVar 8)) (aCons (frM (eVar 9)) aNil))))) (tSub (eVar 7) (eVar 11)))) sNil)))
    (sSet 5 (fzM (eVar 7))))))
    (sAug 3 iaddD (eDGetA (eVar 5) (eVar 4) (eC (.int 0)))))))
    (sRet [] (frM (eVar 3))))))
def F_count_kept : FnS := runF 2 12 [] g_count_kept
/-! rule_form -/
abbrev s_rule_form : Stmt := topS 2
theorem sc_rule_form : FnScope ["rule", "mirror", "over"] ["rule"] (defScope s_rule_form) := ⟨rfl, rfl, rfl, by decide +kernel, rfl, by decide +kernel, by decide +kernel⟩
def g_rule_form : MS :=
    (sRet [] (frM (eCall minG (aCons (eLc2 [1, 2] [2] (iSeq (eTup (aCons (eC (.int 0)) (aCons (eC (.int 1)) aNil)))) (tName 1) cYes (iSeq (eTup (aCons (eC (.int 0)) (aCons (eC (.int 1)) aNil)))) (tName 2) cYes (eTup (aCons (frM (eFn F_rule_turned (aCons (frM (eVar 0)) (aCons (frM (eVar 1)) (aCons (frM (eVar 2)) aNil))))) (aCons (frM (eVar 1)) (aCons (frM (eVar 2)) aNil))))) aNil))))
def F_rule_form : FnS := runF 1 3 [] g_rule_form
/-! all_rules -/
abbrev s_all_rules : Stmt := topS 3
theorem sc_all_rules : FnScope ["rule"] [] (defScope s_all_rules) := ⟨rfl, rfl, rfl, by decide +kernel, rfl, by decide +kernel, by decide +kernel⟩
def g_all_rules : MS :=
    (sRet [] (frM (eCall tupleG (aCons (eLc [0] (iRng rng1 (aCons (eC (.int 256)) aNil)) (tName 0) (tB (binS eqqD (binS ixA (eFn F_rule_form (aCons (frM (eVar 0)) aNil)) (eC (.int 0))) (eVar 0))) (eVar 0)) aNil))))
def F_all_rules : FnS := runF 0 1 [] g_all_rules
/-! _law_cells -/
abbrev s__law_cells : Stmt := topS 21
theorem sc__law_cells : FnScope ["w", "k"] ["w"] (defScope s__law_cells) := ⟨rfl, rfl, rfl, by decide +kernel, rfl, by decide +kernel, by decide +kernel⟩
def g__law_cells : MS :=
    (sRet [0] (frM (eCall tupleG (aCons (eLc [1] (iRng rng1 (aCons (binS addD (eC (.int 1)) (eFn F__law_next (aCons (eVar 0) (aCons (eC (.int 9)) aNil)))) aNil)) (tName 1) cYes (eFn F__law_next (aCons (eVar 0) (aCons (eC (.int 2)) aNil)))) aNil))))
def F__law_cells : FnS := runF 1 2 [0] g__law_cells
/-! lost_row -/
abbrev s_lost_row : Stmt := topS 7
theorem sc_lost_row : FnScope ["rule", "begin", "rows", "waiting", "at", "cell", "found", "left", "middle", "right", "more"] ["rule"] (defScope s_lost_row) := ⟨rfl, rfl, rfl, by decide +kernel, rfl, by decide +kernel, by decide +kernel⟩
def g_lost_row : MS :=
    (sSeq (sSet 1 (pkM (eCall tupleG (aCons (eLc2 [7, 8] [8] (iSeq (eTup (aCons (eC (.int 0)) (aCons (eC (.int 1)) aNil)))) (tName 7) cYes (iSeq (eTup (aCons (eC (.int 0)) (aCons (eC (.int 1)) aNil)))) (tName 8) cYes (eTup (aCons (frM (eVar 7)) (aCons (frM (eVar 8)) aNil)))) aNil))))
    (sSeq (sSet 2 (eDisp1 (eVar 1) (eTup aNil)))
    (sSeq (sSet 3 (eLst (aCons (frM (eVar 1)) aNil)))
    (sSeq (sSet 4 (eC (.int 0)))
    (sSeq (whileS (tB (binS (cmpD fun i j => decide (i < j)) (eVar 4) (eCall lenG (aCons (eVar 3) aNil)))) (sSeq (sFor (iSeq (eTup (aCons (eC (.int 0)) (aCons (eC (.int 1)) aNil)))) (tName 5) (sSeq (sSet 6 eDctN)
    (sSeq (sFor (iSeq (binS ixA (eVar 3) (eVar 4))) (tTupT [(tName 7), (tName 8)]) (sFor (iSeq (eTup (aCons (eC (.int 0)) (aCons (eC (.int 1)) aNil)))) (tName 9) (sIf (tB (binS eqqD (eFn F__new (aCons (frM (eVar 0)) (aCons (frM (eVar 7)) (aCons (frM (eVar 8)) (aCons (frM (eVar 9)) aNil))))) (eVar 5))) (sAsg (eC (.bool true)) (tSub (eVar 6) (eTup (aCons (frM (eVar 8)) (aCons (frM (eVar 9)) aNil))))) sNil)))
    (sSeq (sSet 10 (pkM (eCall tupleG (aCons (eCall sortA (aCons (eVar 6) aNil)) aNil))))
    (sSeq (sIf (tB (binS ninAD (eVar 10) (eVar 2))) (sSeq (sAsg (binS addD (binS ixA (eVar 2) (binS ixA (eVar 3) (eVar 4))) (eTup (aCons (frM (eVar 5)) aNil))) (tSub (eVar 2) (eVar 10)))
    (sExpr (mutM "list" appG (eVar 3) (aCons (frM (eVar 10)) aNil)))) sNil)
    (sIf (tNo (tV (eVar 10))) (sRet [] (frM (binS ixA (eVar 2) (eVar 10)))) sNil))))))
    (sAug 4 iaddD (eC (.int 1)))) 1048576)
    (sRet [] (eC .none)))))))
def F_lost_row : FnS := runF 1 11 [] g_lost_row
/-! _law_new -/
abbrev s__law_new : Stmt := topS 15
theorem sc__law_new : FnScope ["rule", "left", "middle", "right"] ["rule", "left", "middle", "right"] (defScope s__law_new) := ⟨rfl, rfl, rfl, by decide +kernel, rfl, by decide +kernel, by decide +kernel⟩
def g__law_new : MS :=
    (sRet [] (binS (bitD Builtin.bitAnd) (binS shrD (eVar 0) (binS addD (binS addD (binS mulD (eC (.int 4)) (eVar 1)) (binS mulD (eC (.int 2)) (eVar 2))) (eVar 3))) (eC (.int 1))))
def F__law_new : FnS := runF 4 4 [] g__law_new
/-! _law_lost -/
abbrev s__law_lost : Stmt := topS 19
theorem sc__law_lost : FnScope ["rule", "layer", "seen", "turn", "nexts", "row", "pairs", "cell", "goals", "a", "b", "c"] ["rule"] (defScope s__law_lost) := ⟨rfl, rfl, rfl, by decide +kernel, rfl, by decide +kernel, by decide +kernel⟩
def g__law_lost : MS :=
    (sSeq (sPar 1 2 (aCons (frM (eLst (aCons (eTup (aCons (eTup aNil) (aCons (eTup (aCons (eTup (aCons (eC (.int 0)) (aCons (eC (.int 0)) aNil))) (aCons (eTup (aCons (eC (.int 0)) (aCons (eC (.int 1)) aNil))) (aCons (eTup (aCons (eC (.int 1)) (aCons (eC (.int 0)) aNil))) (aCons (eTup (aCons (eC (.int 1)) (aCons (eC (.int 1)) aNil))) aNil))))) aNil))) aNil))) (aCons eDctN aNil)))
    (sSeq (sFor (iRng rng1 (aCons (eC (.int 20)) aNil)) (tName 3) (sSeq (sSet 4 (eLst aNil))
    (sSeq (sFor (iSeq (eVar 1)) (tTupT [(tName 5), (tName 6)]) (sFor (iSeq (eTup (aCons (eC (.int 0)) (aCons (eC (.int 1)) aNil)))) (tName 7) (sSeq (sSet 8 (pkM (eLst aNil)))
    (sSeq (sFor (iSeq (eVar 6)) (tTupT [(tName 9), (tName 10)]) (sSet 8 (pkM (binS addD (eVar 8) (eLc [11] (iSeq (eTup (aCons (eC (.int 0)) (aCons (eC (.int 1)) aNil)))) (tName 11) (tB (binS eqqD (eFn F__law_new (aCons (frM (eVar 0)) (aCons (frM (eVar 9)) (aCons (frM (eVar 10)) (aCons (frM (eVar 11)) aNil))))) (eVar 7))) (eTup (aCons (frM (eVar 10)) (aCons (frM (eVar 11)) aNil))))))))
    (sSeq (sSet 8 (pkM (eCall tupleG (aCons (eSset (eVar 8)) aNil))))
    (sSeq (sIf (tB (binS eqqD (eVar 8) (eTup aNil))) (sRet [] (frM (binS addD (eVar 5) (eTup (aCons (frM (eVar 7)) aNil))))) sNil)
    (sIf (tB (binS ninAD (eVar 8) (eVar 2))) (sSeq (sAsg (eC (.bool true)) (tSub (eVar 2) (eVar 8)))
    (sExpr (mutM "list" appG (eVar 4) (aCons (eTup (aCons (frM (binS addD (eVar 5) (eTup (aCons (frM (eVar 7)) aNil)))) (aCons (frM (eVar 8)) aNil))) aNil)))) sNil)))))))
    (sSet 1 (pkM (cpM (eVar 4)))))))
    (sRet [] (eC .none))))
def F__law_lost : FnS := runF 1 12 [] g__law_lost
/-! _law_is_number -/
abbrev s__law_is_number : Stmt := topS 13
theorem sc__law_is_number : FnScope ["thing"] ["thing"] (defScope s__law_is_number) := ⟨rfl, rfl, rfl, by decide +kernel, rfl, by decide +kernel, by decide +kernel⟩
def g__law_is_number : MS :=
    (sRet [] (frM (eAnd (unS (isiD "int") (eVar 0)) (eNot (unS (isiD "bool") (eVar 0))))))
def F__law_is_number : FnS := runF 1 1 [] g__law_is_number
/-! _law_turned -/
abbrev s__law_turned : Stmt := topS 17
theorem sc__law_turned : FnScope ["rule", "mirror", "over", "found", "k", "left", "middle", "right"] ["rule", "mirror", "over"] (defScope s__law_turned) := ⟨rfl, rfl, rfl, by decide +kernel, rfl, by decide +kernel, by decide +kernel⟩
def g__law_turned : MS :=
    (sSeq (sSet 3 (eC (.int 0)))
    (sSeq (sFor (iRng rng1 (aCons (eC (.int 8)) aNil)) (tName 4) (sSeq (sPar3 5 6 7 (aCons (frM (binS (bitD Builtin.bitAnd) (binS shrD (eVar 4) (eC (.int 2))) (eC (.int 1)))) (aCons (frM (binS (bitD Builtin.bitAnd) (binS shrD (eVar 4) (eC (.int 1))) (eC (.int 1)))) (aCons (frM (binS (bitD Builtin.bitAnd) (eVar 4) (eC (.int 1)))) aNil))))
    (sSeq (sIf (tB (binS eqqD (eVar 1) (eC (.int 1)))) (sPar 5 7 (aCons (frM (eVar 7)) (aCons (frM (eVar 5)) aNil))) sNil)
    (sAug 3 iaddD (binS shlD (binS (bitD Builtin.bitXor) (eFn F__law_new (aCons (frM (eVar 0)) (aCons (frM (binS (bitD Builtin.bitXor) (eVar 5) (eVar 2))) (aCons (frM (binS (bitD Builtin.bitXor) (eVar 6) (eVar 2))) (aCons (frM (binS (bitD Builtin.bitXor) (eVar 7) (eVar 2))) aNil))))) (eVar 2)) (eVar 4))))))
    (sRet [] (frM (eVar 3)))))
def F__law_turned : FnS := runF 3 8 [] g__law_turned
/-! _law_is_numbers -/
abbrev s__law_is_numbers : Stmt := topS 14
theorem sc__law_is_numbers : FnScope ["thing", "n"] ["thing"] (defScope s__law_is_numbers) := ⟨rfl, rfl, rfl, by decide +kernel, rfl, by decide +kernel, by decide +kernel⟩
def g__law_is_numbers : MS :=
    (sRet [] (frM (eAnd (unS (isiD "tuple") (eVar 0)) (binS eqqD (eLc [1] (iSeq (eVar 0)) (tName 1) (tNo (tV (eFn F__law_is_number (aCons (frM (eVar 1)) aNil)))) (eVar 1)) (eLst aNil)))))
def F__law_is_numbers : FnS := runF 1 2 [] g__law_is_numbers
/-! _law_ran -/
abbrev s__law_ran : Stmt := topS 16
theorem sc__law_ran : FnScope ["rule", "cells", "k"] ["rule", "cells"] (defScope s__law_ran) := ⟨rfl, rfl, rfl, by decide +kernel, rfl, by decide +kernel, by decide +kernel⟩
def g__law_ran : MS :=
    (sRet [] (frM (eCall tupleG (aCons (eLc [2] (iRng rng1 (aCons (eCall lenG (aCons (eVar 1) aNil)) aNil)) (tName 2) cYes (eFn F__law_new (aCons (frM (eVar 0)) (aCons (frM (binS ixA (eVar 1) (binS subD (eVar 2) (eC (.int 1))))) (aCons (frM (binS ixA (eVar 1) (eVar 2))) (aCons (frM (binS ixA (eVar 1) (binS modD (eCall intG (aCons (binS addD (eVar 2) (eC (.int 1))) aNil)) (eCall lenG (aCons (eVar 1) aNil))))) aNil)))))) aNil))))
def F__law_ran : FnS := runF 2 3 [] g__law_ran
/-! _law_orbit -/
abbrev s__law_orbit : Stmt := topS 22
theorem sc__law_orbit : FnScope ["rule", "cells", "seen", "at", "turn"] ["rule", "cells"] (defScope s__law_orbit) := ⟨rfl, rfl, rfl, by decide +kernel, rfl, by decide +kernel, by decide +kernel⟩
def g__law_orbit : MS :=
    (sSeq (sPar 2 3 (aCons eDctN (aCons (frM (eC (.int 0))) aNil)))
    (sSeq (sFor (iRng rng1 (aCons (eC (.int 600)) aNil)) (tName 4) (sSeq (sIf (tB (binS inAD (eVar 1) (eVar 2))) sBreak sNil)
    (sSeq (sAsg (eVar 4) (tSub (eVar 2) (eVar 1)))
    (sSeq (sSet 1 (pkM (eFn F__law_ran (aCons (frM (eVar 0)) (aCons (frM (eVar 1)) aNil)))))
    (sSet 3 (binS addD (eVar 4) (eC (.int 1))))))))
    (sRet [] (eTup (aCons (frM (binS ixA (eVar 2) (eVar 1))) (aCons (frM (binS subD (eVar 3) (binS ixA (eVar 2) (eVar 1)))) aNil))))))
def F__law_orbit : FnS := runF 2 5 [] g__law_orbit
/-! _law_form -/
abbrev s__law_form : Stmt := topS 18
theorem sc__law_form : FnScope ["rule", "mirror", "over"] ["rule"] (defScope s__law_form) := ⟨rfl, rfl, rfl, by decide +kernel, rfl, by decide +kernel, by decide +kernel⟩
def g__law_form : MS :=
    (sRet [] (frM (eCall minG (aCons (eLc [1, 2] (iSeq (eTup (aCons (eTup (aCons (eC (.int 0)) (aCons (eC (.int 0)) aNil))) (aCons (eTup (aCons (eC (.int 0)) (aCons (eC (.int 1)) aNil))) (aCons (eTup (aCons (eC (.int 1)) (aCons (eC (.int 0)) aNil))) (aCons (eTup (aCons (eC (.int 1)) (aCons (eC (.int 1)) aNil))) aNil)))))) (tTupT [(tName 1), (tName 2)]) cYes (eTup (aCons (frM (eFn F__law_turned (aCons (frM (eVar 0)) (aCons (frM (eVar 1)) (aCons (frM (eVar 2)) aNil))))) (aCons (frM (eVar 1)) (aCons (frM (eVar 2)) aNil))))) aNil))))
def F__law_form : FnS := runF 1 3 [] g__law_form
/-! _law_kept -/
abbrev s__law_kept : Stmt := topS 20
theorem sc__law_kept : FnScope ["rule", "n", "total", "begin", "many", "turn", "nexts", "k", "c"] ["rule", "n"] (defScope s__law_kept) := ⟨rfl, rfl, rfl, by decide +kernel, rfl, by decide +kernel, by decide +kernel⟩
def g__law_kept : MS :=
    (sSeq (sSet 2 (eC (.int 0)))
    (sSeq (sFor (iRng rng1 (aCons (eC (.int 4)) aNil)) (tName 3) (sSeq (sSet 4 (pkM (eLc [7] (iRng rng1 (aCons (eC (.int 4)) aNil)) (tName 7) cYes (eCall intG (aCons (binS eqqD (eVar 7) (eVar 3)) aNil)))))
    (sSeq (sFor (iRng rng1 (aCons (eVar 1) aNil)) (tName 5) (sSeq (sSet 6 (eLst (aCons (eC (.int 0)) (aCons (eC (.int 0)) (aCons (eC (.int 0)) (aCons (eC (.int 0)) aNil))))))
    (sSeq (sFor (iRng rng1 (aCons (eC (.int 4)) aNil)) (tName 7) (sFor (iSeq (eTup (aCons (eC (.int 0)) (aCons (eC (.int 1)) aNil)))) (tName 8) (sIf (tB (binS eqqD (eFn F__law_new (aCons (frM (eVar 0)) (aCons (frM (binS shrD (eVar 7) (eC (.int 1)))) (aCons (frM (binS (bitD Builtin.bitAnd) (eVar 7) (eC (.int 1)))) (aCons (frM (eVar 8)) aNil))))) (binS (bitD Builtin.bitAnd) (eVar 7) (eC (.int 1))))) (sAugS iaddD (eVar 6) (eCall intG (aCons (binS addD (binS mulD (eC (.int 2)) (binS (bitD Builtin.bitAnd) (eVar 7) (eC (.int 1)))) (eVar 8)) aNil)) (binS ixA (eVar 4) (eVar 7))) sNil)))
    (sSet 4 (pkM (cpM (eVar 6)))))))
    (sAug 2 iaddD (binS ixA (eVar 4) (eVar 3))))))
    (sRet [] (frM (eVar 2)))))
def F__law_kept : FnS := runF 2 9 [] g__law_kept
/-! is_open -/
abbrev s_is_open : Stmt := topS 8
theorem sc_is_open : FnScope ["rule"] ["rule"] (defScope s_is_open) := ⟨rfl, rfl, rfl, by decide +kernel, rfl, by decide +kernel, by decide +kernel⟩
def g_is_open : MS :=
    (sRet [] (binS isXD (eFn F_lost_row (aCons (frM (eVar 0)) aNil)) (eC .none)))
def F_is_open : FnS := runF 1 1 [] g_is_open
/-! law -/
abbrev s_law : Stmt := topS 23
theorem sc_law : FnScope ["script", "w", "turn", "rule", "cells", "mirror", "over", "told", "image", "made", "one", "form", "orbit", "lost", "due", "n", "many", "rows", "k", "cell", "j", "row"] ["script"] (defScope s_law) := ⟨rfl, rfl, rfl, by decide +kernel, rfl, by decide +kernel, by decide +kernel⟩
def L_0 : MS := (sSet 1 (eDisp [((.inr ("draws" : Str) : Key), (eFn F__law_draws (aCons (frM (eVar 0)) (aCons (eC (.int 300)) aNil)))), ((.inr ("at" : Str) : Key), (eC (.int 0)))]))
def L_1_0 : MS := (sAsg (eTup (aCons (frM (eFn F__law_next (aCons (eVar 1) (aCons (eC (.int 256)) aNil)))) (aCons (frM (eFn F__law_cells (aCons (eVar 1) aNil))) aNil))) (tTupT [(tName 3), (tName 4)]))
def L_1_1 : MS := (sAsg (eTup (aCons (frM (eFn F__law_next (aCons (eVar 1) (aCons (eC (.int 2)) aNil)))) (aCons (frM (eFn F__law_next (aCons (eVar 1) (aCons (eC (.int 2)) aNil)))) aNil))) (tTupT [(tName 5), (tName 6)]))
def L_1_2 : MS := (sSet 7 (pkM (eFn F_rule_turned (aCons (frM (eVar 3)) (aCons (frM (eVar 5)) (aCons (frM (eVar 6)) aNil))))))
def L_1_3_0 : MS := (sRet [] (eC (.bool false)))
def L_1_3 : MS := (sIf (tOr' (tNo (tV (eFn F__law_is_number (aCons (frM (eVar 7)) aNil)))) (tB (binS neqD (eVar 7) (eFn F__law_turned (aCons (frM (eVar 3)) (aCons (frM (eVar 5)) (aCons (frM (eVar 6)) aNil))))))) L_1_3_0 sNil)
def L_1_4 : MS := (sSet 8 (pkM (eCall tupleG (aCons (eLc [19] (iSeq (eIf (tB (binS eqqD (eVar 5) (eC (.int 1)))) (frM (unS revD (eVar 4))) (frM (eVar 4)))) (tName 19) cYes (binS (bitD Builtin.bitXor) (eVar 19) (eVar 6))) aNil))))
def L_1_5 : MS := (sSet 9 (pkM (eFn F_ran (aCons (frM (eVar 3)) (aCons (frM (eVar 4)) aNil)))))
def L_1_6_0 : MS := (sRet [] (eC (.bool false)))
def L_1_6 : MS := (sIf (tOr' (tNo (tV (eFn F__law_is_numbers (aCons (frM (eVar 9)) aNil)))) (tB (binS neqD (eVar 9) (eFn F__law_ran (aCons (frM (eVar 3)) (aCons (frM (eVar 4)) aNil)))))) L_1_6_0 sNil)
def L_1_7_0 : MS := (sRet [] (eC (.bool false)))
def L_1_7 : MS := (sIf (tB (binS neqD (eFn F_ran (aCons (frM (eVar 7)) (aCons (frM (eVar 8)) aNil))) (eCall tupleG (aCons (eLc [19] (iSeq (eIf (tB (binS eqqD (eVar 5) (eC (.int 1)))) (frM (unS revD (eVar 9))) (frM (eVar 9)))) (tName 19) cYes (binS (bitD Builtin.bitXor) (eVar 19) (eVar 6))) aNil)))) L_1_7_0 sNil)
def L_1_8_0 : MS := (sSet 11 (pkM (eFn F_rule_form (aCons (frM (eVar 10)) aNil))))
def L_1_8_1_0 : MS := (sRet [] (eC (.bool false)))
def L_1_8_1 : MS := (sIf (tOr' (tNo (tV (eFn F__law_is_numbers (aCons (frM (eVar 11)) aNil)))) (tB (binS neqD (eVar 11) (eFn F__law_form (aCons (frM (eVar 10)) aNil))))) L_1_8_1_0 sNil)
def L_1_8 : MS := (sFor (iSeq (eTup (aCons (frM (eVar 3)) (aCons (frM (eVar 7)) aNil)))) (tName 10) (sSeq L_1_8_0
    L_1_8_1))
def L_1_9 : MS := (sSet 12 (pkM (eFn F_orbit_of (aCons (frM (eVar 3)) (aCons (frM (eVar 4)) aNil)))))
def L_1_10_0 : MS := (sRet [] (eC (.bool false)))
def L_1_10 : MS := (sIf (tOr' (tNo (tV (eFn F__law_is_numbers (aCons (frM (eVar 12)) aNil)))) (tB (binS neqD (eVar 12) (eFn F__law_orbit (aCons (frM (eVar 3)) (aCons (frM (eVar 4)) aNil)))))) L_1_10_0 sNil)
def L_1_11 : MS := (sPar 13 14 (aCons (frM (eFn F_lost_row (aCons (frM (eVar 3)) aNil))) (aCons (frM (eFn F__law_lost (aCons (frM (eVar 3)) aNil))) aNil)))
def L_1_12_0 : MS := (sRet [] (eC (.bool false)))
def L_1_12 : MS := (sIf (tOr' (tAn (tB (binS isXD (eVar 14) (eC .none))) (tOr' (tB (binS notXD (eVar 13) (eC .none))) (tB (binS notXD (eFn F_is_open (aCons (frM (eVar 3)) aNil)) (eC (.bool true)))))) (tAn (tB (binS notXD (eVar 14) (eC .none))) (tOr' (tNo (tV (eFn F__law_is_numbers (aCons (frM (eVar 13)) aNil)))) (tOr' (tB (binS neqD (eVar 13) (eVar 14))) (tB (binS notXD (eFn F_is_open (aCons (frM (eVar 3)) aNil)) (eC (.bool false)))))))) L_1_12_0 sNil)
def L_1_13_0 : MS := (sSet 16 (pkM (eFn F_count_kept (aCons (frM (eVar 3)) (aCons (frM (eVar 15)) aNil)))))
def L_1_13_1_0 : MS := (sRet [] (eC (.bool false)))
def L_1_13_1 : MS := (sIf (tOr' (tNo (tV (eFn F__law_is_number (aCons (frM (eVar 16)) aNil)))) (tB (binS neqD (eVar 16) (eFn F__law_kept (aCons (frM (eVar 3)) (aCons (frM (eVar 15)) aNil)))))) L_1_13_1_0 sNil)
def L_1_13 : MS := (sFor (iSeq (eTup (aCons (frM (binS addD (eC (.int 1)) (eFn F__law_next (aCons (eVar 1) (aCons (eC (.int 30)) aNil))))) (aCons (frM (binS addD (eC (.int 1)) (eFn F__law_next (aCons (eVar 1) (aCons (eC (.int 6)) aNil))))) aNil)))) (tName 15) (sSeq L_1_13_0
    L_1_13_1))
def L_1 : MS := (sFor (iRng rng1 (aCons (eC (.int 2)) aNil)) (tName 2) (sSeq L_1_0
    (sSeq L_1_1
    (sSeq L_1_2
    (sSeq L_1_3
    (sSeq L_1_4
    (sSeq L_1_5
    (sSeq L_1_6
    (sSeq L_1_7
    (sSeq L_1_8
    (sSeq L_1_9
    (sSeq L_1_10
    (sSeq L_1_11
    (sSeq L_1_12
    L_1_13))))))))))))))
def L_2 : MS := (sSet 15 (binS addD (eC (.int 1)) (eFn F__law_next (aCons (eVar 1) (aCons (eC (.int 5)) aNil)))))
def L_3 : MS := (sSet 17 (pkM (eLc [18] (iRng rng1 (aCons (binS shlD (eC (.int 1)) (eVar 15)) aNil)) (tName 18) cYes (eCall tupleG (aCons (eLc [20] (iRng rng1 (aCons (eVar 15) aNil)) (tName 20) cYes (binS (bitD Builtin.bitAnd) (binS shrD (eVar 18) (eVar 20)) (eC (.int 1)))) aNil)))))
def L_4_0 : MS := (sRet [] (eC (.bool false)))
def L_4 : MS := (sIf (tB (binS neqD (eFn F_count_kept (aCons (frM (eVar 3)) (aCons (frM (eVar 15)) aNil))) (eCall lenG (aCons (eLc [21] (iSeq (eVar 17)) (tName 21) (tB (binS eqqD (eFn F__law_ran (aCons (frM (eVar 3)) (aCons (frM (eVar 21)) aNil))) (eVar 21))) (eVar 21)) aNil)))) L_4_0 sNil)
def L_5_0 : MS := (sSet 7 (pkM (eFn F_all_rules aNil)))
def L_5_1_0 : MS := (sRet [] (eC (.bool false)))
def L_5_1 : MS := (sIf (tOr' (tNo (tV (eFn F__law_is_numbers (aCons (frM (eVar 7)) aNil)))) (tOr' (tB (binS neqD (eCall listG (aCons (eVar 7) aNil)) (eSset (eLc [10] (iRng rng1 (aCons (eC (.int 256)) aNil)) (tName 10) cYes (binS ixA (eFn F__law_form (aCons (frM (eVar 10)) aNil)) (eC (.int 0))))))) (tB (binS neqD (eCall lenG (aCons (eVar 7) aNil)) (eC (.int 88)))))) L_5_1_0 sNil)
def L_5 : MS := (sIf (tB (binS eqqD (eFn F__law_next (aCons (eVar 1) (aCons (eC (.int 5)) aNil))) (eC (.int 0)))) (sSeq L_5_0
    L_5_1) sNil)
def L_6 : MS := (sRet [] (eC (.bool true)))
def g_law : MS :=
    (sSeq L_0
    (sSeq L_1
    (sSeq L_2
    (sSeq L_3
    (sSeq L_4
    (sSeq L_5
    L_6))))))
def F_law : FnS := runF 1 22 [] g_law
section
variable {P : Program} {w : World} {K : PySem.W.Frag} {mg : Str → Option Value} {base : Heap}
theorem ok__law_draws (Z : Zs mg) (D : Dn K mg "_law_draws" s__law_draws ["script", "many"]) : Has P w K mg base 1 "_law_draws" ["script", "many"] F__law_draws :=
  fn_has D sc__law_draws [] g__law_draws fun cdv A outer s H E fA hr =>
    (ds_cons (ds_set (i := 2) sc__law_draws.nd rfl (by first | exact .inl rfl | exact .inr rfl) (by decide) (de_lst da_nil))
    (ds_cons (ds_set (i := 3) sc__law_draws.nd rfl (by first | exact .inl rfl | exact .inr rfl) (by decide) de_int)
    (ds_cons (ds_for PassesOwn.never rfl (di_range1 (by rfl) Z.range (da_cons (de_callB len_d (by rfl) Z.len (by rfl) (da_cons (de_var 0) da_nil)) da_nil)) (dg_name (i := 4) sc__law_draws.nd rfl (by first | exact .inl rfl | exact .inr rfl) (by decide)) (ds_cons (ds_set (i := 5) sc__law_draws.nd rfl (by first | exact .inl rfl | exact .inr rfl) (by decide) (de_callB abs_d (by rfl) Z.abs (by rfl) (da_cons (de_callTy int_d (by rfl) Z.int (by rfl) (da_cons (de_ix (ixA_d (u11 hr)) (de_var 0) (de_var 4)) da_nil)) da_nil)))
    (ds_cons (ds_set (i := 3) sc__law_draws.nd rfl (by first | exact .inl rfl | exact .inr rfl) (by decide) (de_bin mod_d (de_callTy int_d (by rfl) Z.int (by rfl) (da_cons (de_bin add_d (de_bin add_d (de_bin mul_d (de_var 3) de_int) (de_bin mod_d (de_var 5) de_int)) (de_var 4)) da_nil)) de_int))
    (ds_cons (ds_set (i := 6) sc__law_draws.nd rfl (by first | exact .inl rfl | exact .inr rfl) (by decide) de_int)
    (ds_cons (ds_if (dt_cmp ge_d (de_var 5) (de_bin pow_d de_int de_int)) (ds_one (ds_set (i := 6) sc__law_draws.nd rfl (by first | exact .inl rfl | exact .inr rfl) (by decide) (de_cp (de_var 5)))) (ds_cons (ds_expr (de_app (de_var 2) (da_cons (de_fr (de_bin mod_d (de_callTy int_d (by rfl) Z.int (by rfl) (da_cons (de_var 5) da_nil)) de_int)) da_nil)))
    (ds_one (ds_expr (de_app (de_var 2) (da_cons (de_fr (de_bin mod_d (de_bin mod_d (de_callTy int_d (by rfl) Z.int (by rfl) (da_cons (de_bin add_d (de_bin mul_d (de_var 3) de_int) de_int) da_nil)) de_int) de_int)) da_nil))))))
    (ds_one (ds_for PassesOwn.never rfl (di_range1 (by rfl) Z.range (da_cons de_int da_nil)) (dg_name (i := 7) sc__law_draws.nd rfl (by first | exact .inl rfl | exact .inr rfl) (by decide)) (ds_one (ds_if (dt_cmp gt_d (de_var 6) de_int) (ds_cons (ds_expr (de_app (de_var 2) (da_cons (de_fr (de_bin mod_d (de_callTy int_d (by rfl) Z.int (by rfl) (da_cons (de_var 6) da_nil)) de_int)) da_nil)))
    (ds_one (ds_set (i := 6) sc__law_draws.nd rfl (by first | exact .inl rfl | exact .inr rfl) (by decide) (de_bin div_d (de_var 6) de_int)))) ds_nil)))))))))
    (ds_cons (ds_for PassesOwn.never rfl (di_range1 (by rfl) Z.range (da_cons (de_var 1) da_nil)) (dg_name (i := 4) sc__law_draws.nd rfl (by first | exact .inl rfl | exact .inr rfl) (by decide)) (ds_cons (ds_set (i := 3) sc__law_draws.nd rfl (by first | exact .inl rfl | exact .inr rfl) (by decide) (de_bin mod_d (de_callTy int_d (by rfl) Z.int (by rfl) (da_cons (de_bin add_d (de_bin add_d (de_bin mul_d (de_var 3) de_int) (de_var 4)) de_int) da_nil)) de_int))
    (ds_one (ds_expr (de_app (de_var 2) (da_cons (de_fr (de_bin mod_d (de_callTy int_d (by rfl) Z.int (by rfl) (da_cons (de_var 3) da_nil)) de_int)) da_nil))))))
    (ds_one (ds_ret (de_cut (de_var 2) do_no (do_int (de_var 1)))))))))
theorem ok_rule_turned (Z : Zs mg) (D : Dn K mg "rule_turned" s_rule_turned ["rule", "mirror", "over"]) : Has P w K mg base 1 "rule_turned" ["rule", "mirror", "over"] F_rule_turned :=
  fn_has D sc_rule_turned [] g_rule_turned fun cdv A outer s H E fA hr =>
    (ds_cons (ds_set (i := 3) sc_rule_turned.nd rfl (by first | exact .inl rfl | exact .inr rfl) (by decide) de_int)
    (ds_cons (ds_for PassesOwn.never rfl (di_range1 (by rfl) Z.range (da_cons de_int da_nil)) (dg_name (i := 4) sc_rule_turned.nd rfl (by first | exact .inl rfl | exact .inr rfl) (by decide)) (ds_cons (ds_par3 (i := 5) (j := 6) (l := 7) rfl sc_rule_turned.nd rfl rfl rfl (by decide) (by decide) (by decide) (by decide) (by decide) (by decide) rfl rfl rfl (da_cons (de_fr (de_bin shr_d (de_var 4) de_int)) (da_cons (de_fr (de_bin and_d (de_bin shr_d (de_var 4) de_int) de_int)) (da_cons (de_fr (de_bin and_d (de_var 4) de_int)) da_nil))) (by rfl))
    (ds_cons (ds_if (dt_cmp (eq_d (u65 hr)) (de_var 1) de_int) (ds_one (ds_par (i := 5) (j := 7) rfl sc_rule_turned.nd rfl rfl (by decide) (by decide) (by decide) rfl rfl (da_cons (de_fr (de_var 7)) (da_cons (de_fr (de_var 5)) da_nil)) (by rfl))) ds_nil)
    (ds_cons (ds_if (dt_cmp (eq_d (u65 hr)) (de_var 2) de_int) (ds_one (ds_par3 (i := 5) (j := 6) (l := 7) rfl sc_rule_turned.nd rfl rfl rfl (by decide) (by decide) (by decide) (by decide) (by decide) (by decide) rfl rfl rfl (da_cons (de_fr (de_bin sub_d de_int (de_var 5))) (da_cons (de_fr (de_bin sub_d de_int (de_var 6))) (da_cons (de_fr (de_bin sub_d de_int (de_var 7))) da_nil))) (by rfl))) ds_nil)
    (ds_cons (ds_set (i := 8) sc_rule_turned.nd rfl (by first | exact .inl rfl | exact .inr rfl) (by decide) (de_bin and_d (de_bin shr_d (de_var 0) (de_bin add_d (de_bin add_d (de_bin mul_d de_int (de_var 5)) (de_bin mul_d de_int (de_var 6))) (de_var 7))) de_int))
    (ds_one (ds_aug (i := 3) sc_rule_turned.nd rfl (by first | exact .inl rfl | exact .inr rfl) (by decide) (de_bin shl_d (de_bin xor_d (de_var 8) (de_var 2)) (de_var 4)) ior_d)))))))
    (ds_one (ds_ret (de_fr (de_var 3))))))
theorem ok__new (Z : Zs mg) (D : Dn K mg "_new" s__new ["rule", "left", "middle", "right"]) : Has P w K mg base 1 "_new" ["rule", "left", "middle", "right"] F__new :=
  fn_has D sc__new [] g__new fun cdv A outer s H E fA hr =>
    (ds_one (ds_ret (de_bin and_d (de_bin shr_d (de_var 0) (de_bin add_d (de_bin add_d (de_bin mul_d de_int (de_var 1)) (de_bin mul_d de_int (de_var 2))) (de_var 3))) de_int)))
theorem ok_ran (Z : Zs mg) (D : Dn K mg "ran" s_ran ["rule", "cells"]) (h__new : Has P w K mg base 1 "_new" ["rule", "left", "middle", "right"] F__new) : Has P w K mg base 2 "ran" ["rule", "cells"] F_ran :=
  fn_has D sc_ran [] g_ran fun cdv A outer s H E fA hr =>
    (ds_cons (ds_set (i := 2) sc_ran.nd rfl (by first | exact .inl rfl | exact .inr rfl) (by decide) (de_pk (de_callB len_d (by rfl) Z.len (by rfl) (da_cons (de_var 1) da_nil))))
    (ds_one (ds_ret (de_fr (de_callTy tuple_d (by rfl) Z.tuple (by rfl) (da_cons (de_lc (own := [(("k" : Str), 3)]) rfl sc_ran.nd (di_range1 (by rfl) Z.range (da_cons (de_var 2) da_nil)) (blkOk_by (by rfl)) (fun _ _ _ _ _ => (dg_name (i := 3) sc_ran.nd rfl (by first | exact .inl rfl | exact .inr rfl) (by decide))) (fun _ _ _ _ _ => dp_nil) (fun _ _ _ _ _ => (de_call h__new hr (by first | omega | decide) (by rfl) (da_cons (de_fr (de_var 0)) (da_cons (de_fr (de_ix (ixA_d (u11 hr)) (de_var 1) (de_bin sub_d (de_var 3) de_int))) (da_cons (de_fr (de_ix (ixA_d (u11 hr)) (de_var 1) (de_var 3))) (da_cons (de_fr (de_ix (ixA_d (u11 hr)) (de_var 1) (de_bin mod_d (de_bin add_d (de_var 3) de_int) (de_var 2)))) da_nil)))) (aLen_cons (aLen_cons (aLen_cons (aLen_cons aLen_nil))))))) da_nil))))))
theorem ok_orbit_of (Z : Zs mg) (D : Dn K mg "orbit_of" s_orbit_of ["rule", "cells"]) (h_ran : Has P w K mg base 2 "ran" ["rule", "cells"] F_ran) : Has P w K mg base 3 "orbit_of" ["rule", "cells"] F_orbit_of :=
  fn_has D sc_orbit_of [] g_orbit_of fun cdv A outer s H E fA hr =>
    (ds_cons (ds_set (i := 2) sc_orbit_of.nd rfl (by first | exact .inl rfl | exact .inr rfl) (by decide) de_dnewN)
    (ds_cons (ds_set (i := 3) sc_orbit_of.nd rfl (by first | exact .inl rfl | exact .inr rfl) (by decide) de_int)
    (ds_cons (ds_while 1048576 PassesOwn.never (dt_cmp (ninA_d (u66 hr)) (de_var 1) (de_var 2)) (ds_cons (ds_asg (de_var 3) (dg_sub (u201 hr) (de_var 2) (de_var 1)))
    (ds_cons (ds_aug (i := 3) sc_orbit_of.nd rfl (by first | exact .inl rfl | exact .inr rfl) (by decide) de_int iadd_d)
    (ds_one (ds_set (i := 1) sc_orbit_of.nd rfl (by first | exact .inl rfl | exact .inr rfl) (by decide) (de_pk (de_call h_ran hr (by first | omega | decide) (by rfl) (da_cons (de_fr (de_var 0)) (da_cons (de_fr (de_var 1)) da_nil)) (aLen_cons (aLen_cons aLen_nil)))))))))
    (ds_one (ds_ret (de_tup (da_cons (de_fr (de_ix (ixA_d (u11 hr)) (de_var 2) (de_var 1))) (da_cons (de_fr (de_bin sub_d (de_var 3) (de_ix (ixA_d (u11 hr)) (de_var 2) (de_var 1)))) da_nil))))))))
theorem ok__law_next (Z : Zs mg) (D : Dn K mg "_law_next" s__law_next ["w", "many"]) : Has P w K mg base 1 "_law_next" ["w", "many"] F__law_next :=
  fn_has D sc__law_next [0] g__law_next fun cdv A outer s H E fA hr =>
    (ds_cons (ds_augS (u201 hr) (de_var 0) de_str de_int iadd_d)
    (ds_cons (ds_if (dt_cmp gt_d (de_ix (ixA_d (u11 hr)) (de_var 0) de_str) (de_callB len_d (by rfl) Z.len (by rfl) (da_cons (de_ix (ixA_d (u11 hr)) (de_var 0) de_str) da_nil))) (ds_one (ds_ret de_int)) ds_nil)
    (ds_one (ds_ret (de_bin mod_d (de_callTy int_d (by rfl) Z.int (by rfl) (da_cons (de_ix (ixA_d (u11 hr)) (de_ix (ixA_d (u11 hr)) (de_var 0) de_str) (de_bin sub_d (de_ix (ixA_d (u11 hr)) (de_var 0) de_str) de_int)) da_nil)) (de_var 1))))))
theorem ok_count_kept (Z : Zs mg) (D : Dn K mg "count_kept" s_count_kept ["rule", "n"]) (h__new : Has P w K mg base 1 "_new" ["rule", "left", "middle", "right"] F__new) : Has P w K mg base 2 "count_kept" ["rule", "n"] F_count_kept :=
  fn_has D sc_count_kept [] g_count_kept fun cdv A outer s H E fA hr =>
    (ds_cons (ds_setLc2P (i := 2) (own := [(("left" : Str), 8), (("middle" : Str), 9)]) (vs1 := [9]) rfl sc_count_kept.nd rfl rfl (by decide) (by rfl) (di_seq (de_tup (da_cons de_int (da_cons de_int da_nil)))) (blkOk_by (by rfl)) (fun _ _ _ _ _ => (dg_name (i := 8) sc_count_kept.nd rfl (by first | exact .inl rfl | exact .inr rfl) (by decide))) (fun _ _ _ _ _ => dp_nil) (fun _ _ _ _ _ => (di_seq (de_tup (da_cons de_int (da_cons de_int da_nil))))) (fun _ _ _ _ _ => (dg_name (i := 9) sc_count_kept.nd rfl (by first | exact .inl rfl | exact .inr rfl) (by decide))) (fun _ _ _ _ _ => dp_nil) (fun _ _ _ _ _ => (de_tup (da_cons (de_fr (de_var 8)) (da_cons (de_fr (de_var 9)) da_nil)))))
    (ds_cons (ds_set (i := 3) sc_count_kept.nd rfl (by first | exact .inl rfl | exact .inr rfl) (by decide) de_int)
    (ds_cons (ds_for PassesOwn.never rfl (di_seq (de_var 2)) (dg_name (i := 4) sc_count_kept.nd rfl (by first | exact .inl rfl | exact .inr rfl) (by decide)) (ds_cons (ds_set (i := 5) sc_count_kept.nd rfl (by first | exact .inl rfl | exact .inr rfl) (by decide) (de_fz (de_disp1 (u11 hr) (de_var 4) de_int)))
    (ds_cons (ds_for PassesOwn.never rfl (di_range1 (by rfl) Z.range (da_cons (de_var 1) da_nil)) (dg_name (i := 6) sc_count_kept.nd rfl (by first | exact .inl rfl | exact .inr rfl) (by decide)) (ds_cons (ds_set (i := 7) sc_count_kept.nd rfl (by first | exact .inl rfl | exact .inr rfl) (by decide) de_dnewN)
    (ds_cons (ds_for PassesOwn.never rfl (di_fd (de_var 5)) (dg_tup rfl (dgs_cons (dg_name (i := 8) sc_count_kept.nd rfl (by first | exact .inl rfl | exact .inr rfl) (by decide)) (dgs_cons (dg_name (i := 9) sc_count_kept.nd rfl (by first | exact .inl rfl | exact .inr rfl) (by decide)) dgs_nil))) (ds_one (ds_for PassesOwn.never rfl (di_seq (de_tup (da_cons de_int (da_cons de_int da_nil)))) (dg_name (i := 10) sc_count_kept.nd rfl (by first | exact .inl rfl | exact .inr rfl) (by decide)) (ds_one (ds_if (dt_cmp (eq_d (u65 hr)) (de_call h__new hr (by first | omega | decide) (by rfl) (da_cons (de_fr (de_var 0)) (da_cons (de_fr (de_var 8)) (da_cons (de_fr (de_var 9)) (da_cons (de_fr (de_var 10)) da_nil)))) (aLen_cons (aLen_cons (aLen_cons (aLen_cons aLen_nil))))) (de_var 9)) (ds_cons (ds_set (i := 11) sc_count_kept.nd rfl (by first | exact .inl rfl | exact .inr rfl) (by decide) (de_tup (da_cons (de_fr (de_var 9)) (da_cons (de_fr (de_var 10)) da_nil))))
    (ds_one (ds_asg (de_bin add_d (de_dgetA (u11 hr) (de_var 7) (de_var 11) de_int ⟨rfl, rfl, rfl, rfl⟩) (de_ix (ixA_d (u11 hr)) (de_var 5) (de_tup (da_cons (de_fr (de_var 8)) (da_cons (de_fr (de_var 9)) da_nil))))) (dg_sub (u201 hr) (de_var 7) (de_var 11))))) ds_nil)))))
    (ds_one (ds_set (i := 5) sc_count_kept.nd rfl (by first | exact .inl rfl | exact .inr rfl) (by decide) (de_fz (de_var 7)))))))
    (ds_one (ds_aug (i := 3) sc_count_kept.nd rfl (by first | exact .inl rfl | exact .inr rfl) (by decide) (de_dgetA (u11 hr) (de_var 5) (de_var 4) de_int ⟨rfl, rfl, rfl, rfl⟩) iadd_d)))))
    (ds_one (ds_ret (de_fr (de_var 3)))))))
theorem ok_rule_form (Z : Zs mg) (D : Dn K mg "rule_form" s_rule_form ["rule"]) (h_rule_turned : Has P w K mg base 1 "rule_turned" ["rule", "mirror", "over"] F_rule_turned) : Has P w K mg base 2 "rule_form" ["rule"] F_rule_form :=
  fn_has D sc_rule_form [] g_rule_form fun cdv A outer s H E fA hr =>
    (ds_one (ds_ret (de_fr (de_callB (min_d rfl hr.hd (u201 hr)) (by rfl) Z.min (by rfl) (da_cons (de_lc2 (own := [(("mirror" : Str), 1), (("over" : Str), 2)]) (vs1 := [2]) rfl sc_rule_form.nd (di_seq (de_tup (da_cons de_int (da_cons de_int da_nil)))) (blkOk_by (by rfl)) (fun _ _ _ _ _ => (dg_name (i := 1) sc_rule_form.nd rfl (by first | exact .inl rfl | exact .inr rfl) (by decide))) (fun _ _ _ _ _ => dp_nil) (fun _ _ _ _ _ => (di_seq (de_tup (da_cons de_int (da_cons de_int da_nil))))) (fun _ _ _ _ _ => (dg_name (i := 2) sc_rule_form.nd rfl (by first | exact .inl rfl | exact .inr rfl) (by decide))) (fun _ _ _ _ _ => dp_nil) (fun _ _ _ _ _ => (de_tup (da_cons (de_fr (de_call h_rule_turned hr (by first | omega | decide) (by rfl) (da_cons (de_fr (de_var 0)) (da_cons (de_fr (de_var 1)) (da_cons (de_fr (de_var 2)) da_nil))) (aLen_cons (aLen_cons (aLen_cons aLen_nil))))) (da_cons (de_fr (de_var 1)) (da_cons (de_fr (de_var 2)) da_nil)))))) da_nil)))))
theorem ok_all_rules (Z : Zs mg) (D : Dn K mg "all_rules" s_all_rules []) (h_rule_form : Has P w K mg base 2 "rule_form" ["rule"] F_rule_form) : Has P w K mg base 3 "all_rules" [] F_all_rules :=
  fn_has D sc_all_rules [] g_all_rules fun cdv A outer s H E fA hr =>
    (ds_one (ds_ret (de_fr (de_callTy tuple_d (by rfl) Z.tuple (by rfl) (da_cons (de_lc (own := [(("rule" : Str), 0)]) rfl sc_all_rules.nd (di_range1 (by rfl) Z.range (da_cons de_int da_nil)) (blkOk_by (by rfl)) (fun _ _ _ _ _ => (dg_name (i := 0) sc_all_rules.nd rfl (by first | exact .inl rfl | exact .inr rfl) (by decide))) (fun _ _ _ _ _ => (dp_one (dt_cmp (eq_d (u65 hr)) (de_ix (ixA_d (u11 hr)) (de_call h_rule_form hr (by first | omega | decide) (by rfl) (da_cons (de_fr (de_var 0)) da_nil) (aLen_cons aLen_nil)) de_int) (de_var 0)))) (fun _ _ _ _ _ => (de_var 0))) da_nil)))))
theorem ok__law_cells (Z : Zs mg) (D : Dn K mg "_law_cells" s__law_cells ["w"]) (h__law_next : Has P w K mg base 1 "_law_next" ["w", "many"] F__law_next) : Has P w K mg base 2 "_law_cells" ["w"] F__law_cells :=
  fn_has D sc__law_cells [0] g__law_cells fun cdv A outer s H E fA hr =>
    (ds_one (ds_ret (de_fr (de_callTy tuple_d (by rfl) Z.tuple (by rfl) (da_cons (de_lc (own := [(("k" : Str), 1)]) rfl sc__law_cells.nd (di_range1 (by rfl) Z.range (da_cons (de_bin add_d de_int (de_call h__law_next hr (by first | omega | decide) (by rfl) (da_cons (de_var 0) (da_cons de_int da_nil)) (aLen_cons (aLen_cons aLen_nil)))) da_nil)) (blkOk_by (by rfl)) (fun _ _ _ _ _ => (dg_name (i := 1) sc__law_cells.nd rfl (by first | exact .inl rfl | exact .inr rfl) (by decide))) (fun _ _ _ _ _ => dp_nil) (fun _ _ _ _ _ => (de_call h__law_next hr (by first | omega | decide) (by rfl) (da_cons (de_var 0) (da_cons de_int da_nil)) (aLen_cons (aLen_cons aLen_nil))))) da_nil)))))
theorem ok_lost_row (Z : Zs mg) (D : Dn K mg "lost_row" s_lost_row ["rule"]) (h__new : Has P w K mg base 1 "_new" ["rule", "left", "middle", "right"] F__new) : Has P w K mg base 2 "lost_row" ["rule"] F_lost_row :=
  fn_has D sc_lost_row [] g_lost_row fun cdv A outer s H E fA hr =>
    (ds_cons (ds_set (i := 1) sc_lost_row.nd rfl (by first | exact .inl rfl | exact .inr rfl) (by decide) (de_pk (de_callTy tuple_d (by rfl) Z.tuple (by rfl) (da_cons (de_lc2 (own := [(("left" : Str), 7), (("middle" : Str), 8)]) (vs1 := [8]) rfl sc_lost_row.nd (di_seq (de_tup (da_cons de_int (da_cons de_int da_nil)))) (blkOk_by (by rfl)) (fun _ _ _ _ _ => (dg_name (i := 7) sc_lost_row.nd rfl (by first | exact .inl rfl | exact .inr rfl) (by decide))) (fun _ _ _ _ _ => dp_nil) (fun _ _ _ _ _ => (di_seq (de_tup (da_cons de_int (da_cons de_int da_nil))))) (fun _ _ _ _ _ => (dg_name (i := 8) sc_lost_row.nd rfl (by first | exact .inl rfl | exact .inr rfl) (by decide))) (fun _ _ _ _ _ => dp_nil) (fun _ _ _ _ _ => (de_tup (da_cons (de_fr (de_var 7)) (da_cons (de_fr (de_var 8)) da_nil))))) da_nil))))
    (ds_cons (ds_set (i := 2) sc_lost_row.nd rfl (by first | exact .inl rfl | exact .inr rfl) (by decide) (de_disp1 (u11 hr) (de_var 1) (de_tup da_nil)))
    (ds_cons (ds_set (i := 3) sc_lost_row.nd rfl (by first | exact .inl rfl | exact .inr rfl) (by decide) (de_lst (da_cons (de_fr (de_var 1)) da_nil)))
    (ds_cons (ds_set (i := 4) sc_lost_row.nd rfl (by first | exact .inl rfl | exact .inr rfl) (by decide) de_int)
    (ds_cons (ds_while 1048576 PassesOwn.never (dt_cmp lt_d (de_var 4) (de_callB len_d (by rfl) Z.len (by rfl) (da_cons (de_var 3) da_nil))) (ds_cons (ds_for PassesOwn.never rfl (di_seq (de_tup (da_cons de_int (da_cons de_int da_nil)))) (dg_name (i := 5) sc_lost_row.nd rfl (by first | exact .inl rfl | exact .inr rfl) (by decide)) (ds_cons (ds_set (i := 6) sc_lost_row.nd rfl (by first | exact .inl rfl | exact .inr rfl) (by decide) de_dnewN)
    (ds_cons (ds_for PassesOwn.never rfl (di_seq (de_ix (ixA_d (u11 hr)) (de_var 3) (de_var 4))) (dg_tup rfl (dgs_cons (dg_name (i := 7) sc_lost_row.nd rfl (by first | exact .inl rfl | exact .inr rfl) (by decide)) (dgs_cons (dg_name (i := 8) sc_lost_row.nd rfl (by first | exact .inl rfl | exact .inr rfl) (by decide)) dgs_nil))) (ds_one (ds_for PassesOwn.never rfl (di_seq (de_tup (da_cons de_int (da_cons de_int da_nil)))) (dg_name (i := 9) sc_lost_row.nd rfl (by first | exact .inl rfl | exact .inr rfl) (by decide)) (ds_one (ds_if (dt_cmp (eq_d (u65 hr)) (de_call h__new hr (by first | omega | decide) (by rfl) (da_cons (de_fr (de_var 0)) (da_cons (de_fr (de_var 7)) (da_cons (de_fr (de_var 8)) (da_cons (de_fr (de_var 9)) da_nil)))) (aLen_cons (aLen_cons (aLen_cons (aLen_cons aLen_nil))))) (de_var 5)) (ds_one (ds_asg de_bl (dg_sub (u201 hr) (de_var 6) (de_tup (da_cons (de_fr (de_var 8)) (da_cons (de_fr (de_var 9)) da_nil)))))) ds_nil)))))
    (ds_cons (ds_set (i := 10) sc_lost_row.nd rfl (by first | exact .inl rfl | exact .inr rfl) (by decide) (de_pk (de_callTy tuple_d (by rfl) Z.tuple (by rfl) (da_cons (de_callB (sortA_d (u201 hr) rfl) (by rfl) Z.sorted (by rfl) (da_cons (de_var 6) da_nil)) da_nil))))
    (ds_cons (ds_if (dt_cmp (ninA_d (u66 hr)) (de_var 10) (de_var 2)) (ds_cons (ds_asg (de_bin add_d (de_ix (ixA_d (u11 hr)) (de_var 2) (de_ix (ixA_d (u11 hr)) (de_var 3) (de_var 4))) (de_tup (da_cons (de_fr (de_var 5)) da_nil))) (dg_sub (u201 hr) (de_var 2) (de_var 10)))
    (ds_one (ds_expr (de_app (de_var 3) (da_cons (de_fr (de_var 10)) da_nil))))) ds_nil)
    (ds_one (ds_if (dt_not (dt_truth (de_var 10))) (ds_one (ds_ret (de_fr (de_ix (ixA_d (u11 hr)) (de_var 2) (de_var 10))))) ds_nil)))))))
    (ds_one (ds_aug (i := 4) sc_lost_row.nd rfl (by first | exact .inl rfl | exact .inr rfl) (by decide) de_int iadd_d))))
    (ds_one (ds_ret de_non)))))))
theorem ok__law_new (Z : Zs mg) (D : Dn K mg "_law_new" s__law_new ["rule", "left", "middle", "right"]) : Has P w K mg base 1 "_law_new" ["rule", "left", "middle", "right"] F__law_new :=
  fn_has D sc__law_new [] g__law_new fun cdv A outer s H E fA hr =>
    (ds_one (ds_ret (de_bin and_d (de_bin shr_d (de_var 0) (de_bin add_d (de_bin add_d (de_bin mul_d de_int (de_var 1)) (de_bin mul_d de_int (de_var 2))) (de_var 3))) de_int)))
theorem ok__law_lost (Z : Zs mg) (D : Dn K mg "_law_lost" s__law_lost ["rule"]) (h__law_new : Has P w K mg base 1 "_law_new" ["rule", "left", "middle", "right"] F__law_new) : Has P w K mg base 2 "_law_lost" ["rule"] F__law_lost :=
  fn_has D sc__law_lost [] g__law_lost fun cdv A outer s H E fA hr =>
    (ds_cons (ds_par (i := 1) (j := 2) rfl sc__law_lost.nd rfl rfl (by decide) (by decide) (by decide) rfl rfl (da_cons (de_fr (de_lst (da_cons (de_tup (da_cons (de_tup da_nil) (da_cons (de_tup (da_cons (de_tup (da_cons de_int (da_cons de_int da_nil))) (da_cons (de_tup (da_cons de_int (da_cons de_int da_nil))) (da_cons (de_tup (da_cons de_int (da_cons de_int da_nil))) (da_cons (de_tup (da_cons de_int (da_cons de_int da_nil))) da_nil))))) da_nil))) da_nil))) (da_cons de_dnewN da_nil)) (by rfl))
    (ds_cons (ds_for PassesOwn.never rfl (di_range1 (by rfl) Z.range (da_cons de_int da_nil)) (dg_name (i := 3) sc__law_lost.nd rfl (by first | exact .inl rfl | exact .inr rfl) (by decide)) (ds_cons (ds_set (i := 4) sc__law_lost.nd rfl (by first | exact .inl rfl | exact .inr rfl) (by decide) (de_lst da_nil))
    (ds_cons (ds_for PassesOwn.never rfl (di_seq (de_var 1)) (dg_tup rfl (dgs_cons (dg_name (i := 5) sc__law_lost.nd rfl (by first | exact .inl rfl | exact .inr rfl) (by decide)) (dgs_cons (dg_name (i := 6) sc__law_lost.nd rfl (by first | exact .inl rfl | exact .inr rfl) (by decide)) dgs_nil))) (ds_one (ds_for PassesOwn.never rfl (di_seq (de_tup (da_cons de_int (da_cons de_int da_nil)))) (dg_name (i := 7) sc__law_lost.nd rfl (by first | exact .inl rfl | exact .inr rfl) (by decide)) (ds_cons (ds_set (i := 8) sc__law_lost.nd rfl (by first | exact .inl rfl | exact .inr rfl) (by decide) (de_pk (de_lst da_nil)))
    (ds_cons (ds_for PassesOwn.never rfl (di_seq (de_var 6)) (dg_tup rfl (dgs_cons (dg_name (i := 9) sc__law_lost.nd rfl (by first | exact .inl rfl | exact .inr rfl) (by decide)) (dgs_cons (dg_name (i := 10) sc__law_lost.nd rfl (by first | exact .inl rfl | exact .inr rfl) (by decide)) dgs_nil))) (ds_one (ds_set (i := 8) sc__law_lost.nd rfl (by first | exact .inl rfl | exact .inr rfl) (by decide) (de_pk (de_bin add_d (de_var 8) (de_lc (own := [(("c" : Str), 11)]) rfl sc__law_lost.nd (di_seq (de_tup (da_cons de_int (da_cons de_int da_nil)))) (blkOk_by (by rfl)) (fun _ _ _ _ _ => (dg_name (i := 11) sc__law_lost.nd rfl (by first | exact .inl rfl | exact .inr rfl) (by decide))) (fun _ _ _ _ _ => (dp_one (dt_cmp (eq_d (u65 hr)) (de_call h__law_new hr (by first | omega | decide) (by rfl) (da_cons (de_fr (de_var 0)) (da_cons (de_fr (de_var 9)) (da_cons (de_fr (de_var 10)) (da_cons (de_fr (de_var 11)) da_nil)))) (aLen_cons (aLen_cons (aLen_cons (aLen_cons aLen_nil))))) (de_var 7)))) (fun _ _ _ _ _ => (de_tup (da_cons (de_fr (de_var 10)) (da_cons (de_fr (de_var 11)) da_nil))))))))))
    (ds_cons (ds_set (i := 8) sc__law_lost.nd rfl (by first | exact .inl rfl | exact .inr rfl) (by decide) (de_pk (de_callTy tuple_d (by rfl) Z.tuple (by rfl) (da_cons (de_sset (u201 hr) rfl (by rfl) Z.sorted (by rfl) Z.set (de_var 8)) da_nil))))
    (ds_cons (ds_if (dt_cmp (eq_d (u65 hr)) (de_var 8) (de_tup da_nil)) (ds_one (ds_ret (de_fr (de_bin add_d (de_var 5) (de_tup (da_cons (de_fr (de_var 7)) da_nil)))))) ds_nil)
    (ds_one (ds_if (dt_cmp (ninA_d (u66 hr)) (de_var 8) (de_var 2)) (ds_cons (ds_asg de_bl (dg_sub (u201 hr) (de_var 2) (de_var 8)))
    (ds_one (ds_expr (de_app (de_var 4) (da_cons (de_tup (da_cons (de_fr (de_bin add_d (de_var 5) (de_tup (da_cons (de_fr (de_var 7)) da_nil)))) (da_cons (de_fr (de_var 8)) da_nil))) da_nil))))) ds_nil)))))))))
    (ds_one (ds_set (i := 1) sc__law_lost.nd rfl (by first | exact .inl rfl | exact .inr rfl) (by decide) (de_pk (de_cp (de_var 4))))))))
    (ds_one (ds_ret de_non))))
theorem ok__law_is_number (Z : Zs mg) (D : Dn K mg "_law_is_number" s__law_is_number ["thing"]) : Has P w K mg base 1 "_law_is_number" ["thing"] F__law_is_number :=
  fn_has D sc__law_is_number [] g__law_is_number fun cdv A outer s H E fA hr =>
    (ds_one (ds_ret (de_fr (de_and (de_isi (T := "int") (by decide) (by rfl) Z.isinstance (by rfl) Z.int (by rfl) (de_var 0)) (de_one (de_not (de_isi (T := "bool") (by decide) (by rfl) Z.isinstance (by rfl) Z.bool (by rfl) (de_var 0))))))))
theorem ok__law_turned (Z : Zs mg) (D : Dn K mg "_law_turned" s__law_turned ["rule", "mirror", "over"]) (h__law_new : Has P w K mg base 1 "_law_new" ["rule", "left", "middle", "right"] F__law_new) : Has P w K mg base 2 "_law_turned" ["rule", "mirror", "over"] F__law_turned :=
  fn_has D sc__law_turned [] g__law_turned fun cdv A outer s H E fA hr =>
    (ds_cons (ds_set (i := 3) sc__law_turned.nd rfl (by first | exact .inl rfl | exact .inr rfl) (by decide) de_int)
    (ds_cons (ds_for PassesOwn.never rfl (di_range1 (by rfl) Z.range (da_cons de_int da_nil)) (dg_name (i := 4) sc__law_turned.nd rfl (by first | exact .inl rfl | exact .inr rfl) (by decide)) (ds_cons (ds_par3 (i := 5) (j := 6) (l := 7) rfl sc__law_turned.nd rfl rfl rfl (by decide) (by decide) (by decide) (by decide) (by decide) (by decide) rfl rfl rfl (da_cons (de_fr (de_bin and_d (de_bin shr_d (de_var 4) de_int) de_int)) (da_cons (de_fr (de_bin and_d (de_bin shr_d (de_var 4) de_int) de_int)) (da_cons (de_fr (de_bin and_d (de_var 4) de_int)) da_nil))) (by rfl))
    (ds_cons (ds_if (dt_cmp (eq_d (u65 hr)) (de_var 1) de_int) (ds_one (ds_par (i := 5) (j := 7) rfl sc__law_turned.nd rfl rfl (by decide) (by decide) (by decide) rfl rfl (da_cons (de_fr (de_var 7)) (da_cons (de_fr (de_var 5)) da_nil)) (by rfl))) ds_nil)
    (ds_one (ds_aug (i := 3) sc__law_turned.nd rfl (by first | exact .inl rfl | exact .inr rfl) (by decide) (de_bin shl_d (de_bin xor_d (de_call h__law_new hr (by first | omega | decide) (by rfl) (da_cons (de_fr (de_var 0)) (da_cons (de_fr (de_bin xor_d (de_var 5) (de_var 2))) (da_cons (de_fr (de_bin xor_d (de_var 6) (de_var 2))) (da_cons (de_fr (de_bin xor_d (de_var 7) (de_var 2))) da_nil)))) (aLen_cons (aLen_cons (aLen_cons (aLen_cons aLen_nil))))) (de_var 2)) (de_var 4)) iadd_d)))))
    (ds_one (ds_ret (de_fr (de_var 3))))))
theorem ok__law_is_numbers (Z : Zs mg) (D : Dn K mg "_law_is_numbers" s__law_is_numbers ["thing"]) (h__law_is_number : Has P w K mg base 1 "_law_is_number" ["thing"] F__law_is_number) : Has P w K mg base 2 "_law_is_numbers" ["thing"] F__law_is_numbers :=
  fn_has D sc__law_is_numbers [] g__law_is_numbers fun cdv A outer s H E fA hr =>
    (ds_one (ds_ret (de_fr (de_and (de_isi (T := "tuple") (by decide) (by rfl) Z.isinstance (by rfl) Z.tuple (by rfl) (de_var 0)) (de_one (de_cmp (eq_d (u65 hr)) (de_lc (own := [(("n" : Str), 1)]) rfl sc__law_is_numbers.nd (di_seq (de_var 0)) (blkOk_by (by rfl)) (fun _ _ _ _ _ => (dg_name (i := 1) sc__law_is_numbers.nd rfl (by first | exact .inl rfl | exact .inr rfl) (by decide))) (fun _ _ _ _ _ => (dp_one (dt_not (dt_truth (de_call h__law_is_number hr (by first | omega | decide) (by rfl) (da_cons (de_fr (de_var 1)) da_nil) (aLen_cons aLen_nil)))))) (fun _ _ _ _ _ => (de_var 1))) (de_lst da_nil)))))))
theorem ok__law_ran (Z : Zs mg) (D : Dn K mg "_law_ran" s__law_ran ["rule", "cells"]) (h__law_new : Has P w K mg base 1 "_law_new" ["rule", "left", "middle", "right"] F__law_new) : Has P w K mg base 2 "_law_ran" ["rule", "cells"] F__law_ran :=
  fn_has D sc__law_ran [] g__law_ran fun cdv A outer s H E fA hr =>
    (ds_one (ds_ret (de_fr (de_callTy tuple_d (by rfl) Z.tuple (by rfl) (da_cons (de_lc (own := [(("k" : Str), 2)]) rfl sc__law_ran.nd (di_range1 (by rfl) Z.range (da_cons (de_callB len_d (by rfl) Z.len (by rfl) (da_cons (de_var 1) da_nil)) da_nil)) (blkOk_by (by rfl)) (fun _ _ _ _ _ => (dg_name (i := 2) sc__law_ran.nd rfl (by first | exact .inl rfl | exact .inr rfl) (by decide))) (fun _ _ _ _ _ => dp_nil) (fun _ _ _ _ _ => (de_call h__law_new hr (by first | omega | decide) (by rfl) (da_cons (de_fr (de_var 0)) (da_cons (de_fr (de_ix (ixA_d (u11 hr)) (de_var 1) (de_bin sub_d (de_var 2) de_int))) (da_cons (de_fr (de_ix (ixA_d (u11 hr)) (de_var 1) (de_var 2))) (da_cons (de_fr (de_ix (ixA_d (u11 hr)) (de_var 1) (de_bin mod_d (de_callTy int_d (by rfl) Z.int (by rfl) (da_cons (de_bin add_d (de_var 2) de_int) da_nil)) (de_callB len_d (by rfl) Z.len (by rfl) (da_cons (de_var 1) da_nil))))) da_nil)))) (aLen_cons (aLen_cons (aLen_cons (aLen_cons aLen_nil))))))) da_nil)))))
theorem ok__law_orbit (Z : Zs mg) (D : Dn K mg "_law_orbit" s__law_orbit ["rule", "cells"]) (h__law_ran : Has P w K mg base 2 "_law_ran" ["rule", "cells"] F__law_ran) : Has P w K mg base 3 "_law_orbit" ["rule", "cells"] F__law_orbit :=
  fn_has D sc__law_orbit [] g__law_orbit fun cdv A outer s H E fA hr =>
    (ds_cons (ds_par (i := 2) (j := 3) rfl sc__law_orbit.nd rfl rfl (by decide) (by decide) (by decide) rfl rfl (da_cons de_dnewN (da_cons (de_fr de_int) da_nil)) (by rfl))
    (ds_cons (ds_for PassesOwn.never rfl (di_range1 (by rfl) Z.range (da_cons de_int da_nil)) (dg_name (i := 4) sc__law_orbit.nd rfl (by first | exact .inl rfl | exact .inr rfl) (by decide)) (ds_cons (ds_if (dt_cmp (inA_d (u66 hr)) (de_var 1) (de_var 2)) (ds_one ds_break) ds_nil)
    (ds_cons (ds_asg (de_var 4) (dg_sub (u201 hr) (de_var 2) (de_var 1)))
    (ds_cons (ds_set (i := 1) sc__law_orbit.nd rfl (by first | exact .inl rfl | exact .inr rfl) (by decide) (de_pk (de_call h__law_ran hr (by first | omega | decide) (by rfl) (da_cons (de_fr (de_var 0)) (da_cons (de_fr (de_var 1)) da_nil)) (aLen_cons (aLen_cons aLen_nil)))))
    (ds_one (ds_set (i := 3) sc__law_orbit.nd rfl (by first | exact .inl rfl | exact .inr rfl) (by decide) (de_bin add_d (de_var 4) de_int)))))))
    (ds_one (ds_ret (de_tup (da_cons (de_fr (de_ix (ixA_d (u11 hr)) (de_var 2) (de_var 1))) (da_cons (de_fr (de_bin sub_d (de_var 3) (de_ix (ixA_d (u11 hr)) (de_var 2) (de_var 1)))) da_nil)))))))
theorem ok__law_form (Z : Zs mg) (D : Dn K mg "_law_form" s__law_form ["rule"]) (h__law_turned : Has P w K mg base 2 "_law_turned" ["rule", "mirror", "over"] F__law_turned) : Has P w K mg base 3 "_law_form" ["rule"] F__law_form :=
  fn_has D sc__law_form [] g__law_form fun cdv A outer s H E fA hr =>
    (ds_one (ds_ret (de_fr (de_callB (min_d rfl hr.hd (u201 hr)) (by rfl) Z.min (by rfl) (da_cons (de_lc (own := [(("mirror" : Str), 1), (("over" : Str), 2)]) rfl sc__law_form.nd (di_seq (de_tup (da_cons (de_tup (da_cons de_int (da_cons de_int da_nil))) (da_cons (de_tup (da_cons de_int (da_cons de_int da_nil))) (da_cons (de_tup (da_cons de_int (da_cons de_int da_nil))) (da_cons (de_tup (da_cons de_int (da_cons de_int da_nil))) da_nil)))))) (blkOk_by (by rfl)) (fun _ _ _ _ _ => (dg_tup rfl (dgs_cons (dg_name (i := 1) sc__law_form.nd rfl (by first | exact .inl rfl | exact .inr rfl) (by decide)) (dgs_cons (dg_name (i := 2) sc__law_form.nd rfl (by first | exact .inl rfl | exact .inr rfl) (by decide)) dgs_nil)))) (fun _ _ _ _ _ => dp_nil) (fun _ _ _ _ _ => (de_tup (da_cons (de_fr (de_call h__law_turned hr (by first | omega | decide) (by rfl) (da_cons (de_fr (de_var 0)) (da_cons (de_fr (de_var 1)) (da_cons (de_fr (de_var 2)) da_nil))) (aLen_cons (aLen_cons (aLen_cons aLen_nil))))) (da_cons (de_fr (de_var 1)) (da_cons (de_fr (de_var 2)) da_nil)))))) da_nil)))))
theorem ok__law_kept (Z : Zs mg) (D : Dn K mg "_law_kept" s__law_kept ["rule", "n"]) (h__law_new : Has P w K mg base 1 "_law_new" ["rule", "left", "middle", "right"] F__law_new) : Has P w K mg base 2 "_law_kept" ["rule", "n"] F__law_kept :=
  fn_has D sc__law_kept [] g__law_kept fun cdv A outer s H E fA hr =>
    (ds_cons (ds_set (i := 2) sc__law_kept.nd rfl (by first | exact .inl rfl | exact .inr rfl) (by decide) de_int)
    (ds_cons (ds_for PassesOwn.never rfl (di_range1 (by rfl) Z.range (da_cons de_int da_nil)) (dg_name (i := 3) sc__law_kept.nd rfl (by first | exact .inl rfl | exact .inr rfl) (by decide)) (ds_cons (ds_setLcP (i := 4) (own := [(("k" : Str), 7)]) rfl sc__law_kept.nd rfl rfl (by decide) (by rfl) (di_range1 (by rfl) Z.range (da_cons de_int da_nil)) (blkOk_by (by rfl)) (fun _ _ _ _ _ => (dg_name (i := 7) sc__law_kept.nd rfl (by first | exact .inl rfl | exact .inr rfl) (by decide))) (fun _ _ _ _ _ => dp_nil) (fun _ _ _ _ _ => (de_callTy int_d (by rfl) Z.int (by rfl) (da_cons (de_cmp (eq_d (u65 hr)) (de_var 7) (de_var 3)) da_nil))))
    (ds_cons (ds_for PassesOwn.never rfl (di_range1 (by rfl) Z.range (da_cons (de_var 1) da_nil)) (dg_name (i := 5) sc__law_kept.nd rfl (by first | exact .inl rfl | exact .inr rfl) (by decide)) (ds_cons (ds_set (i := 6) sc__law_kept.nd rfl (by first | exact .inl rfl | exact .inr rfl) (by decide) (de_lst (da_cons de_int (da_cons de_int (da_cons de_int (da_cons de_int da_nil))))))
    (ds_cons (ds_for PassesOwn.never rfl (di_range1 (by rfl) Z.range (da_cons de_int da_nil)) (dg_name (i := 7) sc__law_kept.nd rfl (by first | exact .inl rfl | exact .inr rfl) (by decide)) (ds_one (ds_for PassesOwn.never rfl (di_seq (de_tup (da_cons de_int (da_cons de_int da_nil)))) (dg_name (i := 8) sc__law_kept.nd rfl (by first | exact .inl rfl | exact .inr rfl) (by decide)) (ds_one (ds_if (dt_cmp (eq_d (u65 hr)) (de_call h__law_new hr (by first | omega | decide) (by rfl) (da_cons (de_fr (de_var 0)) (da_cons (de_fr (de_bin shr_d (de_var 7) de_int)) (da_cons (de_fr (de_bin and_d (de_var 7) de_int)) (da_cons (de_fr (de_var 8)) da_nil)))) (aLen_cons (aLen_cons (aLen_cons (aLen_cons aLen_nil))))) (de_bin and_d (de_var 7) de_int)) (ds_one (ds_augS (u201 hr) (de_var 6) (de_callTy int_d (by rfl) Z.int (by rfl) (da_cons (de_bin add_d (de_bin mul_d de_int (de_bin and_d (de_var 7) de_int)) (de_var 8)) da_nil)) (de_ix (ixA_d (u11 hr)) (de_var 4) (de_var 7)) iadd_d)) ds_nil)))))
    (ds_one (ds_set (i := 4) sc__law_kept.nd rfl (by first | exact .inl rfl | exact .inr rfl) (by decide) (de_pk (de_cp (de_var 6))))))))
    (ds_one (ds_aug (i := 2) sc__law_kept.nd rfl (by first | exact .inl rfl | exact .inr rfl) (by decide) (de_ix (ixA_d (u11 hr)) (de_var 4) (de_var 3)) iadd_d)))))
    (ds_one (ds_ret (de_fr (de_var 2))))))
theorem ok_is_open (Z : Zs mg) (D : Dn K mg "is_open" s_is_open ["rule"]) (h_lost_row : Has P w K mg base 2 "lost_row" ["rule"] F_lost_row) : Has P w K mg base 3 "is_open" ["rule"] F_is_open :=
  fn_has D sc_is_open [] g_is_open fun cdv A outer s H E fA hr =>
    (ds_one (ds_ret (de_cmp is_x (de_call h_lost_row hr (by first | omega | decide) (by rfl) (da_cons (de_fr (de_var 0)) da_nil) (aLen_cons aLen_nil)) de_non)))
theorem ok_law (Z : Zs mg) {fL : Addr} {fdL : FuncData} (D : FunD K "law" "law" (defArgs s_law) (defBody s_law) (defScope s_law) [] [] fL fdL) (h__law_cells : Has P w K mg base 2 "_law_cells" ["w"] F__law_cells) (h__law_draws : Has P w K mg base 1 "_law_draws" ["script", "many"] F__law_draws) (h__law_form : Has P w K mg base 3 "_law_form" ["rule"] F__law_form) (h__law_is_number : Has P w K mg base 1 "_law_is_number" ["thing"] F__law_is_number) (h__law_is_numbers : Has P w K mg base 2 "_law_is_numbers" ["thing"] F__law_is_numbers) (h__law_kept : Has P w K mg base 2 "_law_kept" ["rule", "n"] F__law_kept) (h__law_lost : Has P w K mg base 2 "_law_lost" ["rule"] F__law_lost) (h__law_next : Has P w K mg base 1 "_law_next" ["w", "many"] F__law_next) (h__law_orbit : Has P w K mg base 3 "_law_orbit" ["rule", "cells"] F__law_orbit) (h__law_ran : Has P w K mg base 2 "_law_ran" ["rule", "cells"] F__law_ran) (h__law_turned : Has P w K mg base 2 "_law_turned" ["rule", "mirror", "over"] F__law_turned) (h_all_rules : Has P w K mg base 3 "all_rules" [] F_all_rules) (h_count_kept : Has P w K mg base 2 "count_kept" ["rule", "n"] F_count_kept) (h_is_open : Has P w K mg base 3 "is_open" ["rule"] F_is_open) (h_lost_row : Has P w K mg base 2 "lost_row" ["rule"] F_lost_row) (h_orbit_of : Has P w K mg base 3 "orbit_of" ["rule", "cells"] F_orbit_of) (h_ran : Has P w K mg base 2 "ran" ["rule", "cells"] F_ran) (h_rule_form : Has P w K mg base 2 "rule_form" ["rule"] F_rule_form) (h_rule_turned : Has P w K mg base 1 "rule_turned" ["rule", "mirror", "over"] F_rule_turned) : FnOk P w K mg base CX0 4 fL fdL ["script"] (spD K 1 F_law) :=
  fn_d (fun_ofD D) sc_law [] g_law (by decide) fun cdv A outer s H E hr =>
    (ds_cons (ds_set (i := 1) sc_law.nd rfl (by first | exact .inl rfl | exact .inr rfl) (by decide) (de_disp (.cons pe_str (de_call h__law_draws hr (by first | omega | decide) (by rfl) (da_cons (de_fr (de_var 0)) (da_cons de_int da_nil)) (aLen_cons (aLen_cons aLen_nil))) (.cons pe_str de_int .nil))))
    (ds_cons (ds_for PassesOwn.never rfl (di_range1 (by rfl) Z.range (da_cons de_int da_nil)) (dg_name (i := 2) sc_law.nd rfl (by first | exact .inl rfl | exact .inr rfl) (by decide)) (ds_cons (ds_asg (de_tup (da_cons (de_fr (de_call h__law_next hr (by first | omega | decide) (by rfl) (da_cons (de_var 1) (da_cons de_int da_nil)) (aLen_cons (aLen_cons aLen_nil)))) (da_cons (de_fr (de_call h__law_cells hr (by first | omega | decide) (by rfl) (da_cons (de_var 1) da_nil) (aLen_cons aLen_nil))) da_nil))) (dg_tup rfl (dgs_cons (dg_name (i := 3) sc_law.nd rfl (by first | exact .inl rfl | exact .inr rfl) (by decide)) (dgs_cons (dg_name (i := 4) sc_law.nd rfl (by first | exact .inl rfl | exact .inr rfl) (by decide)) dgs_nil))))
    (ds_cons (ds_asg (de_tup (da_cons (de_fr (de_call h__law_next hr (by first | omega | decide) (by rfl) (da_cons (de_var 1) (da_cons de_int da_nil)) (aLen_cons (aLen_cons aLen_nil)))) (da_cons (de_fr (de_call h__law_next hr (by first | omega | decide) (by rfl) (da_cons (de_var 1) (da_cons de_int da_nil)) (aLen_cons (aLen_cons aLen_nil)))) da_nil))) (dg_tup rfl (dgs_cons (dg_name (i := 5) sc_law.nd rfl (by first | exact .inl rfl | exact .inr rfl) (by decide)) (dgs_cons (dg_name (i := 6) sc_law.nd rfl (by first | exact .inl rfl | exact .inr rfl) (by decide)) dgs_nil))))
    (ds_cons (ds_set (i := 7) sc_law.nd rfl (by first | exact .inl rfl | exact .inr rfl) (by decide) (de_pk (de_call h_rule_turned hr (by first | omega | decide) (by rfl) (da_cons (de_fr (de_var 3)) (da_cons (de_fr (de_var 5)) (da_cons (de_fr (de_var 6)) da_nil))) (aLen_cons (aLen_cons (aLen_cons aLen_nil))))))
    (ds_cons (ds_if (PW.pt (dw_or (dt_not (dt_truth (de_call h__law_is_number hr (by first | omega | decide) (by rfl) (da_cons (de_fr (de_var 7)) da_nil) (aLen_cons aLen_nil)))) (dw_or1 (dt_cmp (ne_d (u65 hr)) (de_var 7) (de_call h__law_turned hr (by first | omega | decide) (by rfl) (da_cons (de_fr (de_var 3)) (da_cons (de_fr (de_var 5)) (da_cons (de_fr (de_var 6)) da_nil))) (aLen_cons (aLen_cons (aLen_cons aLen_nil)))))))) (ds_one (ds_ret de_bl)) ds_nil)
    (ds_cons (ds_set (i := 8) sc_law.nd rfl (by first | exact .inl rfl | exact .inr rfl) (by decide) (de_pk (de_callTy tuple_d (by rfl) Z.tuple (by rfl) (da_cons (de_lc (own := [(("cell" : Str), 19)]) rfl sc_law.nd (di_seq (de_ifExp (dt_cmp (eq_d (u65 hr)) (de_var 5) de_int) (de_fr (de_back (de_var 4))) (de_fr (de_var 4)))) (blkOk_by (by rfl)) (fun _ _ _ _ _ => (dg_name (i := 19) sc_law.nd rfl (by first | exact .inl rfl | exact .inr rfl) (by decide))) (fun _ _ _ _ _ => dp_nil) (fun _ _ _ _ _ => (de_bin xor_d (de_var 19) (de_var 6)))) da_nil))))
    (ds_cons (ds_set (i := 9) sc_law.nd rfl (by first | exact .inl rfl | exact .inr rfl) (by decide) (de_pk (de_call h_ran hr (by first | omega | decide) (by rfl) (da_cons (de_fr (de_var 3)) (da_cons (de_fr (de_var 4)) da_nil)) (aLen_cons (aLen_cons aLen_nil)))))
    (ds_cons (ds_if (PW.pt (dw_or (dt_not (dt_truth (de_call h__law_is_numbers hr (by first | omega | decide) (by rfl) (da_cons (de_fr (de_var 9)) da_nil) (aLen_cons aLen_nil)))) (dw_or1 (dt_cmp (ne_d (u65 hr)) (de_var 9) (de_call h__law_ran hr (by first | omega | decide) (by rfl) (da_cons (de_fr (de_var 3)) (da_cons (de_fr (de_var 4)) da_nil)) (aLen_cons (aLen_cons aLen_nil))))))) (ds_one (ds_ret de_bl)) ds_nil)
    (ds_cons (ds_if (dt_cmp (ne_d (u65 hr)) (de_call h_ran hr (by first | omega | decide) (by rfl) (da_cons (de_fr (de_var 7)) (da_cons (de_fr (de_var 8)) da_nil)) (aLen_cons (aLen_cons aLen_nil))) (de_callTy tuple_d (by rfl) Z.tuple (by rfl) (da_cons (de_lc (own := [(("cell" : Str), 19)]) rfl sc_law.nd (di_seq (de_ifExp (dt_cmp (eq_d (u65 hr)) (de_var 5) de_int) (de_fr (de_back (de_var 9))) (de_fr (de_var 9)))) (blkOk_by (by rfl)) (fun _ _ _ _ _ => (dg_name (i := 19) sc_law.nd rfl (by first | exact .inl rfl | exact .inr rfl) (by decide))) (fun _ _ _ _ _ => dp_nil) (fun _ _ _ _ _ => (de_bin xor_d (de_var 19) (de_var 6)))) da_nil))) (ds_one (ds_ret de_bl)) ds_nil)
    (ds_cons (ds_for PassesOwn.never rfl (di_seq (de_tup (da_cons (de_fr (de_var 3)) (da_cons (de_fr (de_var 7)) da_nil)))) (dg_name (i := 10) sc_law.nd rfl (by first | exact .inl rfl | exact .inr rfl) (by decide)) (ds_cons (ds_set (i := 11) sc_law.nd rfl (by first | exact .inl rfl | exact .inr rfl) (by decide) (de_pk (de_call h_rule_form hr (by first | omega | decide) (by rfl) (da_cons (de_fr (de_var 10)) da_nil) (aLen_cons aLen_nil))))
    (ds_one (ds_if (PW.pt (dw_or (dt_not (dt_truth (de_call h__law_is_numbers hr (by first | omega | decide) (by rfl) (da_cons (de_fr (de_var 11)) da_nil) (aLen_cons aLen_nil)))) (dw_or1 (dt_cmp (ne_d (u65 hr)) (de_var 11) (de_call h__law_form hr (by first | omega | decide) (by rfl) (da_cons (de_fr (de_var 10)) da_nil) (aLen_cons aLen_nil)))))) (ds_one (ds_ret de_bl)) ds_nil))))
    (ds_cons (ds_set (i := 12) sc_law.nd rfl (by first | exact .inl rfl | exact .inr rfl) (by decide) (de_pk (de_call h_orbit_of hr (by first | omega | decide) (by rfl) (da_cons (de_fr (de_var 3)) (da_cons (de_fr (de_var 4)) da_nil)) (aLen_cons (aLen_cons aLen_nil)))))
    (ds_cons (ds_if (PW.pt (dw_or (dt_not (dt_truth (de_call h__law_is_numbers hr (by first | omega | decide) (by rfl) (da_cons (de_fr (de_var 12)) da_nil) (aLen_cons aLen_nil)))) (dw_or1 (dt_cmp (ne_d (u65 hr)) (de_var 12) (de_call h__law_orbit hr (by first | omega | decide) (by rfl) (da_cons (de_fr (de_var 3)) (da_cons (de_fr (de_var 4)) da_nil)) (aLen_cons (aLen_cons aLen_nil))))))) (ds_one (ds_ret de_bl)) ds_nil)
    (ds_cons (ds_par (i := 13) (j := 14) rfl sc_law.nd rfl rfl (by decide) (by decide) (by decide) rfl rfl (da_cons (de_fr (de_call h_lost_row hr (by first | omega | decide) (by rfl) (da_cons (de_fr (de_var 3)) da_nil) (aLen_cons aLen_nil))) (da_cons (de_fr (de_call h__law_lost hr (by first | omega | decide) (by rfl) (da_cons (de_fr (de_var 3)) da_nil) (aLen_cons aLen_nil))) da_nil)) (by rfl))
    (ds_cons (ds_if (PW.pt (dw_or (PW.pt (dw_and (dt_cmp is_x (de_var 14) de_non) (dw_and1 (PW.pt (dw_or (dt_cmp isnot_x (de_var 13) de_non) (dw_or1 (dt_cmp isnot_x (de_call h_is_open hr (by first | omega | decide) (by rfl) (da_cons (de_fr (de_var 3)) da_nil) (aLen_cons aLen_nil)) de_bl))))))) (dw_or1 (PW.pt (dw_and (dt_cmp isnot_x (de_var 14) de_non) (dw_and1 (PW.pt (dw_or (dt_not (dt_truth (de_call h__law_is_numbers hr (by first | omega | decide) (by rfl) (da_cons (de_fr (de_var 13)) da_nil) (aLen_cons aLen_nil)))) (dw_or (dt_cmp (ne_d (u65 hr)) (de_var 13) (de_var 14)) (dw_or1 (dt_cmp isnot_x (de_call h_is_open hr (by first | omega | decide) (by rfl) (da_cons (de_fr (de_var 3)) da_nil) (aLen_cons aLen_nil)) de_bl))))))))))) (ds_one (ds_ret de_bl)) ds_nil)
    (ds_one (ds_for PassesOwn.never rfl (di_seq (de_tup (da_cons (de_fr (de_bin add_d de_int (de_call h__law_next hr (by first | omega | decide) (by rfl) (da_cons (de_var 1) (da_cons de_int da_nil)) (aLen_cons (aLen_cons aLen_nil))))) (da_cons (de_fr (de_bin add_d de_int (de_call h__law_next hr (by first | omega | decide) (by rfl) (da_cons (de_var 1) (da_cons de_int da_nil)) (aLen_cons (aLen_cons aLen_nil))))) da_nil)))) (dg_name (i := 15) sc_law.nd rfl (by first | exact .inl rfl | exact .inr rfl) (by decide)) (ds_cons (ds_set (i := 16) sc_law.nd rfl (by first | exact .inl rfl | exact .inr rfl) (by decide) (de_pk (de_call h_count_kept hr (by first | omega | decide) (by rfl) (da_cons (de_fr (de_var 3)) (da_cons (de_fr (de_var 15)) da_nil)) (aLen_cons (aLen_cons aLen_nil)))))
    (ds_one (ds_if (PW.pt (dw_or (dt_not (dt_truth (de_call h__law_is_number hr (by first | omega | decide) (by rfl) (da_cons (de_fr (de_var 16)) da_nil) (aLen_cons aLen_nil)))) (dw_or1 (dt_cmp (ne_d (u65 hr)) (de_var 16) (de_call h__law_kept hr (by first | omega | decide) (by rfl) (da_cons (de_fr (de_var 3)) (da_cons (de_fr (de_var 15)) da_nil)) (aLen_cons (aLen_cons aLen_nil))))))) (ds_one (ds_ret de_bl)) ds_nil)))))))))))))))))))
    (ds_cons (ds_set (i := 15) sc_law.nd rfl (by first | exact .inl rfl | exact .inr rfl) (by decide) (de_bin add_d de_int (de_call h__law_next hr (by first | omega | decide) (by rfl) (da_cons (de_var 1) (da_cons de_int da_nil)) (aLen_cons (aLen_cons aLen_nil)))))
    (ds_cons (ds_setLcP (i := 17) (own := [(("k" : Str), 18)]) rfl sc_law.nd rfl rfl (by decide) (by rfl) (di_range1 (by rfl) Z.range (da_cons (de_bin shl_d de_int (de_var 15)) da_nil)) (blkOk_by (by rfl)) (fun _ _ _ _ _ => (dg_name (i := 18) sc_law.nd rfl (by first | exact .inl rfl | exact .inr rfl) (by decide))) (fun _ _ _ _ _ => dp_nil) (fun _ _ _ _ _ => (de_callTy tuple_d (by rfl) Z.tuple (by rfl) (da_cons (de_lc (own := [(("j" : Str), 20)]) rfl sc_law.nd (di_range1 (by rfl) Z.range (da_cons (de_var 15) da_nil)) (blkOk_by (by rfl)) (fun _ _ _ _ _ => (dg_name (i := 20) sc_law.nd rfl (by first | exact .inl rfl | exact .inr rfl) (by decide))) (fun _ _ _ _ _ => dp_nil) (fun _ _ _ _ _ => (de_bin and_d (de_bin shr_d (de_var 18) (de_var 20)) de_int))) da_nil))))
    (ds_cons (ds_if (dt_cmp (ne_d (u65 hr)) (de_call h_count_kept hr (by first | omega | decide) (by rfl) (da_cons (de_fr (de_var 3)) (da_cons (de_fr (de_var 15)) da_nil)) (aLen_cons (aLen_cons aLen_nil))) (de_callB len_d (by rfl) Z.len (by rfl) (da_cons (de_lc (own := [(("row" : Str), 21)]) rfl sc_law.nd (di_seq (de_var 17)) (blkOk_by (by rfl)) (fun _ _ _ _ _ => (dg_name (i := 21) sc_law.nd rfl (by first | exact .inl rfl | exact .inr rfl) (by decide))) (fun _ _ _ _ _ => (dp_one (dt_cmp (eq_d (u65 hr)) (de_call h__law_ran hr (by first | omega | decide) (by rfl) (da_cons (de_fr (de_var 3)) (da_cons (de_fr (de_var 21)) da_nil)) (aLen_cons (aLen_cons aLen_nil))) (de_var 21)))) (fun _ _ _ _ _ => (de_var 21))) da_nil))) (ds_one (ds_ret de_bl)) ds_nil)
    (ds_cons (ds_if (dt_cmp (eq_d (u65 hr)) (de_call h__law_next hr (by first | omega | decide) (by rfl) (da_cons (de_var 1) (da_cons de_int da_nil)) (aLen_cons (aLen_cons aLen_nil))) de_int) (ds_cons (ds_set (i := 7) sc_law.nd rfl (by first | exact .inl rfl | exact .inr rfl) (by decide) (de_pk (de_call0 h_all_rules hr (by first | omega | decide) (by rfl))))
    (ds_one (ds_if (PW.pt (dw_or (dt_not (dt_truth (de_call h__law_is_numbers hr (by first | omega | decide) (by rfl) (da_cons (de_fr (de_var 7)) da_nil) (aLen_cons aLen_nil)))) (dw_or (dt_cmp (ne_d (u65 hr)) (de_callTy list_d (by rfl) Z.list (by rfl) (da_cons (de_var 7) da_nil)) (de_sset (u201 hr) rfl (by rfl) Z.sorted (by rfl) Z.set (de_lc (own := [(("one" : Str), 10)]) rfl sc_law.nd (di_range1 (by rfl) Z.range (da_cons de_int da_nil)) (blkOk_by (by rfl)) (fun _ _ _ _ _ => (dg_name (i := 10) sc_law.nd rfl (by first | exact .inl rfl | exact .inr rfl) (by decide))) (fun _ _ _ _ _ => dp_nil) (fun _ _ _ _ _ => (de_ix (ixA_d (u11 hr)) (de_call h__law_form hr (by first | omega | decide) (by rfl) (da_cons (de_fr (de_var 10)) da_nil) (aLen_cons aLen_nil)) de_int))))) (dw_or1 (dt_cmp (ne_d (u65 hr)) (de_callB len_d (by rfl) Z.len (by rfl) (da_cons (de_var 7) da_nil)) de_int))))) (ds_one (ds_ret de_bl)) ds_nil))) ds_nil)
    (ds_one (ds_ret de_bl))))))))
end
/-! the head -/
def d__law_draws : He.DefD := ⟨("_law_draws", none), "_law_draws", "_law_draws", defArgs s__law_draws, defBody s__law_draws, defScope s__law_draws, [], []⟩
def d_rule_turned : He.DefD := ⟨("rule_turned", none), "rule_turned", "rule_turned", defArgs s_rule_turned, defBody s_rule_turned, defScope s_rule_turned, [], []⟩
def d__new : He.DefD := ⟨("_new", none), "_new", "_new", defArgs s__new, defBody s__new, defScope s__new, [], []⟩
def d_ran : He.DefD := ⟨("ran", none), "ran", "ran", defArgs s_ran, defBody s_ran, defScope s_ran, [], []⟩
def d_orbit_of : He.DefD := ⟨("orbit_of", none), "orbit_of", "orbit_of", defArgs s_orbit_of, defBody s_orbit_of, defScope s_orbit_of, [], []⟩
def d__law_next : He.DefD := ⟨("_law_next", none), "_law_next", "_law_next", defArgs s__law_next, defBody s__law_next, defScope s__law_next, [], []⟩
def d_count_kept : He.DefD := ⟨("count_kept", none), "count_kept", "count_kept", defArgs s_count_kept, defBody s_count_kept, defScope s_count_kept, [], []⟩
def d_rule_form : He.DefD := ⟨("rule_form", none), "rule_form", "rule_form", defArgs s_rule_form, defBody s_rule_form, defScope s_rule_form, [], []⟩
def d_all_rules : He.DefD := ⟨("all_rules", none), "all_rules", "all_rules", defArgs s_all_rules, defBody s_all_rules, defScope s_all_rules, [], []⟩
def d__law_cells : He.DefD := ⟨("_law_cells", none), "_law_cells", "_law_cells", defArgs s__law_cells, defBody s__law_cells, defScope s__law_cells, [], []⟩
def d_lost_row : He.DefD := ⟨("lost_row", none), "lost_row", "lost_row", defArgs s_lost_row, defBody s_lost_row, defScope s_lost_row, [], []⟩
def d__law_new : He.DefD := ⟨("_law_new", none), "_law_new", "_law_new", defArgs s__law_new, defBody s__law_new, defScope s__law_new, [], []⟩
def d__law_lost : He.DefD := ⟨("_law_lost", none), "_law_lost", "_law_lost", defArgs s__law_lost, defBody s__law_lost, defScope s__law_lost, [], []⟩
def d__law_is_number : He.DefD := ⟨("_law_is_number", none), "_law_is_number", "_law_is_number", defArgs s__law_is_number, defBody s__law_is_number, defScope s__law_is_number, [], []⟩
def d__law_turned : He.DefD := ⟨("_law_turned", none), "_law_turned", "_law_turned", defArgs s__law_turned, defBody s__law_turned, defScope s__law_turned, [], []⟩
def d__law_is_numbers : He.DefD := ⟨("_law_is_numbers", none), "_law_is_numbers", "_law_is_numbers", defArgs s__law_is_numbers, defBody s__law_is_numbers, defScope s__law_is_numbers, [], []⟩
def d__law_ran : He.DefD := ⟨("_law_ran", none), "_law_ran", "_law_ran", defArgs s__law_ran, defBody s__law_ran, defScope s__law_ran, [], []⟩
def d__law_orbit : He.DefD := ⟨("_law_orbit", none), "_law_orbit", "_law_orbit", defArgs s__law_orbit, defBody s__law_orbit, defScope s__law_orbit, [], []⟩
def d__law_form : He.DefD := ⟨("_law_form", none), "_law_form", "_law_form", defArgs s__law_form, defBody s__law_form, defScope s__law_form, [], []⟩
def d__law_kept : He.DefD := ⟨("_law_kept", none), "_law_kept", "_law_kept", defArgs s__law_kept, defBody s__law_kept, defScope s__law_kept, [], []⟩
def d_is_open : He.DefD := ⟨("is_open", none), "is_open", "is_open", defArgs s_is_open, defBody s_is_open, defScope s_is_open, [], []⟩
def d_law : He.DefD := ⟨("law", none), "law", "law", defArgs s_law, defBody s_law, defScope s_law, [], []⟩
def fn : List He.DefD := [d__law_draws, d_rule_turned, d__new, d_ran, d_orbit_of, d__law_next, d_count_kept, d_rule_form, d_all_rules, d__law_cells, d_lost_row, d__law_new, d__law_lost, d__law_is_number, d__law_turned, d__law_is_numbers, d__law_ran, d__law_orbit, d__law_form, d__law_kept, d_is_open, d_law]
def fa0 : List He.Fa := [.glo "_law_draws", .glo "rule_turned", .glo "_new", .glo "ran", .glo "orbit_of", .glo "_law_next", .glo "count_kept", .glo "rule_form", .glo "all_rules", .glo "_law_cells", .glo "lost_row", .glo "_law_new", .glo "_law_lost", .glo "_law_is_number", .glo "_law_turned", .glo "_law_is_numbers", .glo "_law_ran", .glo "_law_orbit", .glo "_law_form", .glo "_law_kept", .glo "is_open", .glo "law", .free "abs", .free "bool", .free "int", .free "isinstance", .free "len", .free "list", .free "min", .free "range"]
def fa1 : List He.Fa := [.free "set", .free "sorted", .free "tuple"]
def fa : List He.Fa := fa0 ++ fa1
def loose : List PySem.Str := ["rule_turned", "rule_form", "all_rules", "_new", "ran", "orbit_of", "lost_row", "is_open", "count_kept", "_law_draws", "_law_next", "_law_is_number", "_law_is_numbers", "_law_new", "_law_ran", "_law_turned", "_law_form", "_law_lost", "_law_kept", "_law_cells", "_law_orbit"]
abbrev R : PySem.W.OpenRow := PySem.W.OpenLaw.row PySem.Challenge.rw_turnwarrant_k88_whole_rules_of_cells
abbrev hk : PySem.W.Hook := He.hookD 4 fa fn
def ob (s : PySem.W.SharedT) : He.AlD := He.obsDG 4 fa fn (HandSHeadRun.getT s)
theorem ob_eq (s : PySem.W.SharedT) : ob s = hk.obs s.abs := He.obsDG_eq (HandSHeadRun.getT_eq s)
theorem run (w : World) : HandSHeadRun.RunEq R (PySem.W.view R.prog [23]) hk ob 1560 loose w := by
  intro os
  kernel_rfl
theorem facts {P : Program} {w : World} {K : PySem.W.Frag} {h : Heap} {mg : Str → Option Value} {f : Addr} (X : K.In h) (G : h.Ns mainGlobals mg) (hfa : mg ("law" : Str) = some (.ref f)) (c : He.SaysD fa fn K) :
    ∃ fd : FuncData, (∀ (s : Shared) (v : Value), BindsTo s fd ⟨[v], []⟩ [("script", v)]) ∧ ∀ base : Heap, K.In base → base.Ns mainGlobals mg → FnOk P w K mg base CX0 4 f fd ["script"] (spD K 1 F_law) := by
  have Z : Zs mg := ⟨He.free_ok X G (c.fact 22 (f := .free "abs") rfl), He.free_ok X G (c.fact 23 (f := .free "bool") rfl), He.free_ok X G (c.fact 24 (f := .free "int") rfl), He.free_ok X G (c.fact 25 (f := .free "isinstance") rfl), He.free_ok X G (c.fact 26 (f := .free "len") rfl), He.free_ok X G (c.fact 27 (f := .free "list") rfl), He.free_ok X G (c.fact 28 (f := .free "min") rfl), He.free_ok X G (c.fact 29 (f := .free "range") rfl), He.free_ok X G (c.fact 30 (f := .free "set") rfl), He.free_ok X G (c.fact 31 (f := .free "sorted") rfl), He.free_ok X G (c.fact 32 (f := .free "tuple") rfl)⟩
  have D__law_draws : Dn K mg "_law_draws" s__law_draws ["script", "many"] := by
    obtain ⟨fd, F⟩ := c.def_ 0 (d := d__law_draws) rfl
    exact dn_mk F (He.glo_ok X G (c.fact 0 (f := .glo "_law_draws") rfl)) fun _ _ _ _ _ _ us hl => match us, hl with | [_, _], _ => rfl
  have D_rule_turned : Dn K mg "rule_turned" s_rule_turned ["rule", "mirror", "over"] := by
    obtain ⟨fd, F⟩ := c.def_ 1 (d := d_rule_turned) rfl
    exact dn_mk F (He.glo_ok X G (c.fact 1 (f := .glo "rule_turned") rfl)) fun _ _ _ _ _ _ us hl => match us, hl with | [_, _, _], _ => rfl
  have D__new : Dn K mg "_new" s__new ["rule", "left", "middle", "right"] := by
    obtain ⟨fd, F⟩ := c.def_ 2 (d := d__new) rfl
    exact dn_mk F (He.glo_ok X G (c.fact 2 (f := .glo "_new") rfl)) fun _ _ _ _ _ _ us hl => match us, hl with | [_, _, _, _], _ => rfl
  have D_ran : Dn K mg "ran" s_ran ["rule", "cells"] := by
    obtain ⟨fd, F⟩ := c.def_ 3 (d := d_ran) rfl
    exact dn_mk F (He.glo_ok X G (c.fact 3 (f := .glo "ran") rfl)) fun _ _ _ _ _ _ us hl => match us, hl with | [_, _], _ => rfl
  have D_orbit_of : Dn K mg "orbit_of" s_orbit_of ["rule", "cells"] := by
    obtain ⟨fd, F⟩ := c.def_ 4 (d := d_orbit_of) rfl
    exact dn_mk F (He.glo_ok X G (c.fact 4 (f := .glo "orbit_of") rfl)) fun _ _ _ _ _ _ us hl => match us, hl with | [_, _], _ => rfl
  have D__law_next : Dn K mg "_law_next" s__law_next ["w", "many"] := by
    obtain ⟨fd, F⟩ := c.def_ 5 (d := d__law_next) rfl
    exact dn_mk F (He.glo_ok X G (c.fact 5 (f := .glo "_law_next") rfl)) fun _ _ _ _ _ _ us hl => match us, hl with | [_, _], _ => rfl
  have D_count_kept : Dn K mg "count_kept" s_count_kept ["rule", "n"] := by
    obtain ⟨fd, F⟩ := c.def_ 6 (d := d_count_kept) rfl
    exact dn_mk F (He.glo_ok X G (c.fact 6 (f := .glo "count_kept") rfl)) fun _ _ _ _ _ _ us hl => match us, hl with | [_, _], _ => rfl
  have D_rule_form : Dn K mg "rule_form" s_rule_form ["rule"] := by
    obtain ⟨fd, F⟩ := c.def_ 7 (d := d_rule_form) rfl
    exact dn_mk F (He.glo_ok X G (c.fact 7 (f := .glo "rule_form") rfl)) fun _ _ _ _ _ _ us hl => match us, hl with | [_], _ => rfl
  have D_all_rules : Dn K mg "all_rules" s_all_rules [] := by
    obtain ⟨fd, F⟩ := c.def_ 8 (d := d_all_rules) rfl
    exact dn_mk F (He.glo_ok X G (c.fact 8 (f := .glo "all_rules") rfl)) fun _ _ _ _ _ _ us hl => match us, hl with | [], _ => rfl
  have D__law_cells : Dn K mg "_law_cells" s__law_cells ["w"] := by
    obtain ⟨fd, F⟩ := c.def_ 9 (d := d__law_cells) rfl
    exact dn_mk F (He.glo_ok X G (c.fact 9 (f := .glo "_law_cells") rfl)) fun _ _ _ _ _ _ us hl => match us, hl with | [_], _ => rfl
  have D_lost_row : Dn K mg "lost_row" s_lost_row ["rule"] := by
    obtain ⟨fd, F⟩ := c.def_ 10 (d := d_lost_row) rfl
    exact dn_mk F (He.glo_ok X G (c.fact 10 (f := .glo "lost_row") rfl)) fun _ _ _ _ _ _ us hl => match us, hl with | [_], _ => rfl
  have D__law_new : Dn K mg "_law_new" s__law_new ["rule", "left", "middle", "right"] := by
    obtain ⟨fd, F⟩ := c.def_ 11 (d := d__law_new) rfl
    exact dn_mk F (He.glo_ok X G (c.fact 11 (f := .glo "_law_new") rfl)) fun _ _ _ _ _ _ us hl => match us, hl with | [_, _, _, _], _ => rfl
  have D__law_lost : Dn K mg "_law_lost" s__law_lost ["rule"] := by
    obtain ⟨fd, F⟩ := c.def_ 12 (d := d__law_lost) rfl
    exact dn_mk F (He.glo_ok X G (c.fact 12 (f := .glo "_law_lost") rfl)) fun _ _ _ _ _ _ us hl => match us, hl with | [_], _ => rfl
  have D__law_is_number : Dn K mg "_law_is_number" s__law_is_number ["thing"] := by
    obtain ⟨fd, F⟩ := c.def_ 13 (d := d__law_is_number) rfl
    exact dn_mk F (He.glo_ok X G (c.fact 13 (f := .glo "_law_is_number") rfl)) fun _ _ _ _ _ _ us hl => match us, hl with | [_], _ => rfl
  have D__law_turned : Dn K mg "_law_turned" s__law_turned ["rule", "mirror", "over"] := by
    obtain ⟨fd, F⟩ := c.def_ 14 (d := d__law_turned) rfl
    exact dn_mk F (He.glo_ok X G (c.fact 14 (f := .glo "_law_turned") rfl)) fun _ _ _ _ _ _ us hl => match us, hl with | [_, _, _], _ => rfl
  have D__law_is_numbers : Dn K mg "_law_is_numbers" s__law_is_numbers ["thing"] := by
    obtain ⟨fd, F⟩ := c.def_ 15 (d := d__law_is_numbers) rfl
    exact dn_mk F (He.glo_ok X G (c.fact 15 (f := .glo "_law_is_numbers") rfl)) fun _ _ _ _ _ _ us hl => match us, hl with | [_], _ => rfl
  have D__law_ran : Dn K mg "_law_ran" s__law_ran ["rule", "cells"] := by
    obtain ⟨fd, F⟩ := c.def_ 16 (d := d__law_ran) rfl
    exact dn_mk F (He.glo_ok X G (c.fact 16 (f := .glo "_law_ran") rfl)) fun _ _ _ _ _ _ us hl => match us, hl with | [_, _], _ => rfl
  have D__law_orbit : Dn K mg "_law_orbit" s__law_orbit ["rule", "cells"] := by
    obtain ⟨fd, F⟩ := c.def_ 17 (d := d__law_orbit) rfl
    exact dn_mk F (He.glo_ok X G (c.fact 17 (f := .glo "_law_orbit") rfl)) fun _ _ _ _ _ _ us hl => match us, hl with | [_, _], _ => rfl
  have D__law_form : Dn K mg "_law_form" s__law_form ["rule"] := by
    obtain ⟨fd, F⟩ := c.def_ 18 (d := d__law_form) rfl
    exact dn_mk F (He.glo_ok X G (c.fact 18 (f := .glo "_law_form") rfl)) fun _ _ _ _ _ _ us hl => match us, hl with | [_], _ => rfl
  have D__law_kept : Dn K mg "_law_kept" s__law_kept ["rule", "n"] := by
    obtain ⟨fd, F⟩ := c.def_ 19 (d := d__law_kept) rfl
    exact dn_mk F (He.glo_ok X G (c.fact 19 (f := .glo "_law_kept") rfl)) fun _ _ _ _ _ _ us hl => match us, hl with | [_, _], _ => rfl
  have D_is_open : Dn K mg "is_open" s_is_open ["rule"] := by
    obtain ⟨fd, F⟩ := c.def_ 20 (d := d_is_open) rfl
    exact dn_mk F (He.glo_ok X G (c.fact 20 (f := .glo "is_open") rfl)) fun _ _ _ _ _ _ us hl => match us, hl with | [_], _ => rfl
  obtain ⟨fd, F⟩ := c.def_ 21 (d := d_law) rfl
  have e := hfa.symm.trans (He.glo_ok X G (c.fact 21 (f := .glo "law") rfl))
  cases e
  have b := FunD.bindsA (ps := ["script"]) F fun _ _ _ _ _ _ us hl => match us, hl with | [_], _ => rfl
  refine ⟨fd, fun s v => b s [v] rfl, fun base _ _ => ?_⟩
  have h__law_draws : Has P w K mg base 1 "_law_draws" _ _ := ok__law_draws Z D__law_draws 
  have h_rule_turned : Has P w K mg base 1 "rule_turned" _ _ := ok_rule_turned Z D_rule_turned 
  have h__new : Has P w K mg base 1 "_new" _ _ := ok__new Z D__new 
  have h_ran : Has P w K mg base 2 "ran" _ _ := ok_ran Z D_ran h__new
  have h_orbit_of : Has P w K mg base 3 "orbit_of" _ _ := ok_orbit_of Z D_orbit_of h_ran
  have h__law_next : Has P w K mg base 1 "_law_next" _ _ := ok__law_next Z D__law_next 
  have h_count_kept : Has P w K mg base 2 "count_kept" _ _ := ok_count_kept Z D_count_kept h__new
  have h_rule_form : Has P w K mg base 2 "rule_form" _ _ := ok_rule_form Z D_rule_form h_rule_turned
  have h_all_rules : Has P w K mg base 3 "all_rules" _ _ := ok_all_rules Z D_all_rules h_rule_form
  have h__law_cells : Has P w K mg base 2 "_law_cells" _ _ := ok__law_cells Z D__law_cells h__law_next
  have h_lost_row : Has P w K mg base 2 "lost_row" _ _ := ok_lost_row Z D_lost_row h__new
  have h__law_new : Has P w K mg base 1 "_law_new" _ _ := ok__law_new Z D__law_new 
  have h__law_lost : Has P w K mg base 2 "_law_lost" _ _ := ok__law_lost Z D__law_lost h__law_new
  have h__law_is_number : Has P w K mg base 1 "_law_is_number" _ _ := ok__law_is_number Z D__law_is_number 
  have h__law_turned : Has P w K mg base 2 "_law_turned" _ _ := ok__law_turned Z D__law_turned h__law_new
  have h__law_is_numbers : Has P w K mg base 2 "_law_is_numbers" _ _ := ok__law_is_numbers Z D__law_is_numbers h__law_is_number
  have h__law_ran : Has P w K mg base 2 "_law_ran" _ _ := ok__law_ran Z D__law_ran h__law_new
  have h__law_orbit : Has P w K mg base 3 "_law_orbit" _ _ := ok__law_orbit Z D__law_orbit h__law_ran
  have h__law_form : Has P w K mg base 3 "_law_form" _ _ := ok__law_form Z D__law_form h__law_turned
  have h__law_kept : Has P w K mg base 2 "_law_kept" _ _ := ok__law_kept Z D__law_kept h__law_new
  have h_is_open : Has P w K mg base 3 "is_open" _ _ := ok_is_open Z D_is_open h_lost_row
  exact ok_law Z F h__law_cells h__law_draws h__law_form h__law_is_number h__law_is_numbers h__law_kept h__law_lost h__law_next h__law_orbit h__law_ran h__law_turned h_all_rules h_count_kept h_is_open h_lost_row h_orbit_of h_ran h_rule_form h_rule_turned
end K88

set_option Elab.async false
set_option linter.all false
set_option autoImplicit false
set_option maxRecDepth 100000
set_option maxHeartbeats 4000000
namespace K88
open PySem PySem.Spec PyProof.Rows L2 DL
theorem next_same : F__law_next = nextF := rfl

/-! rule_turned -/
def t_rule_turned (a_rule : Int) (a_mirror : Int) (a_over : Int) : Option Int :=
(foldO (fun (x7 : Int) (s1 : Int) => (some (x7 / 2 ^ Int.toNat 2)).bind fun x8 =>
(some (Builtin.bitAnd (x7 / 2 ^ Int.toNat 1) 1)).bind fun x9 =>
(some (Builtin.bitAnd x7 1)).bind fun x10 =>
(if (decide (a_mirror = 1)) = true then (some (x10, x8)) else (some (x8, x10))).bind fun s12 =>
(if (decide (a_over = 1)) = true then ((some (1 - s12.1)).bind fun x17 =>
(some (1 - x9)).bind fun x18 =>
(some (1 - s12.2)).bind fun x19 =>
some (x17, x18, x19)) else (some (s12.1, x9, s12.2))).bind fun s20 =>
(shrO a_rule (((4 * s20.1) + (2 * s20.2.1)) + s20.2.2)).bind fun v21 =>
(some (Builtin.bitAnd v21 1)).bind fun x22 =>
(shlO (Builtin.bitXor x22 a_over) x7).bind fun v23 =>
(some (Builtin.bitOr s1 v23)).bind fun x24 =>
some x24) (rangeI 0 (Int.toNat 8)) 0).bind fun (s25 : Int) =>
some s25
theorem sim_rule_turned {a_rule : Int} {a_mirror : Int} {a_over : Int} {r : Int} (h : t_rule_turned a_rule a_mirror a_over = some r) : F_rule_turned [.sh (eI a_rule), .sh (eI a_mirror), .sh (eI a_over)] = some (.sh (eI r), [.sh (eI a_rule), .sh (eI a_mirror), .sh (eI a_over)]) := by
  unfold t_rule_turned at h
  refine run_wp rfl (fun i => by intro z; cases z) ?_
  show Wp (g_rule_turned [.sh (eI a_rule), .sh (eI a_mirror), .sh (eI a_over), .no, .no, .no, .no, .no, .no]) _
  unfold g_rule_turned
  refine wp_seq (ρ1 := [.sh (eI a_rule), .sh (eI a_mirror), .sh (eI a_over), .sh (eI 0), .no, .no, .no, .no, .no]) (set_s (ec _ _)) ?_
  refine wp_seqW (wp_fold (R := (fun (s1 : Int) ρ => ∃ j2 j3 j4 j5 j6, ρ = [.sh (eI a_rule), .sh (eI a_mirror), .sh (eI a_over), .sh (eI s1), j2, j3, j4, j5, j6])) (e := eI) (s0 := 0) (irng_ (e := eI) (ac_ (ec _ _) (an_ _)) rfl (rng1_l _)) ⟨_, _, _, _, _, rfl⟩ (fun x7 s1 s' ρ hx hR h => ?_) h ?_)
  · obtain ⟨j2, j3, j4, j5, j6, rfl⟩ := hR
    refine ⟨[.sh (eI a_rule), .sh (eI a_mirror), .sh (eI a_over), .sh (eI s1), .sh (eI x7), j3, j4, j5, j6], rfl, ?_⟩
    obtain ⟨x8, hx8, h⟩ := bnd h
    obtain ⟨x9, hx9, h⟩ := bnd h
    obtain ⟨x10, hx10, h⟩ := bnd h
    refine wp_seq (ρ1 := [.sh (eI a_rule), .sh (eI a_mirror), .sh (eI a_over), .sh (eI s1), .sh (eI x7), .sh (eI x8), .sh (eI x9), .sh (eI x10), j6]) (by rw [← Option.some.inj hx8, ← Option.some.inj hx9, ← Option.some.inj hx10]; exact (par3_ (ac_ (fr_s (bin_s ev_4 (ec _ _) (shr_l _ _))) (ac_ (fr_s (bin_s (bin_s ev_4 (ec _ _) (shr_l _ _)) (ec _ _) (bit_i _ _ _))) (ac_ (fr_s (bin_s ev_4 (ec _ _) (bit_i _ _ _))) (an_ _)))))) ?_
    refine wp_seqW (wp_join (R := (fun (s12 : (Int × Int)) ρ => ρ = [.sh (eI a_rule), .sh (eI a_mirror), .sh (eI a_over), .sh (eI s1), .sh (eI x7), .sh (eI s12.1), .sh (eI x9), .sh (eI s12.2), j6])) (fun s h => ?_) h ?_)
    · refine ite_elim h (fun c11 h => ?_) (fun c11 h => ?_)
      · refine wp_if_t (tb_ (bin_s ev_1 (ec _ _) (eq_i _ _))) c11 ?_
        refine wp_st (ρ1 := [.sh (eI a_rule), .sh (eI a_mirror), .sh (eI a_over), .sh (eI s1), .sh (eI x7), .sh (eI x10), .sh (eI x9), .sh (eI x8), j6]) (par_ (ac_ (fr_s ev_7) (ac_ (fr_s ev_5) (an_ _))) rfl rfl) ?_
        cases h
        exact ⟨_, rfl, rfl⟩
      · refine wp_if_f (tb_ (bin_s ev_1 (ec _ _) (eq_i _ _))) c11 ?_
        refine wp_nil ?_
        cases h
        exact ⟨_, rfl, rfl⟩
    · intro s12 ρ hR h
      obtain rfl := hR
      refine qs_nx ?_
      refine wp_seqW (wp_join (R := (fun (s20 : (Int × Int × Int)) ρ => ρ = [.sh (eI a_rule), .sh (eI a_mirror), .sh (eI a_over), .sh (eI s1), .sh (eI x7), .sh (eI s20.1), .sh (eI s20.2.1), .sh (eI s20.2.2), j6])) (fun s h => ?_) h ?_)
      · refine ite_elim h (fun c13 h => ?_) (fun c13 h => ?_)
        · refine wp_if_t (tb_ (bin_s ev_2 (ec _ _) (eq_i _ _))) c13 ?_
          obtain ⟨x17, hx17, h⟩ := bnd h
          obtain ⟨x18, hx18, h⟩ := bnd h
          obtain ⟨x19, hx19, h⟩ := bnd h
          refine wp_st (ρ1 := [.sh (eI a_rule), .sh (eI a_mirror), .sh (eI a_over), .sh (eI s1), .sh (eI x7), .sh (eI x17), .sh (eI x18), .sh (eI x19), j6]) (by rw [← Option.some.inj hx17, ← Option.some.inj hx18, ← Option.some.inj hx19]; exact (par3_ (ac_ (fr_s (bin_s (ec _ _) ev_5 (sub_i _ _))) (ac_ (fr_s (bin_s (ec _ _) ev_6 (sub_i _ _))) (ac_ (fr_s (bin_s (ec _ _) ev_7 (sub_i _ _))) (an_ _)))))) ?_
          cases h
          exact ⟨_, rfl, rfl⟩
        · refine wp_if_f (tb_ (bin_s ev_2 (ec _ _) (eq_i _ _))) c13 ?_
          refine wp_nil ?_
          cases h
          exact ⟨_, rfl, rfl⟩
      · intro s20 ρ hR h
        obtain rfl := hR
        refine qs_nx ?_
        obtain ⟨v21, hv21, h⟩ := bnd h
        obtain ⟨x22, hx22, h⟩ := bnd h
        refine wp_seq (ρ1 := [.sh (eI a_rule), .sh (eI a_mirror), .sh (eI a_over), .sh (eI s1), .sh (eI x7), .sh (eI s20.1), .sh (eI s20.2.1), .sh (eI s20.2.2), .sh (eI x22)]) (by rw [← Option.some.inj hx22]; exact (set_s (bin_s (bin_s ev_0 (bin_s (bin_s (bin_s (ec _ _) ev_5 (mul_l _ _)) (bin_s (ec _ _) ev_6 (mul_l _ _)) (add_i _ _)) ev_7 (add_i _ _)) (shr_t hv21)) (ec _ _) (bit_i _ _ _)))) ?_
        obtain ⟨v23, hv23, h⟩ := bnd h
        obtain ⟨x24, hx24, h⟩ := bnd h
        refine wp_st (ρ1 := [.sh (eI a_rule), .sh (eI a_mirror), .sh (eI a_over), .sh (eI x24), .sh (eI x7), .sh (eI s20.1), .sh (eI s20.2.1), .sh (eI s20.2.2), .sh (eI x22)]) (by rw [← Option.some.inj hx24]; exact (aug_ rfl (pk_s (bin_s (bin_s ev_8 ev_2 (bit_i _ _ _)) ev_4 (shl_t hv23))) rfl (bit_i _ _ _))) ?_
        cases h
        exact ⟨_, .inl rfl, ⟨_, _, _, _, _, rfl⟩⟩
  · intro s25 ρ hR h
    obtain ⟨j26, j27, j28, j29, j30, rfl⟩ := hR
    refine qs_nx ?_
    refine wp_ret (fr_s ev_3) ?_
    cases h
    exact rt_i rfl rfl
/-! _new -/
def t__new (a_rule : Int) (a_left : Int) (a_middle : Int) (a_right : Int) : Option Int :=
(shrO a_rule (((4 * a_left) + (2 * a_middle)) + a_right)).bind fun v1 =>
some (Builtin.bitAnd v1 1)
theorem sim__new {a_rule : Int} {a_left : Int} {a_middle : Int} {a_right : Int} {r : Int} (h : t__new a_rule a_left a_middle a_right = some r) : F__new [.sh (eI a_rule), .sh (eI a_left), .sh (eI a_middle), .sh (eI a_right)] = some (.sh (eI r), [.sh (eI a_rule), .sh (eI a_left), .sh (eI a_middle), .sh (eI a_right)]) := by
  unfold t__new at h
  refine run_wp rfl (fun i => by intro z; cases z) ?_
  show Wp (g__new [.sh (eI a_rule), .sh (eI a_left), .sh (eI a_middle), .sh (eI a_right)]) _
  unfold g__new
  obtain ⟨v1, hv1, h⟩ := bnd h
  refine wp_ret (bin_s (bin_s ev_0 (bin_s (bin_s (bin_s (ec _ _) ev_1 (mul_l _ _)) (bin_s (ec _ _) ev_2 (mul_l _ _)) (add_i _ _)) ev_3 (add_i _ _)) (shr_t hv1)) (ec _ _) (bit_i _ _ _)) ?_
  cases h
  exact rt_i rfl rfl
/-! ran -/
def t_ran (a_rule : Int) (a_cells : (List Int)) : Option (List Int) :=
(some (List.length a_cells : Int)).bind fun x1 =>
(rngO1 x1).bind fun r3 =>
(szO (mapO (fun (x4 : Int) => (atI a_cells (x4 - 1)).bind fun v5 => (atI a_cells x4).bind fun v6 => (modO (x4 + 1) x1).bind fun v7 => (atI a_cells v7).bind fun v8 => (t__new a_rule v5 v6 v8).bind fun v9 => some v9) r3)).bind fun y10 =>
some y10
theorem sim_ran {a_rule : Int} {a_cells : (List Int)} {r : (List Int)} (h : t_ran a_rule a_cells = some r) : F_ran [.sh (eI a_rule), .sh ((eT eI) a_cells)] = some (.sh ((eT eI) r), [.sh (eI a_rule), .sh ((eT eI) a_cells)]) := by
  unfold t_ran at h
  refine run_wp rfl (fun i => by intro z; cases z) ?_
  show Wp (g_ran [.sh (eI a_rule), .sh ((eT eI) a_cells), .no, .no]) _
  unfold g_ran
  obtain ⟨x1, hx1, h⟩ := bnd h
  refine wp_seq (ρ1 := [.sh (eI a_rule), .sh ((eT eI) a_cells), .sh (eI x1), .no]) (by rw [← Option.some.inj hx1]; exact (set_s (pk_s (call_s (ac_ ev_1 (an_ _)) rfl (lenT_e (e := eI) a_cells))))) ?_
  obtain ⟨r3, hr3, h⟩ := bnd h
  obtain ⟨y10, hy10, h⟩ := bnd h
  refine wp_ret (fr_s (call_s (ac_ (lm_ (W := [.sh (eI a_rule), .sh ((eT eI) a_cells), .sh (eI x1), .no]) (e := eI) (e' := eI) (irng_ (e := eI) (ac_ ev_2 (an_ _)) rfl (rng1_t hr3)) rfl rfl (fun x4 _ _ h => by obtain ⟨v5, hv5, h⟩ := bnd h; obtain ⟨v6, hv6, h⟩ := bnd h; obtain ⟨v7, hv7, h⟩ := bnd h; obtain ⟨v8, hv8, h⟩ := bnd h; obtain ⟨v9, hv9, h⟩ := bnd h; rw [← Option.some.inj h]; exact ⟨[.sh (eI a_rule), .sh ((eT eI) a_cells), .sh (eI x1), .sh (eI x4)], [.sh (eI a_rule), .sh ((eT eI) a_cells), .sh (eI x1), .sh (eI x4)], rfl, (fr_s (fn_s (ρ2 := [.sh (eI a_rule), .sh ((eT eI) a_cells), .sh (eI x1), .sh (eI x4)]) (ac_ (fr_s ev_0) (ac_ (fr_s (bin_s ev_1 (bin_s ev_3 (ec _ _) (sub_i _ _)) (ixt_e (e := eI) hv5))) (ac_ (fr_s (bin_s ev_1 ev_3 (ixt_e (e := eI) hv6))) (ac_ (fr_s (bin_s ev_1 (bin_s (bin_s ev_3 (ec _ _) (add_i _ _)) ev_2 (mod_t hv7)) (ixt_e (e := eI) hv8))) (an_ _))))) rfl rfl (sim__new (a_rule := a_rule) (a_left := v5) (a_middle := v6) (a_right := v8) hv9) rfl)), rfl⟩) hy10) (an_ _)) rfl (tupL_e (e := eI) y10))) ?_
  cases h
  exact rt_i rfl rfl
/-! orbit_of -/
def t_orbit_of (a_rule : Int) (a_cells : (List Int)) : Option (Int × Int) :=
whileB (r := (Int × Int)) (fun (s1 : ((List Int) × (List ((List Int) × Int)) × Int)) => some (!dhas (EqE.eq (eT eI)) s1.2.1 s1.1)) (fun (s1 : ((List Int) × (List ((List Int) × Int)) × Int)) => (dputO (EqE.eq (eT eI)) s1.2.1 s1.1 s1.2.2).bind fun v2 =>
(some (s1.2.2 + 1)).bind fun x3 =>
(t_ran a_rule s1.1).bind fun v4 =>
some (.nx (v4, v2, x3))) 1048576 (a_cells, [], 0) (fun (s5 : ((List Int) × (List ((List Int) × Int)) × Int)) => (dgetO (EqE.eq (eT eI)) s5.2.1 s5.1).bind fun v6 =>
(dgetO (EqE.eq (eT eI)) s5.2.1 s5.1).bind fun v7 =>
some (v6, (s5.2.2 - v7))) (fun x => some x)
theorem sim_orbit_of {a_rule : Int} {a_cells : (List Int)} {r : (Int × Int)} (h : t_orbit_of a_rule a_cells = some r) : F_orbit_of [.sh (eI a_rule), .sh ((eT eI) a_cells)] = some (.sh ((e2 eI eI) r), [.sh (eI a_rule), .sh ((eT eI) a_cells)]) := by
  unfold t_orbit_of at h
  refine run_wp rfl (fun i => by intro z; cases z) ?_
  show Wp (g_orbit_of [.sh (eI a_rule), .sh ((eT eI) a_cells), .no, .no]) _
  unfold g_orbit_of
  refine wp_seq (ρ1 := [.sh (eI a_rule), .sh ((eT eI) a_cells), .ow (.dtn (List.map (ekv (eT eI) eI) [])), .no]) (set_o (dtn_ _)) ?_
  refine wp_seq (ρ1 := [.sh (eI a_rule), .sh ((eT eI) a_cells), .ow (.dtn (List.map (ekv (eT eI) eI) [])), .sh (eI 0)]) (set_s (ec _ _)) ?_
  refine wp_seqW (wp_while (R := (fun (s1 : ((List Int) × (List ((List Int) × Int)) × Int)) ρ => ρ = [.sh (eI a_rule), .sh ((eT eI) s1.1), .ow (.dtn (List.map (ekv (eT eI) eI) s1.2.1)), .sh (eI s1.2.2)])) (Qr := fun (x : (Int × Int)) => Rt [.sh (eI a_rule), .sh ((eT eI) a_cells)] [] (.sh ((e2 eI eI) x)) [.sh (eI a_rule), .sh ((eT eI) a_cells)]) (s0 := (a_cells, [], 0)) rfl (fun s1 ρ k hR h => ?_) (fun s1 s' ρ hR hc h => ?_) h ?_ (fun x rv ρ hk hq => by cases hk; exact hq))
  · obtain rfl := hR
    rw [← Option.some.inj h]
    exact ⟨[.sh (eI a_rule), .sh ((eT eI) s1.1), .ow (.dtn (List.map (ekv (eT eI) eI) s1.2.1)), .sh (eI s1.2.2)], (tb_ (bin_gs (pk_s ev_1) (pk_al eva_2) rfl rfl (ninN_e (ek := (eT eI)) (ev := eI) s1.2.1 s1.1))), rfl⟩
  · obtain rfl := hR
    obtain ⟨v2, hv2, h⟩ := bnd h
    refine wp_seq (ρ1 := [.sh (eI a_rule), .sh ((eT eI) s1.1), .ow (.dtn (List.map (ekv (eT eI) eI) v2)), .sh (eI s1.2.2)]) (asg_ (fr_s ev_3) (tsub_ eva_2 (pk_s ev_1) rfl rfl (setN_e (ek := (eT eI)) (ev := eI) hv2))) ?_
    obtain ⟨x3, hx3, h⟩ := bnd h
    refine wp_seq (ρ1 := [.sh (eI a_rule), .sh ((eT eI) s1.1), .ow (.dtn (List.map (ekv (eT eI) eI) v2)), .sh (eI x3)]) (by rw [← Option.some.inj hx3]; exact (aug_ rfl (pk_s (ec _ _)) rfl (iadd_i _ _))) ?_
    obtain ⟨v4, hv4, h⟩ := bnd h
    refine wp_st (ρ1 := [.sh (eI a_rule), .sh ((eT eI) v4), .ow (.dtn (List.map (ekv (eT eI) eI) v2)), .sh (eI x3)]) (set_s (pk_s (fn_s (ρ2 := [.sh (eI a_rule), .sh ((eT eI) s1.1), .ow (.dtn (List.map (ekv (eT eI) eI) v2)), .sh (eI x3)]) (ac_ (fr_s ev_0) (ac_ (fr_s ev_1) (an_ _))) rfl rfl (sim_ran (a_rule := a_rule) (a_cells := s1.1) hv4) rfl))) ?_
    cases h
    exact pb_nx rfl
  · intro s5 ρ hR h
    obtain rfl := hR
    refine qs_nx ?_
    obtain ⟨v6, hv6, h⟩ := bnd h
    obtain ⟨v7, hv7, h⟩ := bnd h
    refine wp_ret (tup_ (ac_ (fr_s (bin_gs (pk_al eva_2) (pk_s ev_1) rfl rfl (ixN_e (ek := (eT eI)) (ev := eI) hv6))) (ac_ (fr_s (bin_s ev_3 (bin_gs (pk_al eva_2) (pk_s ev_1) rfl rfl (ixN_e (ek := (eT eI)) (ev := eI) hv7)) (sub_i _ _))) (an_ _))) rfl (few' rfl)) ?_
    cases h
    exact rt_i rfl rfl
/-! count_kept -/
def t_count_kept (a_rule : Int) (a_n : Int) : Option Int :=
(szO (catO (fun (x2 : Int) => mapO (fun (x3 : Int) => some (x2, x3)) [0, 1]) [0, 1])).bind fun y4 =>
(foldO (fun (x14 : (Int × Int)) (s5 : Int) => (some [(x14, 1)]).bind fun x15 =>
(rngO1 a_n).bind fun r16 =>
(foldO (fun (x24 : Int) (s17 : (List ((Int × Int) × Int))) => (foldO (fun (x30 : (Int × Int)) (s25 : (List ((Int × Int) × Int))) => (foldO (fun (x34 : Int) (s31 : (List ((Int × Int) × Int))) => (t__new a_rule x30.1 x30.2 x34).bind fun v35 =>
if (decide (v35 = x30.2)) = true then ((dgetO (EqE.eq (e2 eI eI)) s17 (x30.1, x30.2)).bind fun v37 =>
(dputO (EqE.eq (e2 eI eI)) s31 (x30.2, x34) (((dgetO (EqE.eq (e2 eI eI)) s31 (x30.2, x34)).getD 0) + v37)).bind fun v38 =>
some v38) else (some s31)) [0, 1] s25).bind fun (s39 : (List ((Int × Int) × Int))) =>
some s39) (List.map Prod.fst s17) []).bind fun (s42 : (List ((Int × Int) × Int))) =>
some s42) r16 x15).bind fun (s47 : (List ((Int × Int) × Int))) =>
(some (s5 + ((dgetO (EqE.eq (e2 eI eI)) s47 x14).getD 0))).bind fun x54 =>
some x54) y4 0).bind fun (s55 : Int) =>
some s55
theorem sim_count_kept {a_rule : Int} {a_n : Int} {r : Int} (h : t_count_kept a_rule a_n = some r) : F_count_kept [.sh (eI a_rule), .sh (eI a_n)] = some (.sh (eI r), [.sh (eI a_rule), .sh (eI a_n)]) := by
  unfold t_count_kept at h
  refine run_wp rfl (fun i => by intro z; cases z) ?_
  show Wp (g_count_kept [.sh (eI a_rule), .sh (eI a_n), .no, .no, .no, .no, .no, .no, .no, .no, .no, .no]) _
  unfold g_count_kept
  obtain ⟨y4, hy4, h⟩ := bnd h
  refine wp_seq (ρ1 := [.sh (eI a_rule), .sh (eI a_n), .sh ((eL (e2 eI eI)) y4), .no, .no, .no, .no, .no, .no, .no, .no, .no]) (set_s (pk_o (lc2_ (W := [.sh (eI a_rule), .sh (eI a_n), .no, .no, .no, .no, .no, .no, .no, .no, .no, .no]) (e := eI) (e' := (e2 eI eI)) (iseq_t (e := eI) (fr_s (tup_ (ac_ (ec _ _) (ac_ (ec _ _) (an_ _))) rfl (few' rfl)))) rfl rfl (fun x2 _ _ h => by exact ⟨[.sh (eI a_rule), .sh (eI a_n), .no, .no, .no, .no, .no, .no, .sh (eI x2), .no, .no, .no], rfl, (inn_m (ρ3 := [.sh (eI a_rule), .sh (eI a_n), .no, .no, .no, .no, .no, .no, .sh (eI x2), .no, .no, .no]) (W1 := [.sh (eI a_rule), .sh (eI a_n), .no, .no, .no, .no, .no, .no, .sh (eI x2), .no, .no, .no]) (e1 := eI) rfl (iseq_t (e := eI) (fr_s (tup_ (ac_ (ec _ _) (ac_ (ec _ _) (an_ _))) rfl (few' rfl)))) (by decide) rfl rfl h (fun x3 _ _ h => by rw [← Option.some.inj h]; exact ⟨[.sh (eI a_rule), .sh (eI a_n), .no, .no, .no, .no, .no, .no, .sh (eI x2), .sh (eI x3), .no, .no], [.sh (eI a_rule), .sh (eI a_n), .no, .no, .no, .no, .no, .no, .sh (eI x2), .sh (eI x3), .no, .no], rfl, (fr_s (tup_ (ac_ (fr_s ev_8) (ac_ (fr_s ev_9) (an_ _))) rfl (few' rfl))), rfl⟩))⟩) hy4))) ?_
  refine wp_seq (ρ1 := [.sh (eI a_rule), .sh (eI a_n), .sh ((eL (e2 eI eI)) y4), .sh (eI 0), .no, .no, .no, .no, .no, .no, .no, .no]) (set_s (ec _ _)) ?_
  refine wp_seqW (wp_fold (R := (fun (s5 : Int) ρ => ∃ j6 j7 j8 j9 j10 j11 j12 j13, ρ = [.sh (eI a_rule), .sh (eI a_n), .sh ((eL (e2 eI eI)) y4), .sh (eI s5), j6, j7, j8, j9, j10, j11, j12, j13])) (e := (e2 eI eI)) (s0 := 0) (iseq_l (e := (e2 eI eI)) (fr_s ev_2)) ⟨_, _, _, _, _, _, _, _, rfl⟩ (fun x14 s5 s' ρ hx hR h => ?_) h ?_)
  · obtain ⟨j6, j7, j8, j9, j10, j11, j12, j13, rfl⟩ := hR
    refine ⟨[.sh (eI a_rule), .sh (eI a_n), .sh ((eL (e2 eI eI)) y4), .sh (eI s5), .sh ((e2 eI eI) x14), j7, j8, j9, j10, j11, j12, j13], rfl, ?_⟩
    obtain ⟨x15, hx15, h⟩ := bnd h
    refine wp_seq (ρ1 := [.sh (eI a_rule), .sh (eI a_n), .sh ((eL (e2 eI eI)) y4), .sh (eI s5), .sh ((e2 eI eI) x14), .fd (.dtn (List.map (ekv (e2 eI eI) eI) x15)), j8, j9, j10, j11, j12, j13]) (by rw [← Option.some.inj hx15]; exact (set_f (fz_n (disp1_ (ek := (e2 eI eI)) (ev := eI) (k := x14) (v := 1) ev_4 (fr_s (ec _ _)))))) ?_
    obtain ⟨r16, hr16, h⟩ := bnd h
    refine wp_seqW (wp_fold (R := (fun (s17 : (List ((Int × Int) × Int))) ρ => ∃ j18 j19 j20 j21 j22 j23, ρ = [.sh (eI a_rule), .sh (eI a_n), .sh ((eL (e2 eI eI)) y4), .sh (eI s5), .sh ((e2 eI eI) x14), .fd (.dtn (List.map (ekv (e2 eI eI) eI) s17)), j18, j19, j20, j21, j22, j23])) (e := eI) (s0 := x15) (irng_ (e := eI) (ac_ ev_1 (an_ _)) rfl (rng1_t hr16)) ⟨_, _, _, _, _, _, rfl⟩ (fun x24 s17 s' ρ hx hR h => ?_) h ?_)
    · obtain ⟨j18, j19, j20, j21, j22, j23, rfl⟩ := hR
      refine ⟨[.sh (eI a_rule), .sh (eI a_n), .sh ((eL (e2 eI eI)) y4), .sh (eI s5), .sh ((e2 eI eI) x14), .fd (.dtn (List.map (ekv (e2 eI eI) eI) s17)), .sh (eI x24), j19, j20, j21, j22, j23], rfl, ?_⟩
      refine wp_seq (ρ1 := [.sh (eI a_rule), .sh (eI a_n), .sh ((eL (e2 eI eI)) y4), .sh (eI s5), .sh ((e2 eI eI) x14), .fd (.dtn (List.map (ekv (e2 eI eI) eI) s17)), .sh (eI x24), .ow (.dtn (List.map (ekv (e2 eI eI) eI) [])), j20, j21, j22, j23]) (set_o (dtn_ _)) ?_
      refine wp_seqW (wp_fold (R := (fun (s25 : (List ((Int × Int) × Int))) ρ => ∃ j26 j27 j28 j29, ρ = [.sh (eI a_rule), .sh (eI a_n), .sh ((eL (e2 eI eI)) y4), .sh (eI s5), .sh ((e2 eI eI) x14), .fd (.dtn (List.map (ekv (e2 eI eI) eI) s17)), .sh (eI x24), .ow (.dtn (List.map (ekv (e2 eI eI) eI) s25)), j26, j27, j28, j29])) (e := (e2 eI eI)) (s0 := []) (ikeys_n (ek := (e2 eI eI)) (ev := eI) (evf (i := 5) rfl)) ⟨_, _, _, _, rfl⟩ (fun x30 s25 s' ρ hx hR h => ?_) h ?_)
      · obtain ⟨j26, j27, j28, j29, rfl⟩ := hR
        refine ⟨[.sh (eI a_rule), .sh (eI a_n), .sh ((eL (e2 eI eI)) y4), .sh (eI s5), .sh ((e2 eI eI) x14), .fd (.dtn (List.map (ekv (e2 eI eI) eI) s17)), .sh (eI x24), .ow (.dtn (List.map (ekv (e2 eI eI) eI) s25)), .sh (eI x30.1), .sh (eI x30.2), j28, j29], rfl, ?_⟩
        refine (wp_fold (R := (fun (s31 : (List ((Int × Int) × Int))) ρ => ∃ j32 j33, ρ = [.sh (eI a_rule), .sh (eI a_n), .sh ((eL (e2 eI eI)) y4), .sh (eI s5), .sh ((e2 eI eI) x14), .fd (.dtn (List.map (ekv (e2 eI eI) eI) s17)), .sh (eI x24), .ow (.dtn (List.map (ekv (e2 eI eI) eI) s31)), .sh (eI x30.1), .sh (eI x30.2), j32, j33])) (e := eI) (s0 := s25) (iseq_t (e := eI) (fr_s (tup_ (ac_ (ec _ _) (ac_ (ec _ _) (an_ _))) rfl (few' rfl)))) ⟨_, _, rfl⟩ (fun x34 s31 s' ρ hx hR h => ?_) h ?_)
        · obtain ⟨j32, j33, rfl⟩ := hR
          refine ⟨[.sh (eI a_rule), .sh (eI a_n), .sh ((eL (e2 eI eI)) y4), .sh (eI s5), .sh ((e2 eI eI) x14), .fd (.dtn (List.map (ekv (e2 eI eI) eI) s17)), .sh (eI x24), .ow (.dtn (List.map (ekv (e2 eI eI) eI) s31)), .sh (eI x30.1), .sh (eI x30.2), .sh (eI x34), j33], rfl, ?_⟩
          obtain ⟨v35, hv35, h⟩ := bnd h
          refine ite_elim h (fun c36 h => ?_) (fun c36 h => ?_)
          · refine wp_if_t (tb_ (bin_s (fn_s (ρ2 := [.sh (eI a_rule), .sh (eI a_n), .sh ((eL (e2 eI eI)) y4), .sh (eI s5), .sh ((e2 eI eI) x14), .fd (.dtn (List.map (ekv (e2 eI eI) eI) s17)), .sh (eI x24), .ow (.dtn (List.map (ekv (e2 eI eI) eI) s31)), .sh (eI x30.1), .sh (eI x30.2), .sh (eI x34), j33]) (ac_ (fr_s ev_0) (ac_ (fr_s ev_8) (ac_ (fr_s ev_9) (ac_ (fr_s ev_10) (an_ _))))) rfl rfl (sim__new (a_rule := a_rule) (a_left := x30.1) (a_middle := x30.2) (a_right := x34) hv35) rfl) ev_9 (eq_i _ _))) c36 ?_
            refine wp_seq (ρ1 := [.sh (eI a_rule), .sh (eI a_n), .sh ((eL (e2 eI eI)) y4), .sh (eI s5), .sh ((e2 eI eI) x14), .fd (.dtn (List.map (ekv (e2 eI eI) eI) s17)), .sh (eI x24), .ow (.dtn (List.map (ekv (e2 eI eI) eI) s31)), .sh (eI x30.1), .sh (eI x30.2), .sh (eI x34), .sh ((e2 eI eI) (x30.2, x34))]) (set_s (tup_ (ac_ (fr_s ev_9) (ac_ (fr_s ev_10) (an_ _))) rfl (few' rfl))) ?_
            obtain ⟨v37, hv37, h⟩ := bnd h
            obtain ⟨v38, hv38, h⟩ := bnd h
            refine wp_st (ρ1 := [.sh (eI a_rule), .sh (eI a_n), .sh ((eL (e2 eI eI)) y4), .sh (eI s5), .sh ((e2 eI eI) x14), .fd (.dtn (List.map (ekv (e2 eI eI) eI) s17)), .sh (eI x24), .ow (.dtn (List.map (ekv (e2 eI eI) eI) v38)), .sh (eI x30.1), .sh (eI x30.2), .sh (eI x34), .sh ((e2 eI eI) (x30.2, x34))]) (asg_ (fr_s (bin_s (dgetA_ eva_7 rfl rfl (pk_s ev_11) rfl (fr_s (ec _ _)) (getA_n (ek := (e2 eI eI)) (ev := eI) (kvs := s31) (x30.2, x34) 0)) (bin_gs (pk_f (evf (i := 5) rfl)) (pk_s (tup_ (ac_ (fr_s ev_8) (ac_ (fr_s ev_9) (an_ _))) rfl (few' rfl))) rfl rfl (ixN_e (ek := (e2 eI eI)) (ev := eI) hv37)) (add_i _ _))) (tsub_ eva_7 (pk_s ev_11) rfl rfl (setN_e (ek := (e2 eI eI)) (ev := eI) hv38))) ?_
            cases h
            exact ⟨_, .inl rfl, ⟨_, _, rfl⟩⟩
          · refine wp_if_f (tb_ (bin_s (fn_s (ρ2 := [.sh (eI a_rule), .sh (eI a_n), .sh ((eL (e2 eI eI)) y4), .sh (eI s5), .sh ((e2 eI eI) x14), .fd (.dtn (List.map (ekv (e2 eI eI) eI) s17)), .sh (eI x24), .ow (.dtn (List.map (ekv (e2 eI eI) eI) s31)), .sh (eI x30.1), .sh (eI x30.2), .sh (eI x34), j33]) (ac_ (fr_s ev_0) (ac_ (fr_s ev_8) (ac_ (fr_s ev_9) (ac_ (fr_s ev_10) (an_ _))))) rfl rfl (sim__new (a_rule := a_rule) (a_left := x30.1) (a_middle := x30.2) (a_right := x34) hv35) rfl) ev_9 (eq_i _ _))) c36 ?_
            refine wp_nil ?_
            cases h
            exact ⟨_, .inl rfl, ⟨_, _, rfl⟩⟩
        · intro s39 ρ hR h
          obtain ⟨j40, j41, rfl⟩ := hR
          cases h
          exact ⟨_, .inl rfl, ⟨_, _, _, _, rfl⟩⟩
      · intro s42 ρ hR h
        obtain ⟨j43, j44, j45, j46, rfl⟩ := hR
        refine qs_nx ?_
        refine wp_st (ρ1 := [.sh (eI a_rule), .sh (eI a_n), .sh ((eL (e2 eI eI)) y4), .sh (eI s5), .sh ((e2 eI eI) x14), .fd (.dtn (List.map (ekv (e2 eI eI) eI) s42)), .sh (eI x24), .fd (.dtn (List.map (ekv (e2 eI eI) eI) s42)), j43, j44, j45, j46]) (set_f (fz_aln eva_7 rfl)) ?_
        cases h
        exact ⟨_, .inl rfl, ⟨_, _, _, _, _, _, rfl⟩⟩
    · intro s47 ρ hR h
      obtain ⟨j48, j49, j50, j51, j52, j53, rfl⟩ := hR
      refine qs_nx ?_
      obtain ⟨x54, hx54, h⟩ := bnd h
      refine wp_st (ρ1 := [.sh (eI a_rule), .sh (eI a_n), .sh ((eL (e2 eI eI)) y4), .sh (eI x54), .sh ((e2 eI eI) x14), .fd (.dtn (List.map (ekv (e2 eI eI) eI) s47)), j48, j49, j50, j51, j52, j53]) (by rw [← Option.some.inj hx54]; exact (aug_ rfl (pk_s (dgetA_ (evf (i := 5) rfl) rfl rfl (pk_s ev_4) rfl (fr_s (ec _ _)) (getA_n (ek := (e2 eI eI)) (ev := eI) (kvs := s47) x14 0))) rfl (iadd_i _ _))) ?_
      cases h
      exact ⟨_, .inl rfl, ⟨_, _, _, _, _, _, _, _, rfl⟩⟩
  · intro s55 ρ hR h
    obtain ⟨j56, j57, j58, j59, j60, j61, j62, j63, rfl⟩ := hR
    refine qs_nx ?_
    refine wp_ret (fr_s ev_3) ?_
    cases h
    exact rt_i rfl rfl
/-! rule_form -/
def t_rule_form (a_rule : Int) : Option (Int × Int × Int) :=
(szO (catO (fun (x2 : Int) => mapO (fun (x3 : Int) => (t_rule_turned a_rule x2 x3).bind fun v4 => some (v4, x2, x3)) [0, 1]) [0, 1])).bind fun y5 =>
(minO (e3 eI eI eI) y5).bind fun v6 =>
some v6
theorem sim_rule_form {a_rule : Int} {r : (Int × Int × Int)} (h : t_rule_form a_rule = some r) : F_rule_form [.sh (eI a_rule)] = some (.sh ((e3 eI eI eI) r), [.sh (eI a_rule)]) := by
  unfold t_rule_form at h
  refine run_wp rfl (fun i => by intro z; cases z) ?_
  show Wp (g_rule_form [.sh (eI a_rule), .no, .no]) _
  unfold g_rule_form
  obtain ⟨y5, hy5, h⟩ := bnd h
  obtain ⟨v6, hv6, h⟩ := bnd h
  refine wp_ret (fr_s (call_s (ac_ (lc2_ (W := [.sh (eI a_rule), .no, .no]) (e := eI) (e' := (e3 eI eI eI)) (iseq_t (e := eI) (fr_s (tup_ (ac_ (ec _ _) (ac_ (ec _ _) (an_ _))) rfl (few' rfl)))) rfl rfl (fun x2 _ _ h => by exact ⟨[.sh (eI a_rule), .sh (eI x2), .no], rfl, (inn_m (ρ3 := [.sh (eI a_rule), .sh (eI x2), .no]) (W1 := [.sh (eI a_rule), .sh (eI x2), .no]) (e1 := eI) rfl (iseq_t (e := eI) (fr_s (tup_ (ac_ (ec _ _) (ac_ (ec _ _) (an_ _))) rfl (few' rfl)))) (by decide) rfl rfl h (fun x3 _ _ h => by obtain ⟨v4, hv4, h⟩ := bnd h; rw [← Option.some.inj h]; exact ⟨[.sh (eI a_rule), .sh (eI x2), .sh (eI x3)], [.sh (eI a_rule), .sh (eI x2), .sh (eI x3)], rfl, (fr_s (tup_ (ac_ (fr_s (fn_s (ρ2 := [.sh (eI a_rule), .sh (eI x2), .sh (eI x3)]) (ac_ (fr_s ev_0) (ac_ (fr_s ev_1) (ac_ (fr_s ev_2) (an_ _)))) rfl rfl (sim_rule_turned (a_rule := a_rule) (a_mirror := x2) (a_over := x3) hv4) rfl)) (ac_ (fr_s ev_1) (ac_ (fr_s ev_2) (an_ _)))) rfl (few' rfl))), rfl⟩))⟩) hy5) (an_ _)) rfl (minL_e hv6))) ?_
  cases h
  exact rt_i rfl rfl
/-! all_rules -/
def t_all_rules  : Option (List Int) :=
(szO (lcO (fun (x2 : Int) => (t_rule_form x2).bind fun v3 => if (decide (v3.1 = x2)) = true then (some (some x2)) else some none) (rangeI 0 (Int.toNat 256)))).bind fun y4 =>
some y4
theorem sim_all_rules  {r : (List Int)} (h : t_all_rules  = some r) : F_all_rules [] = some (.sh ((eT eI) r), []) := by
  unfold t_all_rules at h
  refine run_wp rfl (fun i => by intro z; cases z) ?_
  show Wp (g_all_rules [.no]) _
  unfold g_all_rules
  obtain ⟨y4, hy4, h⟩ := bnd h
  refine wp_ret (fr_s (call_s (ac_ (lc_ (W := [.no]) (e := eI) (e' := eI) (irng_ (e := eI) (ac_ (ec _ _) (an_ _)) rfl (rng1_l _)) rfl rfl (fun x2 _ _ h => by obtain ⟨v3, hv3, h⟩ := bnd h; exact ite_elim h (fun c1 h => by rw [← Option.some.inj h]; exact ⟨[.sh (eI x2)], rfl, _, _, tcong (tb_ (bin_s (bin_s (fn_s (ρ2 := [.sh (eI x2)]) (ac_ (fr_s ev_0) (an_ _)) rfl rfl (sim_rule_form (a_rule := x2) hv3) rfl) (ec _ _) (show ixA ((e3 eI eI eI) v3) (eI 0) = some (.sh (eI v3.1)) from rfl)) ev_0 (eq_i _ _))) c1, (fr_s ev_0), rfl⟩) (fun c1 h => by rw [← Option.some.inj h]; exact ⟨[.sh (eI x2)], rfl, _, tcong (tb_ (bin_s (bin_s (fn_s (ρ2 := [.sh (eI x2)]) (ac_ (fr_s ev_0) (an_ _)) rfl rfl (sim_rule_form (a_rule := x2) hv3) rfl) (ec _ _) (show ixA ((e3 eI eI eI) v3) (eI 0) = some (.sh (eI v3.1)) from rfl)) ev_0 (eq_i _ _))) c1, rfl⟩)) hy4) (an_ _)) rfl (tupL_e (e := eI) y4))) ?_
  cases h
  exact rt_i rfl rfl
/-! _law_cells -/
def t__law_cells (ds : List Int) (a_w : Nat) : Option ((List Int) × Nat) :=
(nextO ds a_w 9).bind fun v2 =>
(rngO1 (1 + v2.1)).bind fun r3 =>
(szwO (lcwO (fun (x7 : Int) (n8 : Nat) => (nextO ds n8 2).bind fun v9 => some (some v9.1, v9.2)) r3 v2.2)).bind fun y10 =>
some (y10.1, y10.2)
theorem sim__law_cells (ds : List Int) {a_w : Nat} {r : ((List Int) × Nat)} (h : t__law_cells ds a_w = some r) : F__law_cells [.ow (W1 ds a_w)] = some (.sh ((eT eI) r.1), [.ow (W1 ds r.2)]) := by
  unfold t__law_cells at h
  refine run_wp rfl (fun i => by intro z; cases z) ?_
  show Wp (g__law_cells [.ow (W1 ds a_w), .no]) _
  unfold g__law_cells
  obtain ⟨v2, hv2, h⟩ := bnd h
  obtain ⟨r3, hr3, h⟩ := bnd h
  obtain ⟨y10, hy10, h⟩ := bnd h
  refine wp_ret (fr_s (call_s (ac_ (lcw_ (W := fun n8 => [.ow (W1 ds n8), .no]) (B := fun n8 => [.ow (W1 ds n8), .no]) (s := v2.2) (s' := y10.2) (e := eI) (e' := eI) (irng_ (e := eI) (ac_ (bin_s (ec _ _) (fn_s (ρ2 := [.ow (W1 ds v2.2), .no]) (ac_ eva_0 (ac_ (ec _ _) (an_ _))) rfl rfl (sim_next hv2) rfl) (add_i _ _)) (an_ _)) rfl (rng1_t hr3)) rfl rfl (fun x7 n8 _ _ h => by obtain ⟨v9, hv9, h⟩ := bnd h; rw [← Option.some.inj h]; exact ⟨[.ow (W1 ds n8), .sh (eI x7)], rfl, _, [.ow (W1 ds v9.2), .sh (eI x7)], rfl, (fr_s (fn_s (ρ2 := [.ow (W1 ds v9.2), .sh (eI x7)]) (ac_ eva_0 (ac_ (ec _ _) (an_ _))) rfl rfl (sim_next hv9) rfl)), rfl⟩) (fun _ => rfl) (fun _ => rfl) hy10) (an_ _)) rfl (tupL_e (e := eI) y10.1))) ?_
  cases h
  exact rt_i rfl rfl
/-! lost_row -/
def t_lost_row (a_rule : Int) : Option (Option (List Int)) :=
(szO (catO (fun (x2 : Int) => mapO (fun (x3 : Int) => some (x2, x3)) [0, 1]) [0, 1])).bind fun y4 =>
(some [(y4, [])]).bind fun x5 =>
whileB (r := (Option (List Int))) (fun (s6 : ((List ((List (Int × Int)) × (List Int))) × (List (List (Int × Int))) × Int)) => some (decide (s6.2.2 < (List.length s6.2.1 : Int)))) (fun (s6 : ((List ((List (Int × Int)) × (List Int))) × (List (List (Int × Int))) × Int)) => forB (r := (Option (List Int))) (fun (x20 : Int) (s13 : ((List ((List (Int × Int)) × (List Int))) × (List (List (Int × Int))))) => (atI s13.2 s6.2.2).bind fun v21 =>
(foldO (fun (x26 : (Int × Int)) (s22 : (List ((Int × Int) × Bool))) => (foldO (fun (x29 : Int) (s27 : (List ((Int × Int) × Bool))) => (t__new a_rule x26.1 x26.2 x29).bind fun v30 =>
if (decide (v30 = x20)) = true then ((dputO (EqE.eq (e2 eI eI)) s27 (x26.2, x29) true).bind fun v32 =>
some v32) else (some s27)) [0, 1] s22).bind fun (s33 : (List ((Int × Int) × Bool))) =>
some s33) v21 []).bind fun (s35 : (List ((Int × Int) × Bool))) =>
(sortO (e2 eI eI) (List.map Prod.fst s35)).bind fun v39 =>
(if (!dhas (EqE.eq (eT (e2 eI eI))) s13.1 v39) = true then ((atI s13.2 s6.2.2).bind fun v46 =>
(dgetO (EqE.eq (eT (e2 eI eI))) s13.1 v46).bind fun v47 =>
(plusO v47 [x20]).bind fun v48 =>
(dputO (EqE.eq (eT (e2 eI eI))) s13.1 v39 v48).bind fun v49 =>
(pushO s13.2 v39).bind fun v50 =>
some (v49, v50)) else (some (s13.1, s13.2))).bind fun s51 =>
if (!(!List.isEmpty v39)) = true then ((dgetO (EqE.eq (eT (e2 eI eI))) s51.1 v39).bind fun v53 =>
some (.rt (some v53))) else (some (.nx (s51.1, s51.2)))) [0, 1] (s6.1, s6.2.1) (fun (s54 : ((List ((List (Int × Int)) × (List Int))) × (List (List (Int × Int))))) => (some (s6.2.2 + 1)).bind fun x61 =>
some (.nx (s54.1, s54.2, x61))) (fun x => some (.rt x))) 1048576 (x5, [y4], 0) (fun (s62 : ((List ((List (Int × Int)) × (List Int))) × (List (List (Int × Int))) × Int)) => some none) (fun x => some x)
theorem sim_lost_row {a_rule : Int} {r : (Option (List Int))} (h : t_lost_row a_rule = some r) : F_lost_row [.sh (eI a_rule)] = some (.sh ((eO (eT eI)) r), [.sh (eI a_rule)]) := by
  unfold t_lost_row at h
  refine run_wp rfl (fun i => by intro z; cases z) ?_
  show Wp (g_lost_row [.sh (eI a_rule), .no, .no, .no, .no, .no, .no, .no, .no, .no, .no]) _
  unfold g_lost_row
  obtain ⟨y4, hy4, h⟩ := bnd h
  refine wp_seq (ρ1 := [.sh (eI a_rule), .sh ((eT (e2 eI eI)) y4), .no, .no, .no, .no, .no, .no, .no, .no, .no]) (set_s (pk_s (call_s (ac_ (lc2_ (W := [.sh (eI a_rule), .no, .no, .no, .no, .no, .no, .no, .no, .no, .no]) (e := eI) (e' := (e2 eI eI)) (iseq_t (e := eI) (fr_s (tup_ (ac_ (ec _ _) (ac_ (ec _ _) (an_ _))) rfl (few' rfl)))) rfl rfl (fun x2 _ _ h => by exact ⟨[.sh (eI a_rule), .no, .no, .no, .no, .no, .no, .sh (eI x2), .no, .no, .no], rfl, (inn_m (ρ3 := [.sh (eI a_rule), .no, .no, .no, .no, .no, .no, .sh (eI x2), .no, .no, .no]) (W1 := [.sh (eI a_rule), .no, .no, .no, .no, .no, .no, .sh (eI x2), .no, .no, .no]) (e1 := eI) rfl (iseq_t (e := eI) (fr_s (tup_ (ac_ (ec _ _) (ac_ (ec _ _) (an_ _))) rfl (few' rfl)))) (by decide) rfl rfl h (fun x3 _ _ h => by rw [← Option.some.inj h]; exact ⟨[.sh (eI a_rule), .no, .no, .no, .no, .no, .no, .sh (eI x2), .sh (eI x3), .no, .no], [.sh (eI a_rule), .no, .no, .no, .no, .no, .no, .sh (eI x2), .sh (eI x3), .no, .no], rfl, (fr_s (tup_ (ac_ (fr_s ev_7) (ac_ (fr_s ev_8) (an_ _))) rfl (few' rfl))), rfl⟩))⟩) hy4) (an_ _)) rfl (tupL_e (e := (e2 eI eI)) y4)))) ?_
  obtain ⟨x5, hx5, h⟩ := bnd h
  refine wp_seq (ρ1 := [.sh (eI a_rule), .sh ((eT (e2 eI eI)) y4), .ow (.dtn (List.map (ekv (eT (e2 eI eI)) (eT eI)) x5)), .no, .no, .no, .no, .no, .no, .no, .no]) (by rw [← Option.some.inj hx5]; exact (set_o (disp1_ (ek := (eT (e2 eI eI))) (ev := (eT eI)) (k := y4) (v := []) ev_1 (fr_s (tup_ (an_ _) rfl (few' rfl)))))) ?_
  refine wp_seq (ρ1 := [.sh (eI a_rule), .sh ((eT (e2 eI eI)) y4), .ow (.dtn (List.map (ekv (eT (e2 eI eI)) (eT eI)) x5)), .ow (.lst (List.map (eT (e2 eI eI)) [y4])), .no, .no, .no, .no, .no, .no, .no]) (set_o (lst_ (ac_ (fr_s ev_1) (an_ _)) rfl (few' rfl))) ?_
  refine wp_seq (ρ1 := [.sh (eI a_rule), .sh ((eT (e2 eI eI)) y4), .ow (.dtn (List.map (ekv (eT (e2 eI eI)) (eT eI)) x5)), .ow (.lst (List.map (eT (e2 eI eI)) [y4])), .sh (eI 0), .no, .no, .no, .no, .no, .no]) (set_s (ec _ _)) ?_
  refine wp_seqW (wp_while (R := (fun (s6 : ((List ((List (Int × Int)) × (List Int))) × (List (List (Int × Int))) × Int)) ρ => ∃ j7 j8 j9 j10 j11 j12, ρ = [.sh (eI a_rule), .sh ((eT (e2 eI eI)) y4), .ow (.dtn (List.map (ekv (eT (e2 eI eI)) (eT eI)) s6.1)), .ow (.lst (List.map (eT (e2 eI eI)) s6.2.1)), .sh (eI s6.2.2), j7, j8, j9, j10, j11, j12])) (Qr := fun (x : (Option (List Int))) => Rt [.sh (eI a_rule)] [] (.sh ((eO (eT eI)) x)) [.sh (eI a_rule)]) (s0 := (x5, [y4], 0)) ⟨_, _, _, _, _, _, rfl⟩ (fun s6 ρ k hR h => ?_) (fun s6 s' ρ hR hc h => ?_) h ?_ (fun x rv ρ hk hq => by cases hk; exact hq))
  · obtain ⟨j7, j8, j9, j10, j11, j12, rfl⟩ := hR
    rw [← Option.some.inj h]
    exact ⟨[.sh (eI a_rule), .sh ((eT (e2 eI eI)) y4), .ow (.dtn (List.map (ekv (eT (e2 eI eI)) (eT eI)) s6.1)), .ow (.lst (List.map (eT (e2 eI eI)) s6.2.1)), .sh (eI s6.2.2), j7, j8, j9, j10, j11, j12], (tb_ (bin_s ev_4 (call_s (ac_ eva_3 (an_ _)) rfl (lenL_e (e := (eT (e2 eI eI))) s6.2.1)) (cmp_i _ _ _))), ⟨_, _, _, _, _, _, rfl⟩⟩
  · obtain ⟨j7, j8, j9, j10, j11, j12, rfl⟩ := hR
    refine wp_seqW (wp_for (R := (fun (s13 : ((List ((List (Int × Int)) × (List Int))) × (List (List (Int × Int))))) ρ => ∃ j14 j15 j16 j17 j18 j19, ρ = [.sh (eI a_rule), .sh ((eT (e2 eI eI)) y4), .ow (.dtn (List.map (ekv (eT (e2 eI eI)) (eT eI)) s13.1)), .ow (.lst (List.map (eT (e2 eI eI)) s13.2)), .sh (eI s6.2.2), j14, j15, j16, j17, j18, j19])) (Qr := fun (x : (Option (List Int))) => Rt [.sh (eI a_rule)] [] (.sh ((eO (eT eI)) x)) [.sh (eI a_rule)]) (e := eI) (s0 := (s6.1, s6.2.1)) (iseq_t (e := eI) (fr_s (tup_ (ac_ (ec _ _) (ac_ (ec _ _) (an_ _))) rfl (few' rfl)))) ⟨_, _, _, _, _, _, rfl⟩ (fun x20 s13 s' ρ hx hR h => ?_) h ?_ (fun x rv ρ hk hq => by cases hk; exact (qs_rt (pb_rt hq))))
    · obtain ⟨j14, j15, j16, j17, j18, j19, rfl⟩ := hR
      refine ⟨[.sh (eI a_rule), .sh ((eT (e2 eI eI)) y4), .ow (.dtn (List.map (ekv (eT (e2 eI eI)) (eT eI)) s13.1)), .ow (.lst (List.map (eT (e2 eI eI)) s13.2)), .sh (eI s6.2.2), .sh (eI x20), j15, j16, j17, j18, j19], rfl, ?_⟩
      refine wp_seq (ρ1 := [.sh (eI a_rule), .sh ((eT (e2 eI eI)) y4), .ow (.dtn (List.map (ekv (eT (e2 eI eI)) (eT eI)) s13.1)), .ow (.lst (List.map (eT (e2 eI eI)) s13.2)), .sh (eI s6.2.2), .sh (eI x20), .ow (.dtn (List.map (ekv (e2 eI eI) eB) [])), j16, j17, j18, j19]) (set_o (dtn_ _)) ?_
      obtain ⟨v21, hv21, h⟩ := bnd h
      refine wp_seqW (wp_fold (R := (fun (s22 : (List ((Int × Int) × Bool))) ρ => ∃ j23 j24 j25, ρ = [.sh (eI a_rule), .sh ((eT (e2 eI eI)) y4), .ow (.dtn (List.map (ekv (eT (e2 eI eI)) (eT eI)) s13.1)), .ow (.lst (List.map (eT (e2 eI eI)) s13.2)), .sh (eI s6.2.2), .sh (eI x20), .ow (.dtn (List.map (ekv (e2 eI eI) eB) s22)), j23, j24, j25, j19])) (e := (e2 eI eI)) (s0 := []) (iseq_t (e := (e2 eI eI)) (fr_s (bin_gs (pk_al eva_3) (pk_s ev_4) rfl rfl (ixl_e (e := (eT (e2 eI eI))) hv21)))) ⟨_, _, _, rfl⟩ (fun x26 s22 s' ρ hx hR h => ?_) h ?_)
      · obtain ⟨j23, j24, j25, rfl⟩ := hR
        refine ⟨[.sh (eI a_rule), .sh ((eT (e2 eI eI)) y4), .ow (.dtn (List.map (ekv (eT (e2 eI eI)) (eT eI)) s13.1)), .ow (.lst (List.map (eT (e2 eI eI)) s13.2)), .sh (eI s6.2.2), .sh (eI x20), .ow (.dtn (List.map (ekv (e2 eI eI) eB) s22)), .sh (eI x26.1), .sh (eI x26.2), j25, j19], rfl, ?_⟩
        refine (wp_fold (R := (fun (s27 : (List ((Int × Int) × Bool))) ρ => ∃ j28, ρ = [.sh (eI a_rule), .sh ((eT (e2 eI eI)) y4), .ow (.dtn (List.map (ekv (eT (e2 eI eI)) (eT eI)) s13.1)), .ow (.lst (List.map (eT (e2 eI eI)) s13.2)), .sh (eI s6.2.2), .sh (eI x20), .ow (.dtn (List.map (ekv (e2 eI eI) eB) s27)), .sh (eI x26.1), .sh (eI x26.2), j28, j19])) (e := eI) (s0 := s22) (iseq_t (e := eI) (fr_s (tup_ (ac_ (ec _ _) (ac_ (ec _ _) (an_ _))) rfl (few' rfl)))) ⟨_, rfl⟩ (fun x29 s27 s' ρ hx hR h => ?_) h ?_)
        · obtain ⟨j28, rfl⟩ := hR
          refine ⟨[.sh (eI a_rule), .sh ((eT (e2 eI eI)) y4), .ow (.dtn (List.map (ekv (eT (e2 eI eI)) (eT eI)) s13.1)), .ow (.lst (List.map (eT (e2 eI eI)) s13.2)), .sh (eI s6.2.2), .sh (eI x20), .ow (.dtn (List.map (ekv (e2 eI eI) eB) s27)), .sh (eI x26.1), .sh (eI x26.2), .sh (eI x29), j19], rfl, ?_⟩
          obtain ⟨v30, hv30, h⟩ := bnd h
          refine ite_elim h (fun c31 h => ?_) (fun c31 h => ?_)
          · refine wp_if_t (tb_ (bin_s (fn_s (ρ2 := [.sh (eI a_rule), .sh ((eT (e2 eI eI)) y4), .ow (.dtn (List.map (ekv (eT (e2 eI eI)) (eT eI)) s13.1)), .ow (.lst (List.map (eT (e2 eI eI)) s13.2)), .sh (eI s6.2.2), .sh (eI x20), .ow (.dtn (List.map (ekv (e2 eI eI) eB) s27)), .sh (eI x26.1), .sh (eI x26.2), .sh (eI x29), j19]) (ac_ (fr_s ev_0) (ac_ (fr_s ev_7) (ac_ (fr_s ev_8) (ac_ (fr_s ev_9) (an_ _))))) rfl rfl (sim__new (a_rule := a_rule) (a_left := x26.1) (a_middle := x26.2) (a_right := x29) hv30) rfl) ev_5 (eq_i _ _))) c31 ?_
            obtain ⟨v32, hv32, h⟩ := bnd h
            refine wp_st (ρ1 := [.sh (eI a_rule), .sh ((eT (e2 eI eI)) y4), .ow (.dtn (List.map (ekv (eT (e2 eI eI)) (eT eI)) s13.1)), .ow (.lst (List.map (eT (e2 eI eI)) s13.2)), .sh (eI s6.2.2), .sh (eI x20), .ow (.dtn (List.map (ekv (e2 eI eI) eB) v32)), .sh (eI x26.1), .sh (eI x26.2), .sh (eI x29), j19]) (asg_ (fr_s (ec _ _)) (tsub_ eva_6 (pk_s (tup_ (ac_ (fr_s ev_8) (ac_ (fr_s ev_9) (an_ _))) rfl (few' rfl))) rfl rfl (setN_e (ek := (e2 eI eI)) (ev := eB) hv32))) ?_
            cases h
            exact ⟨_, .inl rfl, ⟨_, rfl⟩⟩
          · refine wp_if_f (tb_ (bin_s (fn_s (ρ2 := [.sh (eI a_rule), .sh ((eT (e2 eI eI)) y4), .ow (.dtn (List.map (ekv (eT (e2 eI eI)) (eT eI)) s13.1)), .ow (.lst (List.map (eT (e2 eI eI)) s13.2)), .sh (eI s6.2.2), .sh (eI x20), .ow (.dtn (List.map (ekv (e2 eI eI) eB) s27)), .sh (eI x26.1), .sh (eI x26.2), .sh (eI x29), j19]) (ac_ (fr_s ev_0) (ac_ (fr_s ev_7) (ac_ (fr_s ev_8) (ac_ (fr_s ev_9) (an_ _))))) rfl rfl (sim__new (a_rule := a_rule) (a_left := x26.1) (a_middle := x26.2) (a_right := x29) hv30) rfl) ev_5 (eq_i _ _))) c31 ?_
            refine wp_nil ?_
            cases h
            exact ⟨_, .inl rfl, ⟨_, rfl⟩⟩
        · intro s33 ρ hR h
          obtain ⟨j34, rfl⟩ := hR
          cases h
          exact ⟨_, .inl rfl, ⟨_, _, _, rfl⟩⟩
      · intro s35 ρ hR h
        obtain ⟨j36, j37, j38, rfl⟩ := hR
        refine qs_nx ?_
        obtain ⟨v39, hv39, h⟩ := bnd h
        refine wp_seq (ρ1 := [.sh (eI a_rule), .sh ((eT (e2 eI eI)) y4), .ow (.dtn (List.map (ekv (eT (e2 eI eI)) (eT eI)) s13.1)), .ow (.lst (List.map (eT (e2 eI eI)) s13.2)), .sh (eI s6.2.2), .sh (eI x20), .ow (.dtn (List.map (ekv (e2 eI eI) eB) s35)), j36, j37, j38, .sh ((eT (e2 eI eI)) v39)]) (set_s (pk_s (call_s (ac_ (call_o (ac_ eva_6 (an_ _)) rfl (sortN_e (ev := eB) hv39)) (an_ _)) rfl (tupL_e (e := (e2 eI eI)) v39)))) ?_
        refine wp_seqW (wp_join (R := (fun (s51 : ((List ((List (Int × Int)) × (List Int))) × (List (List (Int × Int))))) ρ => ρ = [.sh (eI a_rule), .sh ((eT (e2 eI eI)) y4), .ow (.dtn (List.map (ekv (eT (e2 eI eI)) (eT eI)) s51.1)), .ow (.lst (List.map (eT (e2 eI eI)) s51.2)), .sh (eI s6.2.2), .sh (eI x20), .ow (.dtn (List.map (ekv (e2 eI eI) eB) s35)), j36, j37, j38, .sh ((eT (e2 eI eI)) v39)])) (fun s h => ?_) h ?_)
        · refine ite_elim h (fun c40 h => ?_) (fun c40 h => ?_)
          · refine wp_if_t (tb_ (bin_gs (pk_s ev_10) (pk_al eva_2) rfl rfl (ninN_e (ek := (eT (e2 eI eI))) (ev := (eT eI)) s13.1 v39))) c40 ?_
            obtain ⟨v46, hv46, h⟩ := bnd h
            obtain ⟨v47, hv47, h⟩ := bnd h
            obtain ⟨v48, hv48, h⟩ := bnd h
            obtain ⟨v49, hv49, h⟩ := bnd h
            refine wp_seq (ρ1 := [.sh (eI a_rule), .sh ((eT (e2 eI eI)) y4), .ow (.dtn (List.map (ekv (eT (e2 eI eI)) (eT eI)) v49)), .ow (.lst (List.map (eT (e2 eI eI)) s13.2)), .sh (eI s6.2.2), .sh (eI x20), .ow (.dtn (List.map (ekv (e2 eI eI) eB) s35)), j36, j37, j38, .sh ((eT (e2 eI eI)) v39)]) (asg_ (fr_s (bin_gs (pk_s (bin_gs (pk_al eva_2) (pk_s (bin_gs (pk_al eva_3) (pk_s ev_4) rfl rfl (ixl_e (e := (eT (e2 eI eI))) hv46))) rfl rfl (ixN_e (ek := (eT (e2 eI eI))) (ev := (eT eI)) hv47))) (pk_s (tup_ (ac_ (fr_s ev_5) (an_ _)) rfl (few' rfl))) rfl rfl (plusT_e (e := eI) hv48))) (tsub_ eva_2 (pk_s ev_10) rfl rfl (setN_e (ek := (eT (e2 eI eI))) (ev := (eT eI)) hv49))) ?_
            obtain ⟨v50, hv50, h⟩ := bnd h
            refine wp_st (ρ1 := [.sh (eI a_rule), .sh ((eT (e2 eI eI)) y4), .ow (.dtn (List.map (ekv (eT (e2 eI eI)) (eT eI)) v49)), .ow (.lst (List.map (eT (e2 eI eI)) v50)), .sh (eI s6.2.2), .sh (eI x20), .ow (.dtn (List.map (ekv (e2 eI eI) eB) s35)), j36, j37, j38, .sh ((eT (e2 eI eI)) v39)]) (expr_ (push_ (e := (eT (e2 eI eI))) hv50 eva_3 rfl (ac_ (fr_s ev_10) (an_ _)) rfl)) ?_
            cases h
            exact ⟨_, rfl, rfl⟩
          · refine wp_if_f (tb_ (bin_gs (pk_s ev_10) (pk_al eva_2) rfl rfl (ninN_e (ek := (eT (e2 eI eI))) (ev := (eT eI)) s13.1 v39))) c40 ?_
            refine wp_nil ?_
            cases h
            exact ⟨_, rfl, rfl⟩
        · intro s51 ρ hR h
          obtain rfl := hR
          refine qs_nx ?_
          refine ite_elim h (fun c52 h => ?_) (fun c52 h => ?_)
          · refine wp_if_t (tno_ (tv_ (pk_s ev_10) rfl (truT_e (e := (e2 eI eI)) v39))) c52 ?_
            obtain ⟨v53, hv53, h⟩ := bnd h
            refine wp_ret (fr_s (bin_gs (pk_al eva_2) (pk_s ev_10) rfl rfl (ixN_e (ek := (eT (e2 eI eI))) (ev := (eT eI)) hv53))) ?_
            cases h
            exact pb_rt (rt_i rfl rfl)
          · refine wp_if_f (tno_ (tv_ (pk_s ev_10) rfl (truT_e (e := (e2 eI eI)) v39))) c52 ?_
            refine wp_nil ?_
            cases h
            exact pb_nx ⟨_, _, _, _, _, _, rfl⟩
    · intro s54 ρ hR h
      obtain ⟨j55, j56, j57, j58, j59, j60, rfl⟩ := hR
      refine qs_nx ?_
      obtain ⟨x61, hx61, h⟩ := bnd h
      refine wp_st (ρ1 := [.sh (eI a_rule), .sh ((eT (e2 eI eI)) y4), .ow (.dtn (List.map (ekv (eT (e2 eI eI)) (eT eI)) s54.1)), .ow (.lst (List.map (eT (e2 eI eI)) s54.2)), .sh (eI x61), j55, j56, j57, j58, j59, j60]) (by rw [← Option.some.inj hx61]; exact (aug_ rfl (pk_s (ec _ _)) rfl (iadd_i _ _))) ?_
      cases h
      exact pb_nx ⟨_, _, _, _, _, _, rfl⟩
  · intro s62 ρ hR h
    obtain ⟨j63, j64, j65, j66, j67, j68, rfl⟩ := hR
    refine qs_nx ?_
    refine wp_ret (ec _ _) ?_
    cases h
    exact rt_i rfl rfl
/-! _law_new -/
def t__law_new (a_rule : Int) (a_left : Int) (a_middle : Int) (a_right : Int) : Option Int :=
(shrO a_rule (((4 * a_left) + (2 * a_middle)) + a_right)).bind fun v1 =>
some (Builtin.bitAnd v1 1)
theorem sim__law_new {a_rule : Int} {a_left : Int} {a_middle : Int} {a_right : Int} {r : Int} (h : t__law_new a_rule a_left a_middle a_right = some r) : F__law_new [.sh (eI a_rule), .sh (eI a_left), .sh (eI a_middle), .sh (eI a_right)] = some (.sh (eI r), [.sh (eI a_rule), .sh (eI a_left), .sh (eI a_middle), .sh (eI a_right)]) := by
  unfold t__law_new at h
  refine run_wp rfl (fun i => by intro z; cases z) ?_
  show Wp (g__law_new [.sh (eI a_rule), .sh (eI a_left), .sh (eI a_middle), .sh (eI a_right)]) _
  unfold g__law_new
  obtain ⟨v1, hv1, h⟩ := bnd h
  refine wp_ret (bin_s (bin_s ev_0 (bin_s (bin_s (bin_s (ec _ _) ev_1 (mul_l _ _)) (bin_s (ec _ _) ev_2 (mul_l _ _)) (add_i _ _)) ev_3 (add_i _ _)) (shr_t hv1)) (ec _ _) (bit_i _ _ _)) ?_
  cases h
  exact rt_i rfl rfl
/-! _law_lost -/
def t__law_lost (a_rule : Int) : Option (Option (List Int)) :=
(some [([], [(0, 0), (0, 1), (1, 0), (1, 1)])]).bind fun x1 =>
forB (r := (Option (List Int))) (fun (x11 : Int) (s2 : ((List ((List Int) × (List (Int × Int)))) × (List ((List (Int × Int)) × Bool)))) => forB (r := (Option (List Int))) (fun (x19 : ((List Int) × (List (Int × Int)))) (s12 : ((List ((List (Int × Int)) × Bool)) × (List ((List Int) × (List (Int × Int)))))) => forB (r := (Option (List Int))) (fun (x25 : Int) (s20 : ((List ((List (Int × Int)) × Bool)) × (List ((List Int) × (List (Int × Int)))))) => (foldO (fun (x29 : (Int × Int)) (s26 : (List (Int × Int))) => (szO (lcO (fun (x31 : Int) => (t__law_new a_rule x29.1 x29.2 x31).bind fun v32 => if (decide (v32 = x25)) = true then (some (some (x29.2, x31))) else some none) [0, 1])).bind fun y33 =>
(plusO s26 y33).bind fun v34 =>
some v34) x19.2 []).bind fun (s35 : (List (Int × Int))) =>
(ssetO (e2 eI eI) 64 s35).bind fun v38 =>
if (eqE (eT (e2 eI eI)) v38 []) = true then ((plusO x19.1 [x25]).bind fun v40 =>
some (.rt (some v40))) else (if (!dhas (EqE.eq (eT (e2 eI eI))) s20.1 v38) = true then ((dputO (EqE.eq (eT (e2 eI eI))) s20.1 v38 true).bind fun v42 =>
(plusO x19.1 [x25]).bind fun v43 =>
(pushO s20.2 (v43, v38)).bind fun v44 =>
some (.nx (v42, v44))) else (some (.nx (s20.1, s20.2))))) [0, 1] (s12.1, s12.2) (fun (s45 : ((List ((List (Int × Int)) × Bool)) × (List ((List Int) × (List (Int × Int)))))) => some (.nx (s45.1, s45.2))) (fun x => some (.rt x))) s2.1 (s2.2, []) (fun (s50 : ((List ((List (Int × Int)) × Bool)) × (List ((List Int) × (List (Int × Int)))))) => some (.nx (s50.2, s50.1))) (fun x => some (.rt x))) (rangeI 0 (Int.toNat 20)) (x1, []) (fun (s57 : ((List ((List Int) × (List (Int × Int)))) × (List ((List (Int × Int)) × Bool)))) => some none) (fun x => some x)
theorem sim__law_lost {a_rule : Int} {r : (Option (List Int))} (h : t__law_lost a_rule = some r) : F__law_lost [.sh (eI a_rule)] = some (.sh ((eO (eT eI)) r), [.sh (eI a_rule)]) := by
  unfold t__law_lost at h
  refine run_wp rfl (fun i => by intro z; cases z) ?_
  show Wp (g__law_lost [.sh (eI a_rule), .no, .no, .no, .no, .no, .no, .no, .no, .no, .no, .no]) _
  unfold g__law_lost
  obtain ⟨x1, hx1, h⟩ := bnd h
  refine wp_seq (ρ1 := [.sh (eI a_rule), .sh ((eL (e2 (eT eI) (eT (e2 eI eI)))) x1), .ow (.dtn (List.map (ekv (eT (e2 eI eI)) eB) [])), .no, .no, .no, .no, .no, .no, .no, .no, .no]) (by rw [← Option.some.inj hx1]; exact (par_ (ac_ (fr_o (lst_ (ac_ (tup_ (ac_ (tup_ (an_ _) rfl (few' rfl)) (ac_ (tup_ (ac_ (tup_ (ac_ (ec _ _) (ac_ (ec _ _) (an_ _))) rfl (few' rfl)) (ac_ (tup_ (ac_ (ec _ _) (ac_ (ec _ _) (an_ _))) rfl (few' rfl)) (ac_ (tup_ (ac_ (ec _ _) (ac_ (ec _ _) (an_ _))) rfl (few' rfl)) (ac_ (tup_ (ac_ (ec _ _) (ac_ (ec _ _) (an_ _))) rfl (few' rfl)) (an_ _))))) rfl (few' rfl)) (an_ _))) rfl (few' rfl)) (an_ _)) rfl (few' rfl))) (ac_ (dtn_ _) (an_ _))) rfl rfl)) ?_
  refine wp_seqW (wp_for (R := (fun (s2 : ((List ((List Int) × (List (Int × Int)))) × (List ((List (Int × Int)) × Bool)))) ρ => ∃ j3 j4 j5 j6 j7 j8 j9 j10, ρ = [.sh (eI a_rule), .sh ((eL (e2 (eT eI) (eT (e2 eI eI)))) s2.1), .ow (.dtn (List.map (ekv (eT (e2 eI eI)) eB) s2.2)), j3, j4, j5, j6, j7, j8, j9, j10, .no])) (Qr := fun (x : (Option (List Int))) => Rt [.sh (eI a_rule)] [] (.sh ((eO (eT eI)) x)) [.sh (eI a_rule)]) (e := eI) (s0 := (x1, [])) (irng_ (e := eI) (ac_ (ec _ _) (an_ _)) rfl (rng1_l _)) ⟨_, _, _, _, _, _, _, _, rfl⟩ (fun x11 s2 s' ρ hx hR h => ?_) h ?_ (fun x rv ρ hk hq => by cases hk; exact hq))
  · obtain ⟨j3, j4, j5, j6, j7, j8, j9, j10, rfl⟩ := hR
    refine ⟨[.sh (eI a_rule), .sh ((eL (e2 (eT eI) (eT (e2 eI eI)))) s2.1), .ow (.dtn (List.map (ekv (eT (e2 eI eI)) eB) s2.2)), .sh (eI x11), j4, j5, j6, j7, j8, j9, j10, .no], rfl, ?_⟩
    refine wp_seq (ρ1 := [.sh (eI a_rule), .sh ((eL (e2 (eT eI) (eT (e2 eI eI)))) s2.1), .ow (.dtn (List.map (ekv (eT (e2 eI eI)) eB) s2.2)), .sh (eI x11), .ow (.lst (List.map (e2 (eT eI) (eT (e2 eI eI))) [])), j5, j6, j7, j8, j9, j10, .no]) (set_o (lst_ (an_ _) rfl (few' rfl))) ?_
    refine wp_seqW (wp_for (R := (fun (s12 : ((List ((List (Int × Int)) × Bool)) × (List ((List Int) × (List (Int × Int)))))) ρ => ∃ j13 j14 j15 j16 j17 j18, ρ = [.sh (eI a_rule), .sh ((eL (e2 (eT eI) (eT (e2 eI eI)))) s2.1), .ow (.dtn (List.map (ekv (eT (e2 eI eI)) eB) s12.1)), .sh (eI x11), .ow (.lst (List.map (e2 (eT eI) (eT (e2 eI eI))) s12.2)), j13, j14, j15, j16, j17, j18, .no])) (Qr := fun (x : (Option (List Int))) => Rt [.sh (eI a_rule)] [] (.sh ((eO (eT eI)) x)) [.sh (eI a_rule)]) (e := (e2 (eT eI) (eT (e2 eI eI)))) (s0 := (s2.2, [])) (iseq_l (e := (e2 (eT eI) (eT (e2 eI eI)))) (fr_s ev_1)) ⟨_, _, _, _, _, _, rfl⟩ (fun x19 s12 s' ρ hx hR h => ?_) h ?_ (fun x rv ρ hk hq => by cases hk; exact (qs_rt (pb_rt hq))))
    · obtain ⟨j13, j14, j15, j16, j17, j18, rfl⟩ := hR
      refine ⟨[.sh (eI a_rule), .sh ((eL (e2 (eT eI) (eT (e2 eI eI)))) s2.1), .ow (.dtn (List.map (ekv (eT (e2 eI eI)) eB) s12.1)), .sh (eI x11), .ow (.lst (List.map (e2 (eT eI) (eT (e2 eI eI))) s12.2)), .sh ((eT eI) x19.1), .sh ((eT (e2 eI eI)) x19.2), j15, j16, j17, j18, .no], rfl, ?_⟩
      refine (wp_for (R := (fun (s20 : ((List ((List (Int × Int)) × Bool)) × (List ((List Int) × (List (Int × Int)))))) ρ => ∃ j21 j22 j23 j24, ρ = [.sh (eI a_rule), .sh ((eL (e2 (eT eI) (eT (e2 eI eI)))) s2.1), .ow (.dtn (List.map (ekv (eT (e2 eI eI)) eB) s20.1)), .sh (eI x11), .ow (.lst (List.map (e2 (eT eI) (eT (e2 eI eI))) s20.2)), .sh ((eT eI) x19.1), .sh ((eT (e2 eI eI)) x19.2), j21, j22, j23, j24, .no])) (Qr := fun (x : (Option (List Int))) => Rt [.sh (eI a_rule)] [] (.sh ((eO (eT eI)) x)) [.sh (eI a_rule)]) (e := eI) (s0 := (s12.1, s12.2)) (iseq_t (e := eI) (fr_s (tup_ (ac_ (ec _ _) (ac_ (ec _ _) (an_ _))) rfl (few' rfl)))) ⟨_, _, _, _, rfl⟩ (fun x25 s20 s' ρ hx hR h => ?_) h ?_ (fun x rv ρ hk hq => by cases hk; exact (pb_rt hq)))
      · obtain ⟨j21, j22, j23, j24, rfl⟩ := hR
        refine ⟨[.sh (eI a_rule), .sh ((eL (e2 (eT eI) (eT (e2 eI eI)))) s2.1), .ow (.dtn (List.map (ekv (eT (e2 eI eI)) eB) s20.1)), .sh (eI x11), .ow (.lst (List.map (e2 (eT eI) (eT (e2 eI eI))) s20.2)), .sh ((eT eI) x19.1), .sh ((eT (e2 eI eI)) x19.2), .sh (eI x25), j22, j23, j24, .no], rfl, ?_⟩
        refine wp_seq (ρ1 := [.sh (eI a_rule), .sh ((eL (e2 (eT eI) (eT (e2 eI eI)))) s2.1), .ow (.dtn (List.map (ekv (eT (e2 eI eI)) eB) s20.1)), .sh (eI x11), .ow (.lst (List.map (e2 (eT eI) (eT (e2 eI eI))) s20.2)), .sh ((eT eI) x19.1), .sh ((eT (e2 eI eI)) x19.2), .sh (eI x25), .sh ((eL (e2 eI eI)) []), j23, j24, .no]) (set_s (pk_o (lst_ (an_ _) rfl (few' rfl)))) ?_
        refine wp_seqW (wp_fold (R := (fun (s26 : (List (Int × Int))) ρ => ∃ j27 j28, ρ = [.sh (eI a_rule), .sh ((eL (e2 (eT eI) (eT (e2 eI eI)))) s2.1), .ow (.dtn (List.map (ekv (eT (e2 eI eI)) eB) s20.1)), .sh (eI x11), .ow (.lst (List.map (e2 (eT eI) (eT (e2 eI eI))) s20.2)), .sh ((eT eI) x19.1), .sh ((eT (e2 eI eI)) x19.2), .sh (eI x25), .sh ((eL (e2 eI eI)) s26), j27, j28, .no])) (e := (e2 eI eI)) (s0 := []) (iseq_t (e := (e2 eI eI)) (fr_s ev_6)) ⟨_, _, rfl⟩ (fun x29 s26 s' ρ hx hR h => ?_) h ?_)
        · obtain ⟨j27, j28, rfl⟩ := hR
          refine ⟨[.sh (eI a_rule), .sh ((eL (e2 (eT eI) (eT (e2 eI eI)))) s2.1), .ow (.dtn (List.map (ekv (eT (e2 eI eI)) eB) s20.1)), .sh (eI x11), .ow (.lst (List.map (e2 (eT eI) (eT (e2 eI eI))) s20.2)), .sh ((eT eI) x19.1), .sh ((eT (e2 eI eI)) x19.2), .sh (eI x25), .sh ((eL (e2 eI eI)) s26), .sh (eI x29.1), .sh (eI x29.2), .no], rfl, ?_⟩
          obtain ⟨y33, hy33, h⟩ := bnd h
          obtain ⟨v34, hv34, h⟩ := bnd h
          refine wp_st (ρ1 := [.sh (eI a_rule), .sh ((eL (e2 (eT eI) (eT (e2 eI eI)))) s2.1), .ow (.dtn (List.map (ekv (eT (e2 eI eI)) eB) s20.1)), .sh (eI x11), .ow (.lst (List.map (e2 (eT eI) (eT (e2 eI eI))) s20.2)), .sh ((eT eI) x19.1), .sh ((eT (e2 eI eI)) x19.2), .sh (eI x25), .sh ((eL (e2 eI eI)) v34), .sh (eI x29.1), .sh (eI x29.2), .no]) (set_s (pk_o (bin_go (pk_s ev_8) (pk_o (lc_ (W := [.sh (eI a_rule), .sh ((eL (e2 (eT eI) (eT (e2 eI eI)))) s2.1), .ow (.dtn (List.map (ekv (eT (e2 eI eI)) eB) s20.1)), .sh (eI x11), .ow (.lst (List.map (e2 (eT eI) (eT (e2 eI eI))) s20.2)), .sh ((eT eI) x19.1), .sh ((eT (e2 eI eI)) x19.2), .sh (eI x25), .sh ((eL (e2 eI eI)) s26), .sh (eI x29.1), .sh (eI x29.2), .no]) (e := eI) (e' := (e2 eI eI)) (iseq_t (e := eI) (fr_s (tup_ (ac_ (ec _ _) (ac_ (ec _ _) (an_ _))) rfl (few' rfl)))) rfl rfl (fun x31 _ _ h => by obtain ⟨v32, hv32, h⟩ := bnd h; exact ite_elim h (fun c30 h => by rw [← Option.some.inj h]; exact ⟨[.sh (eI a_rule), .sh ((eL (e2 (eT eI) (eT (e2 eI eI)))) s2.1), .ow (.dtn (List.map (ekv (eT (e2 eI eI)) eB) s20.1)), .sh (eI x11), .ow (.lst (List.map (e2 (eT eI) (eT (e2 eI eI))) s20.2)), .sh ((eT eI) x19.1), .sh ((eT (e2 eI eI)) x19.2), .sh (eI x25), .sh ((eL (e2 eI eI)) s26), .sh (eI x29.1), .sh (eI x29.2), .sh (eI x31)], rfl, _, _, tcong (tb_ (bin_s (fn_s (ρ2 := [.sh (eI a_rule), .sh ((eL (e2 (eT eI) (eT (e2 eI eI)))) s2.1), .ow (.dtn (List.map (ekv (eT (e2 eI eI)) eB) s20.1)), .sh (eI x11), .ow (.lst (List.map (e2 (eT eI) (eT (e2 eI eI))) s20.2)), .sh ((eT eI) x19.1), .sh ((eT (e2 eI eI)) x19.2), .sh (eI x25), .sh ((eL (e2 eI eI)) s26), .sh (eI x29.1), .sh (eI x29.2), .sh (eI x31)]) (ac_ (fr_s ev_0) (ac_ (fr_s ev_9) (ac_ (fr_s ev_10) (ac_ (fr_s ev_11) (an_ _))))) rfl rfl (sim__law_new (a_rule := a_rule) (a_left := x29.1) (a_middle := x29.2) (a_right := x31) hv32) rfl) ev_7 (eq_i _ _))) c30, (fr_s (tup_ (ac_ (fr_s ev_10) (ac_ (fr_s ev_11) (an_ _))) rfl (few' rfl))), rfl⟩) (fun c30 h => by rw [← Option.some.inj h]; exact ⟨[.sh (eI a_rule), .sh ((eL (e2 (eT eI) (eT (e2 eI eI)))) s2.1), .ow (.dtn (List.map (ekv (eT (e2 eI eI)) eB) s20.1)), .sh (eI x11), .ow (.lst (List.map (e2 (eT eI) (eT (e2 eI eI))) s20.2)), .sh ((eT eI) x19.1), .sh ((eT (e2 eI eI)) x19.2), .sh (eI x25), .sh ((eL (e2 eI eI)) s26), .sh (eI x29.1), .sh (eI x29.2), .sh (eI x31)], rfl, _, tcong (tb_ (bin_s (fn_s (ρ2 := [.sh (eI a_rule), .sh ((eL (e2 (eT eI) (eT (e2 eI eI)))) s2.1), .ow (.dtn (List.map (ekv (eT (e2 eI eI)) eB) s20.1)), .sh (eI x11), .ow (.lst (List.map (e2 (eT eI) (eT (e2 eI eI))) s20.2)), .sh ((eT eI) x19.1), .sh ((eT (e2 eI eI)) x19.2), .sh (eI x25), .sh ((eL (e2 eI eI)) s26), .sh (eI x29.1), .sh (eI x29.2), .sh (eI x31)]) (ac_ (fr_s ev_0) (ac_ (fr_s ev_9) (ac_ (fr_s ev_10) (ac_ (fr_s ev_11) (an_ _))))) rfl rfl (sim__law_new (a_rule := a_rule) (a_left := x29.1) (a_middle := x29.2) (a_right := x31) hv32) rfl) ev_7 (eq_i _ _))) c30, rfl⟩)) hy33)) rfl rfl (plusL_e (e := (e2 eI eI)) hv34)))) ?_
          cases h
          exact ⟨_, .inl rfl, ⟨_, _, rfl⟩⟩
        · intro s35 ρ hR h
          obtain ⟨j36, j37, rfl⟩ := hR
          refine qs_nx ?_
          obtain ⟨v38, hv38, h⟩ := bnd h
          refine wp_seq (ρ1 := [.sh (eI a_rule), .sh ((eL (e2 (eT eI) (eT (e2 eI eI)))) s2.1), .ow (.dtn (List.map (ekv (eT (e2 eI eI)) eB) s20.1)), .sh (eI x11), .ow (.lst (List.map (e2 (eT eI) (eT (e2 eI eI))) s20.2)), .sh ((eT eI) x19.1), .sh ((eT (e2 eI eI)) x19.2), .sh (eI x25), .sh ((eT (e2 eI eI)) v38), j36, j37, .no]) (set_s (pk_s (call_s (ac_ (sset_ (fr_s ev_8) (ssP_e hv38)) (an_ _)) rfl (tupL_e (e := (e2 eI eI)) v38)))) ?_
          refine wp_seqW ?_
          refine ite_elim h (fun c39 h => ?_) (fun c39 h => ?_)
          · refine wp_if_t (tb_ (bin_s ev_8 (tup_ (an_ _) rfl (few' rfl)) (eq_e (e := (eT (e2 eI eI))) v38 []))) c39 ?_
            obtain ⟨v40, hv40, h⟩ := bnd h
            refine wp_ret (fr_s (bin_gs (pk_s ev_5) (pk_s (tup_ (ac_ (fr_s ev_7) (an_ _)) rfl (few' rfl))) rfl rfl (plusT_e (e := eI) hv40))) ?_
            refine qs_rt ?_
            cases h
            exact pb_rt (rt_i rfl rfl)
          · refine wp_if_f (tb_ (bin_s ev_8 (tup_ (an_ _) rfl (few' rfl)) (eq_e (e := (eT (e2 eI eI))) v38 []))) c39 ?_
            refine wp_nil ?_
            refine qs_nx ?_
            refine ite_elim h (fun c41 h => ?_) (fun c41 h => ?_)
            · refine wp_if_t (tb_ (bin_gs (pk_s ev_8) (pk_al eva_2) rfl rfl (ninN_e (ek := (eT (e2 eI eI))) (ev := eB) s20.1 v38))) c41 ?_
              obtain ⟨v42, hv42, h⟩ := bnd h
              refine wp_seq (ρ1 := [.sh (eI a_rule), .sh ((eL (e2 (eT eI) (eT (e2 eI eI)))) s2.1), .ow (.dtn (List.map (ekv (eT (e2 eI eI)) eB) v42)), .sh (eI x11), .ow (.lst (List.map (e2 (eT eI) (eT (e2 eI eI))) s20.2)), .sh ((eT eI) x19.1), .sh ((eT (e2 eI eI)) x19.2), .sh (eI x25), .sh ((eT (e2 eI eI)) v38), j36, j37, .no]) (asg_ (fr_s (ec _ _)) (tsub_ eva_2 (pk_s ev_8) rfl rfl (setN_e (ek := (eT (e2 eI eI))) (ev := eB) hv42))) ?_
              obtain ⟨v43, hv43, h⟩ := bnd h
              obtain ⟨v44, hv44, h⟩ := bnd h
              refine wp_st (ρ1 := [.sh (eI a_rule), .sh ((eL (e2 (eT eI) (eT (e2 eI eI)))) s2.1), .ow (.dtn (List.map (ekv (eT (e2 eI eI)) eB) v42)), .sh (eI x11), .ow (.lst (List.map (e2 (eT eI) (eT (e2 eI eI))) v44)), .sh ((eT eI) x19.1), .sh ((eT (e2 eI eI)) x19.2), .sh (eI x25), .sh ((eT (e2 eI eI)) v38), j36, j37, .no]) (expr_ (push_ (e := (e2 (eT eI) (eT (e2 eI eI)))) hv44 eva_4 rfl (ac_ (tup_ (ac_ (fr_s (bin_gs (pk_s ev_5) (pk_s (tup_ (ac_ (fr_s ev_7) (an_ _)) rfl (few' rfl))) rfl rfl (plusT_e (e := eI) hv43))) (ac_ (fr_s ev_8) (an_ _))) rfl (few' rfl)) (an_ _)) rfl)) ?_
              cases h
              exact pb_nx ⟨_, _, _, _, rfl⟩
            · refine wp_if_f (tb_ (bin_gs (pk_s ev_8) (pk_al eva_2) rfl rfl (ninN_e (ek := (eT (e2 eI eI))) (ev := eB) s20.1 v38))) c41 ?_
              refine wp_nil ?_
              cases h
              exact pb_nx ⟨_, _, _, _, rfl⟩
      · intro s45 ρ hR h
        obtain ⟨j46, j47, j48, j49, rfl⟩ := hR
        cases h
        exact pb_nx ⟨_, _, _, _, _, _, rfl⟩
    · intro s50 ρ hR h
      obtain ⟨j51, j52, j53, j54, j55, j56, rfl⟩ := hR
      refine qs_nx ?_
      refine wp_st (ρ1 := [.sh (eI a_rule), .sh ((eL (e2 (eT eI) (eT (e2 eI eI)))) s50.2), .ow (.dtn (List.map (ekv (eT (e2 eI eI)) eB) s50.1)), .sh (eI x11), .sh ((eL (e2 (eT eI) (eT (e2 eI eI)))) s50.2), j51, j52, j53, j54, j55, j56, .no]) (set_s (pk_s (cp_al (ds := List.map (e2 (eT eI) (eT (e2 eI eI))) s50.2) eva_4 rfl))) ?_
      cases h
      exact pb_nx ⟨_, _, _, _, _, _, _, _, rfl⟩
  · intro s57 ρ hR h
    obtain ⟨j58, j59, j60, j61, j62, j63, j64, j65, rfl⟩ := hR
    refine qs_nx ?_
    refine wp_ret (ec _ _) ?_
    cases h
    exact rt_i rfl rfl
/-! _law_is_number -/
def t__law_is_number (a_thing : Dv) : Option Bool :=
(isiO "int" a_thing).bind fun v1 =>
((if v1 = true then ((isiO "bool" a_thing).bind fun v2 => some (!v2)) else some false)).bind fun v3 =>
some v3
theorem sim__law_is_number {a_thing : Dv} {r : Bool} (h : t__law_is_number a_thing = some r) : F__law_is_number [.sh (eA a_thing)] = some (.sh (eB r), [.sh (eA a_thing)]) := by
  unfold t__law_is_number at h
  refine run_wp rfl (fun i => by intro z; cases z) ?_
  show Wp (g__law_is_number [.sh (eA a_thing)]) _
  unfold g__law_is_number
  obtain ⟨v1, hv1, h⟩ := bnd h
  obtain ⟨v3, hv3, h⟩ := bnd h
  refine wp_ret (fr_s (show _ = some (Rv.sh (eB v3), ([.sh (eA a_thing)] : Rho)) from ite_elim hv3 (fun c4 h => by obtain ⟨v2, hv2, h⟩ := bnd h; rw [← Option.some.inj h]; exact eand_t (pk_s (un_gs ev_0 rfl (isi_a hv1))) rfl rfl c4 (enot_ (pk_s (un_gs ev_0 rfl (isi_a hv2))) rfl (tru_b _))) (fun c4 h => by rw [← Option.some.inj h]; exact eand_fb (un_gs ev_0 rfl (isi_a hv1)) c4))) ?_
  cases h
  exact rt_i rfl rfl
/-! _law_turned -/
def t__law_turned (a_rule : Int) (a_mirror : Int) (a_over : Int) : Option Int :=
(foldO (fun (x6 : Int) (s1 : Int) => (some (Builtin.bitAnd (x6 / 2 ^ Int.toNat 2) 1)).bind fun x7 =>
(some (Builtin.bitAnd (x6 / 2 ^ Int.toNat 1) 1)).bind fun x8 =>
(some (Builtin.bitAnd x6 1)).bind fun x9 =>
(if (decide (a_mirror = 1)) = true then (some (x9, x7)) else (some (x7, x9))).bind fun s11 =>
(t__law_new a_rule (Builtin.bitXor s11.1 a_over) (Builtin.bitXor x8 a_over) (Builtin.bitXor s11.2 a_over)).bind fun v12 =>
(shlO (Builtin.bitXor v12 a_over) x6).bind fun v13 =>
(some (s1 + v13)).bind fun x14 =>
some x14) (rangeI 0 (Int.toNat 8)) 0).bind fun (s15 : Int) =>
some s15
theorem sim__law_turned {a_rule : Int} {a_mirror : Int} {a_over : Int} {r : Int} (h : t__law_turned a_rule a_mirror a_over = some r) : F__law_turned [.sh (eI a_rule), .sh (eI a_mirror), .sh (eI a_over)] = some (.sh (eI r), [.sh (eI a_rule), .sh (eI a_mirror), .sh (eI a_over)]) := by
  unfold t__law_turned at h
  refine run_wp rfl (fun i => by intro z; cases z) ?_
  show Wp (g__law_turned [.sh (eI a_rule), .sh (eI a_mirror), .sh (eI a_over), .no, .no, .no, .no, .no]) _
  unfold g__law_turned
  refine wp_seq (ρ1 := [.sh (eI a_rule), .sh (eI a_mirror), .sh (eI a_over), .sh (eI 0), .no, .no, .no, .no]) (set_s (ec _ _)) ?_
  refine wp_seqW (wp_fold (R := (fun (s1 : Int) ρ => ∃ j2 j3 j4 j5, ρ = [.sh (eI a_rule), .sh (eI a_mirror), .sh (eI a_over), .sh (eI s1), j2, j3, j4, j5])) (e := eI) (s0 := 0) (irng_ (e := eI) (ac_ (ec _ _) (an_ _)) rfl (rng1_l _)) ⟨_, _, _, _, rfl⟩ (fun x6 s1 s' ρ hx hR h => ?_) h ?_)
  · obtain ⟨j2, j3, j4, j5, rfl⟩ := hR
    refine ⟨[.sh (eI a_rule), .sh (eI a_mirror), .sh (eI a_over), .sh (eI s1), .sh (eI x6), j3, j4, j5], rfl, ?_⟩
    obtain ⟨x7, hx7, h⟩ := bnd h
    obtain ⟨x8, hx8, h⟩ := bnd h
    obtain ⟨x9, hx9, h⟩ := bnd h
    refine wp_seq (ρ1 := [.sh (eI a_rule), .sh (eI a_mirror), .sh (eI a_over), .sh (eI s1), .sh (eI x6), .sh (eI x7), .sh (eI x8), .sh (eI x9)]) (by rw [← Option.some.inj hx7, ← Option.some.inj hx8, ← Option.some.inj hx9]; exact (par3_ (ac_ (fr_s (bin_s (bin_s ev_4 (ec _ _) (shr_l _ _)) (ec _ _) (bit_i _ _ _))) (ac_ (fr_s (bin_s (bin_s ev_4 (ec _ _) (shr_l _ _)) (ec _ _) (bit_i _ _ _))) (ac_ (fr_s (bin_s ev_4 (ec _ _) (bit_i _ _ _))) (an_ _)))))) ?_
    refine wp_seqW (wp_join (R := (fun (s11 : (Int × Int)) ρ => ρ = [.sh (eI a_rule), .sh (eI a_mirror), .sh (eI a_over), .sh (eI s1), .sh (eI x6), .sh (eI s11.1), .sh (eI x8), .sh (eI s11.2)])) (fun s h => ?_) h ?_)
    · refine ite_elim h (fun c10 h => ?_) (fun c10 h => ?_)
      · refine wp_if_t (tb_ (bin_s ev_1 (ec _ _) (eq_i _ _))) c10 ?_
        refine wp_st (ρ1 := [.sh (eI a_rule), .sh (eI a_mirror), .sh (eI a_over), .sh (eI s1), .sh (eI x6), .sh (eI x9), .sh (eI x8), .sh (eI x7)]) (par_ (ac_ (fr_s ev_7) (ac_ (fr_s ev_5) (an_ _))) rfl rfl) ?_
        cases h
        exact ⟨_, rfl, rfl⟩
      · refine wp_if_f (tb_ (bin_s ev_1 (ec _ _) (eq_i _ _))) c10 ?_
        refine wp_nil ?_
        cases h
        exact ⟨_, rfl, rfl⟩
    · intro s11 ρ hR h
      obtain rfl := hR
      refine qs_nx ?_
      obtain ⟨v12, hv12, h⟩ := bnd h
      obtain ⟨v13, hv13, h⟩ := bnd h
      obtain ⟨x14, hx14, h⟩ := bnd h
      refine wp_st (ρ1 := [.sh (eI a_rule), .sh (eI a_mirror), .sh (eI a_over), .sh (eI x14), .sh (eI x6), .sh (eI s11.1), .sh (eI x8), .sh (eI s11.2)]) (by rw [← Option.some.inj hx14]; exact (aug_ rfl (pk_s (bin_s (bin_s (fn_s (ρ2 := [.sh (eI a_rule), .sh (eI a_mirror), .sh (eI a_over), .sh (eI s1), .sh (eI x6), .sh (eI s11.1), .sh (eI x8), .sh (eI s11.2)]) (ac_ (fr_s ev_0) (ac_ (fr_s (bin_s ev_5 ev_2 (bit_i _ _ _))) (ac_ (fr_s (bin_s ev_6 ev_2 (bit_i _ _ _))) (ac_ (fr_s (bin_s ev_7 ev_2 (bit_i _ _ _))) (an_ _))))) rfl rfl (sim__law_new (a_rule := a_rule) (a_left := (Builtin.bitXor s11.1 a_over)) (a_middle := (Builtin.bitXor x8 a_over)) (a_right := (Builtin.bitXor s11.2 a_over)) hv12) rfl) ev_2 (bit_i _ _ _)) ev_4 (shl_t hv13))) rfl (iadd_i _ _))) ?_
      cases h
      exact ⟨_, .inl rfl, ⟨_, _, _, _, rfl⟩⟩
  · intro s15 ρ hR h
    obtain ⟨j16, j17, j18, j19, rfl⟩ := hR
    refine qs_nx ?_
    refine wp_ret (fr_s ev_3) ?_
    cases h
    exact rt_i rfl rfl
/-! _law_is_numbers -/
def t__law_is_numbers (a_thing : Dv) : Option Bool :=
(isiO "tuple" a_thing).bind fun v1 =>
((if v1 = true then ((itemsO a_thing).bind fun v3 => (szO (lcO (fun (x4 : Dv) => (t__law_is_number x4).bind fun v5 => if (!v5) = true then (some (some x4)) else some none) v3)).bind fun y6 => (eqD ((eL eA) y6) ((eL eA) [])).bind fun v7 => some (v7)) else some false)).bind fun v8 =>
some v8
theorem sim__law_is_numbers {a_thing : Dv} {r : Bool} (h : t__law_is_numbers a_thing = some r) : F__law_is_numbers [.sh (eA a_thing)] = some (.sh (eB r), [.sh (eA a_thing)]) := by
  unfold t__law_is_numbers at h
  refine run_wp rfl (fun i => by intro z; cases z) ?_
  show Wp (g__law_is_numbers [.sh (eA a_thing), .no]) _
  unfold g__law_is_numbers
  obtain ⟨v1, hv1, h⟩ := bnd h
  obtain ⟨v8, hv8, h⟩ := bnd h
  refine wp_ret (fr_s (show _ = some (Rv.sh (eB v8), ([.sh (eA a_thing), .no] : Rho)) from ite_elim hv8 (fun c9 h => by obtain ⟨v3, hv3, h⟩ := bnd h; obtain ⟨y6, hy6, h⟩ := bnd h; obtain ⟨v7, hv7, h⟩ := bnd h; rw [← Option.some.inj h]; exact eand_t (pk_s (un_gs ev_0 rfl (isi_a hv1))) rfl rfl c9 (bin_gs (pk_o (lc_ (W := [.sh (eA a_thing), .no]) (e := eA) (e' := eA) (iseq_a (fr_s ev_0) hv3) rfl rfl (fun x4 _ _ h => by obtain ⟨v5, hv5, h⟩ := bnd h; exact ite_elim h (fun c2 h => by rw [← Option.some.inj h]; exact ⟨[.sh (eA a_thing), .sh (eA x4)], rfl, _, _, tcong (tno_ (tv_ (pk_s (fn_s (ρ2 := [.sh (eA a_thing), .sh (eA x4)]) (ac_ (fr_s ev_1) (an_ _)) rfl rfl (sim__law_is_number (a_thing := x4) hv5) rfl)) rfl (tru_b _))) c2, (fr_s ev_1), rfl⟩) (fun c2 h => by rw [← Option.some.inj h]; exact ⟨[.sh (eA a_thing), .sh (eA x4)], rfl, _, tcong (tno_ (tv_ (pk_s (fn_s (ρ2 := [.sh (eA a_thing), .sh (eA x4)]) (ac_ (fr_s ev_1) (an_ _)) rfl rfl (sim__law_is_number (a_thing := x4) hv5) rfl)) rfl (tru_b _))) c2, rfl⟩)) hy6)) (pk_o (lst_ (an_ _) rfl (few' rfl))) rfl rfl (eq_a hv7))) (fun c9 h => by rw [← Option.some.inj h]; exact eand_fb (un_gs ev_0 rfl (isi_a hv1)) c9))) ?_
  cases h
  exact rt_i rfl rfl
/-! _law_ran -/
def t__law_ran (a_rule : Int) (a_cells : (List Int)) : Option (List Int) :=
(rngO1 (List.length a_cells : Int)).bind fun r2 =>
(szO (mapO (fun (x3 : Int) => (atI a_cells (x3 - 1)).bind fun v4 => (atI a_cells x3).bind fun v5 => (modO (x3 + 1) (List.length a_cells : Int)).bind fun v6 => (atI a_cells v6).bind fun v7 => (t__law_new a_rule v4 v5 v7).bind fun v8 => some v8) r2)).bind fun y9 =>
some y9
theorem sim__law_ran {a_rule : Int} {a_cells : (List Int)} {r : (List Int)} (h : t__law_ran a_rule a_cells = some r) : F__law_ran [.sh (eI a_rule), .sh ((eT eI) a_cells)] = some (.sh ((eT eI) r), [.sh (eI a_rule), .sh ((eT eI) a_cells)]) := by
  unfold t__law_ran at h
  refine run_wp rfl (fun i => by intro z; cases z) ?_
  show Wp (g__law_ran [.sh (eI a_rule), .sh ((eT eI) a_cells), .no]) _
  unfold g__law_ran
  obtain ⟨r2, hr2, h⟩ := bnd h
  obtain ⟨y9, hy9, h⟩ := bnd h
  refine wp_ret (fr_s (call_s (ac_ (lm_ (W := [.sh (eI a_rule), .sh ((eT eI) a_cells), .no]) (e := eI) (e' := eI) (irng_ (e := eI) (ac_ (call_s (ac_ ev_1 (an_ _)) rfl (lenT_e (e := eI) a_cells)) (an_ _)) rfl (rng1_t hr2)) rfl rfl (fun x3 _ _ h => by obtain ⟨v4, hv4, h⟩ := bnd h; obtain ⟨v5, hv5, h⟩ := bnd h; obtain ⟨v6, hv6, h⟩ := bnd h; obtain ⟨v7, hv7, h⟩ := bnd h; obtain ⟨v8, hv8, h⟩ := bnd h; rw [← Option.some.inj h]; exact ⟨[.sh (eI a_rule), .sh ((eT eI) a_cells), .sh (eI x3)], [.sh (eI a_rule), .sh ((eT eI) a_cells), .sh (eI x3)], rfl, (fr_s (fn_s (ρ2 := [.sh (eI a_rule), .sh ((eT eI) a_cells), .sh (eI x3)]) (ac_ (fr_s ev_0) (ac_ (fr_s (bin_s ev_1 (bin_s ev_2 (ec _ _) (sub_i _ _)) (ixt_e (e := eI) hv4))) (ac_ (fr_s (bin_s ev_1 ev_2 (ixt_e (e := eI) hv5))) (ac_ (fr_s (bin_s ev_1 (bin_s (call_s (ac_ (bin_s ev_2 (ec _ _) (add_i _ _)) (an_ _)) rfl (int_i _)) (call_s (ac_ ev_1 (an_ _)) rfl (lenT_e (e := eI) a_cells)) (mod_t hv6)) (ixt_e (e := eI) hv7))) (an_ _))))) rfl rfl (sim__law_new (a_rule := a_rule) (a_left := v4) (a_middle := v5) (a_right := v7) hv8) rfl)), rfl⟩) hy9) (an_ _)) rfl (tupL_e (e := eI) y9))) ?_
  cases h
  exact rt_i rfl rfl
/-! _law_orbit -/
def t__law_orbit (a_rule : Int) (a_cells : (List Int)) : Option (Int × Int) :=
forB (r := (Int × Int)) (fun (x3 : Int) (s1 : ((List Int) × (List ((List Int) × Int)) × Int)) => if (dhas (EqE.eq (eT eI)) s1.2.1 s1.1) = true then (some (.bk (s1.1, s1.2.1, s1.2.2))) else ((dputO (EqE.eq (eT eI)) s1.2.1 s1.1 x3).bind fun v5 =>
(t__law_ran a_rule s1.1).bind fun v6 =>
(some (x3 + 1)).bind fun x7 =>
some (.nx (v6, v5, x7)))) (rangeI 0 (Int.toNat 600)) (a_cells, [], 0) (fun (s8 : ((List Int) × (List ((List Int) × Int)) × Int)) => (dgetO (EqE.eq (eT eI)) s8.2.1 s8.1).bind fun v10 =>
(dgetO (EqE.eq (eT eI)) s8.2.1 s8.1).bind fun v11 =>
some (v10, (s8.2.2 - v11))) (fun x => some x)
theorem sim__law_orbit {a_rule : Int} {a_cells : (List Int)} {r : (Int × Int)} (h : t__law_orbit a_rule a_cells = some r) : F__law_orbit [.sh (eI a_rule), .sh ((eT eI) a_cells)] = some (.sh ((e2 eI eI) r), [.sh (eI a_rule), .sh ((eT eI) a_cells)]) := by
  unfold t__law_orbit at h
  refine run_wp rfl (fun i => by intro z; cases z) ?_
  show Wp (g__law_orbit [.sh (eI a_rule), .sh ((eT eI) a_cells), .no, .no, .no]) _
  unfold g__law_orbit
  refine wp_seq (ρ1 := [.sh (eI a_rule), .sh ((eT eI) a_cells), .ow (.dtn (List.map (ekv (eT eI) eI) [])), .sh (eI 0), .no]) (par_ (ac_ (dtn_ _) (ac_ (fr_s (ec _ _)) (an_ _))) rfl rfl) ?_
  refine wp_seqW (wp_for (R := (fun (s1 : ((List Int) × (List ((List Int) × Int)) × Int)) ρ => ∃ j2, ρ = [.sh (eI a_rule), .sh ((eT eI) s1.1), .ow (.dtn (List.map (ekv (eT eI) eI) s1.2.1)), .sh (eI s1.2.2), j2])) (Qr := fun (x : (Int × Int)) => Rt [.sh (eI a_rule), .sh ((eT eI) a_cells)] [] (.sh ((e2 eI eI) x)) [.sh (eI a_rule), .sh ((eT eI) a_cells)]) (e := eI) (s0 := (a_cells, [], 0)) (irng_ (e := eI) (ac_ (ec _ _) (an_ _)) rfl (rng1_l _)) ⟨_, rfl⟩ (fun x3 s1 s' ρ hx hR h => ?_) h ?_ (fun x rv ρ hk hq => by cases hk; exact hq))
  · obtain ⟨j2, rfl⟩ := hR
    refine ⟨[.sh (eI a_rule), .sh ((eT eI) s1.1), .ow (.dtn (List.map (ekv (eT eI) eI) s1.2.1)), .sh (eI s1.2.2), .sh (eI x3)], rfl, ?_⟩
    refine wp_seqW ?_
    refine ite_elim h (fun c4 h => ?_) (fun c4 h => ?_)
    · refine wp_if_t (tb_ (bin_gs (pk_s ev_1) (pk_al eva_2) rfl rfl (inN_e (ek := (eT eI)) (ev := eI) s1.2.1 s1.1))) c4 ?_
      cases h
      refine wp_brk ?_
      refine qs_bk ?_
      exact pb_bk ⟨_, rfl⟩
    · refine wp_if_f (tb_ (bin_gs (pk_s ev_1) (pk_al eva_2) rfl rfl (inN_e (ek := (eT eI)) (ev := eI) s1.2.1 s1.1))) c4 ?_
      refine wp_nil ?_
      refine qs_nx ?_
      obtain ⟨v5, hv5, h⟩ := bnd h
      refine wp_seq (ρ1 := [.sh (eI a_rule), .sh ((eT eI) s1.1), .ow (.dtn (List.map (ekv (eT eI) eI) v5)), .sh (eI s1.2.2), .sh (eI x3)]) (asg_ (fr_s ev_4) (tsub_ eva_2 (pk_s ev_1) rfl rfl (setN_e (ek := (eT eI)) (ev := eI) hv5))) ?_
      obtain ⟨v6, hv6, h⟩ := bnd h
      refine wp_seq (ρ1 := [.sh (eI a_rule), .sh ((eT eI) v6), .ow (.dtn (List.map (ekv (eT eI) eI) v5)), .sh (eI s1.2.2), .sh (eI x3)]) (set_s (pk_s (fn_s (ρ2 := [.sh (eI a_rule), .sh ((eT eI) s1.1), .ow (.dtn (List.map (ekv (eT eI) eI) v5)), .sh (eI s1.2.2), .sh (eI x3)]) (ac_ (fr_s ev_0) (ac_ (fr_s ev_1) (an_ _))) rfl rfl (sim__law_ran (a_rule := a_rule) (a_cells := s1.1) hv6) rfl))) ?_
      obtain ⟨x7, hx7, h⟩ := bnd h
      refine wp_st (ρ1 := [.sh (eI a_rule), .sh ((eT eI) v6), .ow (.dtn (List.map (ekv (eT eI) eI) v5)), .sh (eI x7), .sh (eI x3)]) (by rw [← Option.some.inj hx7]; exact (set_s (bin_s ev_4 (ec _ _) (add_i _ _)))) ?_
      cases h
      exact pb_nx ⟨_, rfl⟩
  · intro s8 ρ hR h
    obtain ⟨j9, rfl⟩ := hR
    refine qs_nx ?_
    obtain ⟨v10, hv10, h⟩ := bnd h
    obtain ⟨v11, hv11, h⟩ := bnd h
    refine wp_ret (tup_ (ac_ (fr_s (bin_gs (pk_al eva_2) (pk_s ev_1) rfl rfl (ixN_e (ek := (eT eI)) (ev := eI) hv10))) (ac_ (fr_s (bin_s ev_3 (bin_gs (pk_al eva_2) (pk_s ev_1) rfl rfl (ixN_e (ek := (eT eI)) (ev := eI) hv11)) (sub_i _ _))) (an_ _))) rfl (few' rfl)) ?_
    cases h
    exact rt_i rfl rfl
/-! _law_form -/
def t__law_form (a_rule : Int) : Option (Int × Int × Int) :=
(szO (mapO (fun (x2 : (Int × Int)) => (t__law_turned a_rule x2.1 x2.2).bind fun v3 => some (v3, x2.1, x2.2)) [(0, 0), (0, 1), (1, 0), (1, 1)])).bind fun y4 =>
(minO (e3 eI eI eI) y4).bind fun v5 =>
some v5
theorem sim__law_form {a_rule : Int} {r : (Int × Int × Int)} (h : t__law_form a_rule = some r) : F__law_form [.sh (eI a_rule)] = some (.sh ((e3 eI eI eI) r), [.sh (eI a_rule)]) := by
  unfold t__law_form at h
  refine run_wp rfl (fun i => by intro z; cases z) ?_
  show Wp (g__law_form [.sh (eI a_rule), .no, .no]) _
  unfold g__law_form
  obtain ⟨y4, hy4, h⟩ := bnd h
  obtain ⟨v5, hv5, h⟩ := bnd h
  refine wp_ret (fr_s (call_s (ac_ (lm_ (W := [.sh (eI a_rule), .no, .no]) (e := (e2 eI eI)) (e' := (e3 eI eI eI)) (iseq_t (e := (e2 eI eI)) (fr_s (tup_ (ac_ (tup_ (ac_ (ec _ _) (ac_ (ec _ _) (an_ _))) rfl (few' rfl)) (ac_ (tup_ (ac_ (ec _ _) (ac_ (ec _ _) (an_ _))) rfl (few' rfl)) (ac_ (tup_ (ac_ (ec _ _) (ac_ (ec _ _) (an_ _))) rfl (few' rfl)) (ac_ (tup_ (ac_ (ec _ _) (ac_ (ec _ _) (an_ _))) rfl (few' rfl)) (an_ _))))) rfl (few' rfl)))) rfl rfl (fun x2 _ _ h => by obtain ⟨v3, hv3, h⟩ := bnd h; rw [← Option.some.inj h]; exact ⟨[.sh (eI a_rule), .sh (eI x2.1), .sh (eI x2.2)], [.sh (eI a_rule), .sh (eI x2.1), .sh (eI x2.2)], rfl, (fr_s (tup_ (ac_ (fr_s (fn_s (ρ2 := [.sh (eI a_rule), .sh (eI x2.1), .sh (eI x2.2)]) (ac_ (fr_s ev_0) (ac_ (fr_s ev_1) (ac_ (fr_s ev_2) (an_ _)))) rfl rfl (sim__law_turned (a_rule := a_rule) (a_mirror := x2.1) (a_over := x2.2) hv3) rfl)) (ac_ (fr_s ev_1) (ac_ (fr_s ev_2) (an_ _)))) rfl (few' rfl))), rfl⟩) hy4) (an_ _)) rfl (minL_e hv5))) ?_
  cases h
  exact rt_i rfl rfl
/-! _law_kept -/
def t__law_kept (a_rule : Int) (a_n : Int) : Option Int :=
(foldO (fun (x7 : Int) (s1 : (Int × (Option Int))) => (szO (mapO (fun (x9 : Int) => some (if (decide (x9 = x7)) = true then (1 : Int) else 0)) (rangeI 0 (Int.toNat 4)))).bind fun y10 =>
(rngO1 a_n).bind fun r11 =>
(foldO (fun (x16 : Int) (s12 : ((List Int) × (Option Int))) => (foldO (fun (x19 : Int) (s17 : ((List Int) × (Option Int))) => (foldO (fun (x22 : Int) (s20 : (List Int)) => (t__law_new a_rule (x19 / 2 ^ Int.toNat 1) (Builtin.bitAnd x19 1) x22).bind fun v23 =>
if (decide (v23 = (Builtin.bitAnd x19 1))) = true then ((atI s20 ((2 * (Builtin.bitAnd x19 1)) + x22)).bind fun v25 =>
(atI s12.1 x19).bind fun v26 =>
(setO s20 ((2 * (Builtin.bitAnd x19 1)) + x22) (v25 + v26)).bind fun v27 =>
some v27) else (some s20)) [0, 1] s17.1).bind fun (s28 : (List Int)) =>
some (s28, (some x19))) (rangeI 0 (Int.toNat 4)) ([0, 0, 0, 0], s12.2)).bind fun (s30 : ((List Int) × (Option Int))) =>
(s30.2).bind fun v32 =>
some (s30.1, (some v32))) r11 (y10, s1.2)).bind fun (s33 : ((List Int) × (Option Int))) =>
(s33.2).bind fun v37 =>
(atI s33.1 x7).bind fun v38 =>
(some (s1.1 + v38)).bind fun x39 =>
some (x39, (some v37))) (rangeI 0 (Int.toNat 4)) (0, none)).bind fun (s40 : (Int × (Option Int))) =>
(s40.2).bind fun v46 =>
some s40.1
theorem sim__law_kept {a_rule : Int} {a_n : Int} {r : Int} (h : t__law_kept a_rule a_n = some r) : F__law_kept [.sh (eI a_rule), .sh (eI a_n)] = some (.sh (eI r), [.sh (eI a_rule), .sh (eI a_n)]) := by
  unfold t__law_kept at h
  refine run_wp rfl (fun i => by intro z; cases z) ?_
  show Wp (g__law_kept [.sh (eI a_rule), .sh (eI a_n), .no, .no, .no, .no, .no, .no, .no]) _
  unfold g__law_kept
  refine wp_seq (ρ1 := [.sh (eI a_rule), .sh (eI a_n), .sh (eI 0), .no, .no, .no, .no, .no, .no]) (set_s (ec _ _)) ?_
  refine wp_seqW (wp_fold (R := (fun (s1 : (Int × (Option Int))) ρ => ∃ j2 j3 j4 j5 j6, ρ = [.sh (eI a_rule), .sh (eI a_n), .sh (eI s1.1), j2, j3, j4, j5, slO eI s1.2, j6])) (e := eI) (s0 := (0, none)) (irng_ (e := eI) (ac_ (ec _ _) (an_ _)) rfl (rng1_l _)) ⟨_, _, _, _, _, rfl⟩ (fun x7 s1 s' ρ hx hR h => ?_) h ?_)
  · obtain ⟨j2, j3, j4, j5, j6, rfl⟩ := hR
    refine ⟨[.sh (eI a_rule), .sh (eI a_n), .sh (eI s1.1), .sh (eI x7), j3, j4, j5, slO eI s1.2, j6], rfl, ?_⟩
    obtain ⟨y10, hy10, h⟩ := bnd h
    refine wp_seq (ρ1 := [.sh (eI a_rule), .sh (eI a_n), .sh (eI s1.1), .sh (eI x7), .sh ((eL eI) y10), j4, j5, slO eI s1.2, j6]) (set_s (pk_o (lm_ (W := [.sh (eI a_rule), .sh (eI a_n), .sh (eI s1.1), .sh (eI x7), j3, j4, j5, .no, j6]) (e := eI) (e' := eI) (irng_ (e := eI) (ac_ (ec _ _) (an_ _)) rfl (rng1_l _)) (by cases s1.2 <;> rfl) rfl (fun x9 _ _ h => by rw [← Option.some.inj h]; exact ⟨[.sh (eI a_rule), .sh (eI a_n), .sh (eI s1.1), .sh (eI x7), j3, j4, j5, .sh (eI x9), j6], [.sh (eI a_rule), .sh (eI a_n), .sh (eI s1.1), .sh (eI x7), j3, j4, j5, .sh (eI x9), j6], rfl, (fr_s (call_s (ac_ (bin_s ev_7 ev_3 (eq_i _ _)) (an_ _)) rfl (int_b _))), rfl⟩) hy10))) ?_
    obtain ⟨r11, hr11, h⟩ := bnd h
    refine wp_seqW (wp_fold (R := (fun (s12 : ((List Int) × (Option Int))) ρ => ∃ j13 j14 j15, ρ = [.sh (eI a_rule), .sh (eI a_n), .sh (eI s1.1), .sh (eI x7), .sh ((eL eI) s12.1), j13, j14, slO eI s12.2, j15])) (e := eI) (s0 := (y10, s1.2)) (irng_ (e := eI) (ac_ ev_1 (an_ _)) rfl (rng1_t hr11)) ⟨_, _, _, rfl⟩ (fun x16 s12 s' ρ hx hR h => ?_) h ?_)
    · obtain ⟨j13, j14, j15, rfl⟩ := hR
      refine ⟨[.sh (eI a_rule), .sh (eI a_n), .sh (eI s1.1), .sh (eI x7), .sh ((eL eI) s12.1), .sh (eI x16), j14, slO eI s12.2, j15], rfl, ?_⟩
      refine wp_seq (ρ1 := [.sh (eI a_rule), .sh (eI a_n), .sh (eI s1.1), .sh (eI x7), .sh ((eL eI) s12.1), .sh (eI x16), .ow (.lst (List.map eI [0, 0, 0, 0])), slO eI s12.2, j15]) (set_o (lst_ (ac_ (ec _ _) (ac_ (ec _ _) (ac_ (ec _ _) (ac_ (ec _ _) (an_ _))))) rfl (few' rfl))) ?_
      refine wp_seqW (wp_fold (R := (fun (s17 : ((List Int) × (Option Int))) ρ => ∃ j18, ρ = [.sh (eI a_rule), .sh (eI a_n), .sh (eI s1.1), .sh (eI x7), .sh ((eL eI) s12.1), .sh (eI x16), .ow (.lst (List.map eI s17.1)), slO eI s17.2, j18])) (e := eI) (s0 := ([0, 0, 0, 0], s12.2)) (irng_ (e := eI) (ac_ (ec _ _) (an_ _)) rfl (rng1_l _)) ⟨_, rfl⟩ (fun x19 s17 s' ρ hx hR h => ?_) h ?_)
      · obtain ⟨j18, rfl⟩ := hR
        refine ⟨[.sh (eI a_rule), .sh (eI a_n), .sh (eI s1.1), .sh (eI x7), .sh ((eL eI) s12.1), .sh (eI x16), .ow (.lst (List.map eI s17.1)), .sh (eI x19), j18], rfl, ?_⟩
        refine (wp_fold (R := (fun (s20 : (List Int)) ρ => ∃ j21, ρ = [.sh (eI a_rule), .sh (eI a_n), .sh (eI s1.1), .sh (eI x7), .sh ((eL eI) s12.1), .sh (eI x16), .ow (.lst (List.map eI s20)), .sh (eI x19), j21])) (e := eI) (s0 := s17.1) (iseq_t (e := eI) (fr_s (tup_ (ac_ (ec _ _) (ac_ (ec _ _) (an_ _))) rfl (few' rfl)))) ⟨_, rfl⟩ (fun x22 s20 s' ρ hx hR h => ?_) h ?_)
        · obtain ⟨j21, rfl⟩ := hR
          refine ⟨[.sh (eI a_rule), .sh (eI a_n), .sh (eI s1.1), .sh (eI x7), .sh ((eL eI) s12.1), .sh (eI x16), .ow (.lst (List.map eI s20)), .sh (eI x19), .sh (eI x22)], rfl, ?_⟩
          obtain ⟨v23, hv23, h⟩ := bnd h
          refine ite_elim h (fun c24 h => ?_) (fun c24 h => ?_)
          · refine wp_if_t (tb_ (bin_s (fn_s (ρ2 := [.sh (eI a_rule), .sh (eI a_n), .sh (eI s1.1), .sh (eI x7), .sh ((eL eI) s12.1), .sh (eI x16), .ow (.lst (List.map eI s20)), .sh (eI x19), .sh (eI x22)]) (ac_ (fr_s ev_0) (ac_ (fr_s (bin_s ev_7 (ec _ _) (shr_l _ _))) (ac_ (fr_s (bin_s ev_7 (ec _ _) (bit_i _ _ _))) (ac_ (fr_s ev_8) (an_ _))))) rfl rfl (sim__law_new (a_rule := a_rule) (a_left := (x19 / 2 ^ Int.toNat 1)) (a_middle := (Builtin.bitAnd x19 1)) (a_right := x22) hv23) rfl) (bin_s ev_7 (ec _ _) (bit_i _ _ _)) (eq_i _ _))) c24 ?_
            obtain ⟨v25, hv25, h⟩ := bnd h
            obtain ⟨v26, hv26, h⟩ := bnd h
            obtain ⟨v27, hv27, h⟩ := bnd h
            refine wp_st (ρ1 := [.sh (eI a_rule), .sh (eI a_n), .sh (eI s1.1), .sh (eI x7), .sh ((eL eI) s12.1), .sh (eI x16), .ow (.lst (List.map eI v27)), .sh (eI x19), .sh (eI x22)]) (augS_ eva_6 (pk_s (call_s (ac_ (bin_s (bin_s (ec _ _) (bin_s ev_7 (ec _ _) (bit_i _ _ _)) (mul_l _ _)) ev_8 (add_i _ _)) (an_ _)) rfl (int_i _))) rfl rfl rfl (getl_e (e := eI) hv25) (pk_s (bin_s ev_4 ev_7 (ixl_e (e := eI) hv26))) rfl (iadd_i _ _) rfl (set_e (e := eI) hv27)) ?_
            cases h
            exact ⟨_, .inl rfl, ⟨_, rfl⟩⟩
          · refine wp_if_f (tb_ (bin_s (fn_s (ρ2 := [.sh (eI a_rule), .sh (eI a_n), .sh (eI s1.1), .sh (eI x7), .sh ((eL eI) s12.1), .sh (eI x16), .ow (.lst (List.map eI s20)), .sh (eI x19), .sh (eI x22)]) (ac_ (fr_s ev_0) (ac_ (fr_s (bin_s ev_7 (ec _ _) (shr_l _ _))) (ac_ (fr_s (bin_s ev_7 (ec _ _) (bit_i _ _ _))) (ac_ (fr_s ev_8) (an_ _))))) rfl rfl (sim__law_new (a_rule := a_rule) (a_left := (x19 / 2 ^ Int.toNat 1)) (a_middle := (Builtin.bitAnd x19 1)) (a_right := x22) hv23) rfl) (bin_s ev_7 (ec _ _) (bit_i _ _ _)) (eq_i _ _))) c24 ?_
            refine wp_nil ?_
            cases h
            exact ⟨_, .inl rfl, ⟨_, rfl⟩⟩
        · intro s28 ρ hR h
          obtain ⟨j29, rfl⟩ := hR
          cases h
          exact ⟨_, .inl rfl, ⟨_, rfl⟩⟩
      · intro s30 ρ hR h
        obtain ⟨j31, rfl⟩ := hR
        obtain ⟨v32, hv32, h⟩ := bnd h
        rw [hv32]
        refine qs_nx ?_
        refine wp_st (ρ1 := [.sh (eI a_rule), .sh (eI a_n), .sh (eI s1.1), .sh (eI x7), .sh ((eL eI) s30.1), .sh (eI x16), .sh ((eL eI) s30.1), .sh (eI v32), j31]) (set_s (pk_s (cp_al (ds := List.map eI s30.1) eva_6 rfl))) ?_
        cases h
        exact ⟨_, .inl rfl, ⟨_, _, _, rfl⟩⟩
    · intro s33 ρ hR h
      obtain ⟨j34, j35, j36, rfl⟩ := hR
      obtain ⟨v37, hv37, h⟩ := bnd h
      rw [hv37]
      refine qs_nx ?_
      obtain ⟨v38, hv38, h⟩ := bnd h
      obtain ⟨x39, hx39, h⟩ := bnd h
      refine wp_st (ρ1 := [.sh (eI a_rule), .sh (eI a_n), .sh (eI x39), .sh (eI x7), .sh ((eL eI) s33.1), j34, j35, .sh (eI v37), j36]) (by rw [← Option.some.inj hx39]; exact (aug_ rfl (pk_s (bin_s ev_4 ev_3 (ixl_e (e := eI) hv38))) rfl (iadd_i _ _))) ?_
      cases h
      exact ⟨_, .inl rfl, ⟨_, _, _, _, _, rfl⟩⟩
  · intro s40 ρ hR h
    obtain ⟨j41, j42, j43, j44, j45, rfl⟩ := hR
    obtain ⟨v46, hv46, h⟩ := bnd h
    rw [hv46]
    refine qs_nx ?_
    refine wp_ret (fr_s ev_2) ?_
    cases h
    exact rt_i rfl rfl
/-! is_open -/
def t_is_open (a_rule : Int) : Option Bool :=
(t_lost_row a_rule).bind fun v1 =>
some (Option.isNone v1)
theorem sim_is_open {a_rule : Int} {r : Bool} (h : t_is_open a_rule = some r) : F_is_open [.sh (eI a_rule)] = some (.sh (eB r), [.sh (eI a_rule)]) := by
  unfold t_is_open at h
  refine run_wp rfl (fun i => by intro z; cases z) ?_
  show Wp (g_is_open [.sh (eI a_rule)]) _
  unfold g_is_open
  obtain ⟨v1, hv1, h⟩ := bnd h
  refine wp_ret (bin_s (fn_s (ρ2 := [.sh (eI a_rule)]) (ac_ (fr_s ev_0) (an_ _)) rfl rfl (sim_lost_row (a_rule := a_rule) hv1) rfl) (ec _ _) (isndx_e (e := (eT eI)) v1)) ?_
  cases h
  exact rt_i rfl rfl
/-! law -/
def t_law (ds : List Int) (a_script : (List Int)) : Option Bool :=
forB (r := Bool) (fun (x15 : Int) (s1 : (Nat × (Option Int) × (Option Int))) => (nextO ds s1.1 256).bind fun v16 =>
(t__law_cells ds v16.2).bind fun v17 =>
(nextO ds v17.2 2).bind fun v18 =>
(nextO ds v18.2 2).bind fun v19 =>
(t_rule_turned v16.1 v18.1 v19.1).bind fun v20 =>
(t__law_is_number (eI v20)).bind fun v21 =>
((if (!v21) = true then some true else ((t__law_turned v16.1 v18.1 v19.1).bind fun v22 => some (!decide (v20 = v22))))).bind fun v23 =>
if v23 = true then (some (.rt false)) else ((szO (mapO (fun (x27 : Int) => some (Builtin.bitXor x27 v19.1)) (if (decide (v18.1 = 1)) = true then (List.reverse v17.1) else v17.1))).bind fun y28 =>
(t_ran v16.1 v17.1).bind fun v29 =>
(t__law_is_numbers ((eT eI) v29)).bind fun v30 =>
((if (!v30) = true then some true else ((t__law_ran v16.1 v17.1).bind fun v31 => some (!eqE (eT eI) v29 v31)))).bind fun v32 =>
if v32 = true then (some (.rt false)) else ((t_ran v20 y28).bind fun v35 =>
(szO (mapO (fun (x37 : Int) => some (Builtin.bitXor x37 v19.1)) (if (decide (v18.1 = 1)) = true then (List.reverse v29) else v29))).bind fun y38 =>
if (!eqE (eT eI) v35 y38) = true then (some (.rt false)) else (forB (r := Bool) (fun (x42 : Int) (s40 : (Option Int)) => (t_rule_form x42).bind fun v43 =>
(t__law_is_numbers ((e3 eI eI eI) v43)).bind fun v44 =>
((if (!v44) = true then some true else ((t__law_form x42).bind fun v45 => some (!eqE (e3 eI eI eI) v43 v45)))).bind fun v46 =>
if v46 = true then (some (.rt false)) else (some (.nx (some x42)))) [v16.1, v20] s1.2.2 (fun (s49 : (Option Int)) => (s49).bind fun v51 =>
(t_orbit_of v16.1 v17.1).bind fun v52 =>
(t__law_is_numbers ((e2 eI eI) v52)).bind fun v53 =>
((if (!v53) = true then some true else ((t__law_orbit v16.1 v17.1).bind fun v54 => some (!eqE (e2 eI eI) v52 v54)))).bind fun v55 =>
if v55 = true then (some (.rt false)) else ((t_lost_row v16.1).bind fun v58 =>
(t__law_lost v16.1).bind fun v59 =>
((if (Option.isNone v59) = true then (((if (!Option.isNone v58) = true then some true else ((t_is_open v16.1).bind fun v60 => some (!decide (v60 = true))))).bind fun v61 => some v61) else some false)).bind fun v63 =>
((if v63 = true then some true else (((if (!Option.isNone v59) = true then ((t__law_is_numbers ((eO (eT eI)) v58)).bind fun v65 => ((if (!v65) = true then some true else (((if (!eqE (eO (eT eI)) v58 v59) = true then some true else ((t_is_open v16.1).bind fun v66 => some (!decide (v66 = false))))).bind fun v67 => some v67))).bind fun v69 => some v69) else some false)).bind fun v71 => some v71))).bind fun v73 =>
if v73 = true then (some (.rt false)) else ((nextO ds v19.2 30).bind fun v76 =>
(nextO ds v76.2 6).bind fun v77 =>
forB (r := Bool) (fun (x81 : Int) (s78 : Unit) => (t_count_kept v16.1 x81).bind fun v82 =>
(t__law_is_number (eI v82)).bind fun v83 =>
((if (!v83) = true then some true else ((t__law_kept v16.1 x81).bind fun v84 => some (!decide (v82 = v84))))).bind fun v85 =>
if v85 = true then (some (.rt false)) else (some (.nx ()))) [(1 + v76.1), (1 + v77.1)] () (fun (s88 : Unit) => some (.nx (v77.2, (some v16.1), (some v51)))) (fun x => some (.rt x))))) (fun x => some (.rt x)))))) (rangeI 0 (Int.toNat 2)) (0, none, none) (fun (s91 : (Nat × (Option Int) × (Option Int))) => (s91.2.1).bind fun v105 =>
(s91.2.2).bind fun v106 =>
(nextO ds s91.1 5).bind fun v107 =>
(some (1 + v107.1)).bind fun x108 =>
(shlO 1 x108).bind fun v110 =>
(rngO1 v110).bind fun r111 =>
(szO (mapO (fun (x112 : Int) => (rngO1 x108).bind fun r114 => (szO (mapO (fun (x115 : Int) => (shrO x112 x115).bind fun v116 => some (Builtin.bitAnd v116 1)) r114)).bind fun y117 => some y117) r111)).bind fun y118 =>
(t_count_kept v105 x108).bind fun v119 =>
(szO (lcO (fun (x121 : (List Int)) => (t__law_ran v105 x121).bind fun v122 => if (eqE (eT eI) v122 x121) = true then (some (some x121)) else some none) y118)).bind fun y123 =>
if (!decide (v119 = (List.length y123 : Int))) = true then (some false) else ((nextO ds v107.2 5).bind fun v125 =>
if (decide (v125.1 = 0)) = true then ((t_all_rules ).bind fun v127 =>
(t__law_is_numbers ((eT eI) v127)).bind fun v128 =>
((if (!v128) = true then some true else ((szO (mapO (fun (x130 : Int) => (t__law_form x130).bind fun v131 => some v131.1) (rangeI 0 (Int.toNat 256)))).bind fun y132 => (ssetO eI 1000 y132).bind fun v133 => some ((!eqE (eL eI) v127 v133) || (!decide ((List.length v127 : Int) = 88)))))).bind fun v134 =>
if v134 = true then (some false) else (some true)) else (some true))) (fun x => some x)
theorem sim_law (ds : List Int) {a_script : (List Int)} {r : Bool} (hd : F__law_draws [.sh (eL eI a_script), .sh (eI 300)] = some (.ow (.lst (List.map eI ds)), [.sh (eL eI a_script), .sh (eI 300)])) (h : t_law ds a_script = some r) : F_law [.sh ((eL eI) a_script)] = some (.sh (eB r), [.sh ((eL eI) a_script)]) := by
  unfold t_law at h
  refine run_wp rfl (fun i => by intro z; cases z) ?_
  show Wp (g_law [.sh ((eL eI) a_script), .no, .no, .no, .no, .no, .no, .no, .no, .no, .no, .no, .no, .no, .no, .no, .no, .no, .no, .no, .no, .no]) _
  unfold g_law
  refine wp_seq (ρ1 := [.sh ((eL eI) a_script), .ow (W1 ds 0), .no, .no, .no, .no, .no, .no, .no, .no, .no, .no, .no, .no, .no, .no, .no, .no, .no, .no, .no, .no]) (w_init rfl hd) ?_
  refine wp_seqW (wp_for (R := (fun (s1 : (Nat × (Option Int) × (Option Int))) ρ => ∃ j2 j3 j4 j5 j6 j7 j8 j9 j10 j11 j12 j13 j14, ρ = [.sh ((eL eI) a_script), .ow (W1 ds s1.1), j2, slO eI s1.2.1, j3, j4, j5, j6, j7, j8, slO eI s1.2.2, j9, j10, j11, j12, j13, j14, .no, .no, .no, .no, .no])) (Qr := fun (x : Bool) => Rt [.sh ((eL eI) a_script)] [] (.sh (eB x)) [.sh ((eL eI) a_script)]) (e := eI) (s0 := (0, none, none)) (irng_ (e := eI) (ac_ (ec _ _) (an_ _)) rfl (rng1_l _)) ⟨_, _, _, _, _, _, _, _, _, _, _, _, _, rfl⟩ (fun x15 s1 s' ρ hx hR h => ?_) h ?_ (fun x rv ρ hk hq => by cases hk; exact hq))
  · obtain ⟨j2, j3, j4, j5, j6, j7, j8, j9, j10, j11, j12, j13, j14, rfl⟩ := hR
    refine ⟨[.sh ((eL eI) a_script), .ow (W1 ds s1.1), .sh (eI x15), slO eI s1.2.1, j3, j4, j5, j6, j7, j8, slO eI s1.2.2, j9, j10, j11, j12, j13, j14, .no, .no, .no, .no, .no], rfl, ?_⟩
    obtain ⟨v16, hv16, h⟩ := bnd h
    obtain ⟨v17, hv17, h⟩ := bnd h
    refine wp_seq (ρ1 := [.sh ((eL eI) a_script), .ow (W1 ds v17.2), .sh (eI x15), .sh (eI v16.1), .sh ((eT eI) v17.1), j4, j5, j6, j7, j8, slO eI s1.2.2, j9, j10, j11, j12, j13, j14, .no, .no, .no, .no, .no]) (asg_ (fr_s (tup_ (ac_ (fr_s (fn_s (ρ2 := [.sh ((eL eI) a_script), .ow (W1 ds v16.2), .sh (eI x15), slO eI s1.2.1, j3, j4, j5, j6, j7, j8, slO eI s1.2.2, j9, j10, j11, j12, j13, j14, .no, .no, .no, .no, .no]) (ac_ eva_1 (ac_ (ec _ _) (an_ _))) rfl rfl (sim_next hv16) rfl)) (ac_ (fr_s (fn_s (ρ2 := [.sh ((eL eI) a_script), .ow (W1 ds v17.2), .sh (eI x15), slO eI s1.2.1, j3, j4, j5, j6, j7, j8, slO eI s1.2.2, j9, j10, j11, j12, j13, j14, .no, .no, .no, .no, .no]) (ac_ eva_1 (an_ _)) rfl rfl (sim__law_cells ds (a_w := v16.2) hv17) rfl)) (an_ _))) rfl (few' rfl))) rfl) ?_
    obtain ⟨v18, hv18, h⟩ := bnd h
    obtain ⟨v19, hv19, h⟩ := bnd h
    refine wp_seq (ρ1 := [.sh ((eL eI) a_script), .ow (W1 ds v19.2), .sh (eI x15), .sh (eI v16.1), .sh ((eT eI) v17.1), .sh (eI v18.1), .sh (eI v19.1), j6, j7, j8, slO eI s1.2.2, j9, j10, j11, j12, j13, j14, .no, .no, .no, .no, .no]) (asg_ (fr_s (tup_ (ac_ (fr_s (fn_s (ρ2 := [.sh ((eL eI) a_script), .ow (W1 ds v18.2), .sh (eI x15), .sh (eI v16.1), .sh ((eT eI) v17.1), j4, j5, j6, j7, j8, slO eI s1.2.2, j9, j10, j11, j12, j13, j14, .no, .no, .no, .no, .no]) (ac_ eva_1 (ac_ (ec _ _) (an_ _))) rfl rfl (sim_next hv18) rfl)) (ac_ (fr_s (fn_s (ρ2 := [.sh ((eL eI) a_script), .ow (W1 ds v19.2), .sh (eI x15), .sh (eI v16.1), .sh ((eT eI) v17.1), j4, j5, j6, j7, j8, slO eI s1.2.2, j9, j10, j11, j12, j13, j14, .no, .no, .no, .no, .no]) (ac_ eva_1 (ac_ (ec _ _) (an_ _))) rfl rfl (sim_next hv19) rfl)) (an_ _))) rfl (few' rfl))) rfl) ?_
    obtain ⟨v20, hv20, h⟩ := bnd h
    refine wp_seq (ρ1 := [.sh ((eL eI) a_script), .ow (W1 ds v19.2), .sh (eI x15), .sh (eI v16.1), .sh ((eT eI) v17.1), .sh (eI v18.1), .sh (eI v19.1), .sh (eI v20), j7, j8, slO eI s1.2.2, j9, j10, j11, j12, j13, j14, .no, .no, .no, .no, .no]) (set_s (pk_s (fn_s (ρ2 := [.sh ((eL eI) a_script), .ow (W1 ds v19.2), .sh (eI x15), .sh (eI v16.1), .sh ((eT eI) v17.1), .sh (eI v18.1), .sh (eI v19.1), j6, j7, j8, slO eI s1.2.2, j9, j10, j11, j12, j13, j14, .no, .no, .no, .no, .no]) (ac_ (fr_s ev_3) (ac_ (fr_s ev_5) (ac_ (fr_s ev_6) (an_ _)))) rfl rfl (sim_rule_turned (a_rule := v16.1) (a_mirror := v18.1) (a_over := v19.1) hv20) rfl))) ?_
    obtain ⟨v21, hv21, h⟩ := bnd h
    obtain ⟨v23, hv23, h⟩ := bnd h
    refine wp_seqW ?_
    refine ite_elim h (fun c25 h => ?_) (fun c25 h => ?_)
    · refine wp_if_t (show _ = some (v23, ([.sh ((eL eI) a_script), .ow (W1 ds v19.2), .sh (eI x15), .sh (eI v16.1), .sh ((eT eI) v17.1), .sh (eI v18.1), .sh (eI v19.1), .sh (eI v20), j7, j8, slO eI s1.2.2, j9, j10, j11, j12, j13, j14, .no, .no, .no, .no, .no] : Rho)) from ite_elim hv23 (fun c24 h => by rw [← Option.some.inj h]; exact tor_t (tno_ (tv_ (pk_s (fn_s (ρ2 := [.sh ((eL eI) a_script), .ow (W1 ds v19.2), .sh (eI x15), .sh (eI v16.1), .sh ((eT eI) v17.1), .sh (eI v18.1), .sh (eI v19.1), .sh (eI v20), j7, j8, slO eI s1.2.2, j9, j10, j11, j12, j13, j14, .no, .no, .no, .no, .no]) (ac_ (fr_s ev_7) (an_ _)) rfl rfl (sim__law_is_number (a_thing := (eI v20)) hv21) rfl)) rfl (tru_b _))) c24) (fun c24 h => by obtain ⟨v22, hv22, h⟩ := bnd h; rw [← Option.some.inj h]; exact tor_f (tno_ (tv_ (pk_s (fn_s (ρ2 := [.sh ((eL eI) a_script), .ow (W1 ds v19.2), .sh (eI x15), .sh (eI v16.1), .sh ((eT eI) v17.1), .sh (eI v18.1), .sh (eI v19.1), .sh (eI v20), j7, j8, slO eI s1.2.2, j9, j10, j11, j12, j13, j14, .no, .no, .no, .no, .no]) (ac_ (fr_s ev_7) (an_ _)) rfl rfl (sim__law_is_number (a_thing := (eI v20)) hv21) rfl)) rfl (tru_b _))) c24 (tb_ (bin_s ev_7 (fn_s (ρ2 := [.sh ((eL eI) a_script), .ow (W1 ds v19.2), .sh (eI x15), .sh (eI v16.1), .sh ((eT eI) v17.1), .sh (eI v18.1), .sh (eI v19.1), .sh (eI v20), j7, j8, slO eI s1.2.2, j9, j10, j11, j12, j13, j14, .no, .no, .no, .no, .no]) (ac_ (fr_s ev_3) (ac_ (fr_s ev_5) (ac_ (fr_s ev_6) (an_ _)))) rfl rfl (sim__law_turned (a_rule := v16.1) (a_mirror := v18.1) (a_over := v19.1) hv22) rfl) (ne_i _ _))))) c25 ?_
      refine wp_ret (ec _ _) ?_
      refine qs_rt ?_
      cases h
      exact pb_rt (rt_i rfl rfl)
    · refine wp_if_f (show _ = some (v23, ([.sh ((eL eI) a_script), .ow (W1 ds v19.2), .sh (eI x15), .sh (eI v16.1), .sh ((eT eI) v17.1), .sh (eI v18.1), .sh (eI v19.1), .sh (eI v20), j7, j8, slO eI s1.2.2, j9, j10, j11, j12, j13, j14, .no, .no, .no, .no, .no] : Rho)) from ite_elim hv23 (fun c24 h => by rw [← Option.some.inj h]; exact tor_t (tno_ (tv_ (pk_s (fn_s (ρ2 := [.sh ((eL eI) a_script), .ow (W1 ds v19.2), .sh (eI x15), .sh (eI v16.1), .sh ((eT eI) v17.1), .sh (eI v18.1), .sh (eI v19.1), .sh (eI v20), j7, j8, slO eI s1.2.2, j9, j10, j11, j12, j13, j14, .no, .no, .no, .no, .no]) (ac_ (fr_s ev_7) (an_ _)) rfl rfl (sim__law_is_number (a_thing := (eI v20)) hv21) rfl)) rfl (tru_b _))) c24) (fun c24 h => by obtain ⟨v22, hv22, h⟩ := bnd h; rw [← Option.some.inj h]; exact tor_f (tno_ (tv_ (pk_s (fn_s (ρ2 := [.sh ((eL eI) a_script), .ow (W1 ds v19.2), .sh (eI x15), .sh (eI v16.1), .sh ((eT eI) v17.1), .sh (eI v18.1), .sh (eI v19.1), .sh (eI v20), j7, j8, slO eI s1.2.2, j9, j10, j11, j12, j13, j14, .no, .no, .no, .no, .no]) (ac_ (fr_s ev_7) (an_ _)) rfl rfl (sim__law_is_number (a_thing := (eI v20)) hv21) rfl)) rfl (tru_b _))) c24 (tb_ (bin_s ev_7 (fn_s (ρ2 := [.sh ((eL eI) a_script), .ow (W1 ds v19.2), .sh (eI x15), .sh (eI v16.1), .sh ((eT eI) v17.1), .sh (eI v18.1), .sh (eI v19.1), .sh (eI v20), j7, j8, slO eI s1.2.2, j9, j10, j11, j12, j13, j14, .no, .no, .no, .no, .no]) (ac_ (fr_s ev_3) (ac_ (fr_s ev_5) (ac_ (fr_s ev_6) (an_ _)))) rfl rfl (sim__law_turned (a_rule := v16.1) (a_mirror := v18.1) (a_over := v19.1) hv22) rfl) (ne_i _ _))))) c25 ?_
      refine wp_nil ?_
      refine qs_nx ?_
      obtain ⟨y28, hy28, h⟩ := bnd h
      refine wp_seq (ρ1 := [.sh ((eL eI) a_script), .ow (W1 ds v19.2), .sh (eI x15), .sh (eI v16.1), .sh ((eT eI) v17.1), .sh (eI v18.1), .sh (eI v19.1), .sh (eI v20), .sh ((eT eI) y28), j8, slO eI s1.2.2, j9, j10, j11, j12, j13, j14, .no, .no, .no, .no, .no]) (set_s (pk_s (call_s (ac_ (lm_ (W := [.sh ((eL eI) a_script), .ow (W1 ds v19.2), .sh (eI x15), .sh (eI v16.1), .sh ((eT eI) v17.1), .sh (eI v18.1), .sh (eI v19.1), .sh (eI v20), j7, j8, slO eI s1.2.2, j9, j10, j11, j12, j13, j14, .no, .no, .no, .no, .no]) (e := eI) (e' := eI) (iseq_t (e := eI) (fr_s (eif_e (e := (eT eI)) (x := (List.reverse v17.1)) (y := v17.1) (tb_ (bin_s ev_5 (ec _ _) (eq_i _ _))) (fr_s (un_gs ev_4 rfl (revT_e (e := eI) v17.1))) (fr_s ev_4)))) rfl rfl (fun x27 _ _ h => by rw [← Option.some.inj h]; exact ⟨[.sh ((eL eI) a_script), .ow (W1 ds v19.2), .sh (eI x15), .sh (eI v16.1), .sh ((eT eI) v17.1), .sh (eI v18.1), .sh (eI v19.1), .sh (eI v20), j7, j8, slO eI s1.2.2, j9, j10, j11, j12, j13, j14, .no, .no, .sh (eI x27), .no, .no], [.sh ((eL eI) a_script), .ow (W1 ds v19.2), .sh (eI x15), .sh (eI v16.1), .sh ((eT eI) v17.1), .sh (eI v18.1), .sh (eI v19.1), .sh (eI v20), j7, j8, slO eI s1.2.2, j9, j10, j11, j12, j13, j14, .no, .no, .sh (eI x27), .no, .no], rfl, (fr_s (bin_s ev_19 ev_6 (bit_i _ _ _))), rfl⟩) hy28) (an_ _)) rfl (tupL_e (e := eI) y28)))) ?_
      obtain ⟨v29, hv29, h⟩ := bnd h
      refine wp_seq (ρ1 := [.sh ((eL eI) a_script), .ow (W1 ds v19.2), .sh (eI x15), .sh (eI v16.1), .sh ((eT eI) v17.1), .sh (eI v18.1), .sh (eI v19.1), .sh (eI v20), .sh ((eT eI) y28), .sh ((eT eI) v29), slO eI s1.2.2, j9, j10, j11, j12, j13, j14, .no, .no, .no, .no, .no]) (set_s (pk_s (fn_s (ρ2 := [.sh ((eL eI) a_script), .ow (W1 ds v19.2), .sh (eI x15), .sh (eI v16.1), .sh ((eT eI) v17.1), .sh (eI v18.1), .sh (eI v19.1), .sh (eI v20), .sh ((eT eI) y28), j8, slO eI s1.2.2, j9, j10, j11, j12, j13, j14, .no, .no, .no, .no, .no]) (ac_ (fr_s ev_3) (ac_ (fr_s ev_4) (an_ _))) rfl rfl (sim_ran (a_rule := v16.1) (a_cells := v17.1) hv29) rfl))) ?_
      obtain ⟨v30, hv30, h⟩ := bnd h
      obtain ⟨v32, hv32, h⟩ := bnd h
      refine wp_seqW ?_
      refine ite_elim h (fun c34 h => ?_) (fun c34 h => ?_)
      · refine wp_if_t (show _ = some (v32, ([.sh ((eL eI) a_script), .ow (W1 ds v19.2), .sh (eI x15), .sh (eI v16.1), .sh ((eT eI) v17.1), .sh (eI v18.1), .sh (eI v19.1), .sh (eI v20), .sh ((eT eI) y28), .sh ((eT eI) v29), slO eI s1.2.2, j9, j10, j11, j12, j13, j14, .no, .no, .no, .no, .no] : Rho)) from ite_elim hv32 (fun c33 h => by rw [← Option.some.inj h]; exact tor_t (tno_ (tv_ (pk_s (fn_s (ρ2 := [.sh ((eL eI) a_script), .ow (W1 ds v19.2), .sh (eI x15), .sh (eI v16.1), .sh ((eT eI) v17.1), .sh (eI v18.1), .sh (eI v19.1), .sh (eI v20), .sh ((eT eI) y28), .sh ((eT eI) v29), slO eI s1.2.2, j9, j10, j11, j12, j13, j14, .no, .no, .no, .no, .no]) (ac_ (fr_s ev_9) (an_ _)) rfl rfl (sim__law_is_numbers (a_thing := ((eT eI) v29)) hv30) rfl)) rfl (tru_b _))) c33) (fun c33 h => by obtain ⟨v31, hv31, h⟩ := bnd h; rw [← Option.some.inj h]; exact tor_f (tno_ (tv_ (pk_s (fn_s (ρ2 := [.sh ((eL eI) a_script), .ow (W1 ds v19.2), .sh (eI x15), .sh (eI v16.1), .sh ((eT eI) v17.1), .sh (eI v18.1), .sh (eI v19.1), .sh (eI v20), .sh ((eT eI) y28), .sh ((eT eI) v29), slO eI s1.2.2, j9, j10, j11, j12, j13, j14, .no, .no, .no, .no, .no]) (ac_ (fr_s ev_9) (an_ _)) rfl rfl (sim__law_is_numbers (a_thing := ((eT eI) v29)) hv30) rfl)) rfl (tru_b _))) c33 (tb_ (bin_s ev_9 (fn_s (ρ2 := [.sh ((eL eI) a_script), .ow (W1 ds v19.2), .sh (eI x15), .sh (eI v16.1), .sh ((eT eI) v17.1), .sh (eI v18.1), .sh (eI v19.1), .sh (eI v20), .sh ((eT eI) y28), .sh ((eT eI) v29), slO eI s1.2.2, j9, j10, j11, j12, j13, j14, .no, .no, .no, .no, .no]) (ac_ (fr_s ev_3) (ac_ (fr_s ev_4) (an_ _))) rfl rfl (sim__law_ran (a_rule := v16.1) (a_cells := v17.1) hv31) rfl) (ne_e (e := (eT eI)) v29 v31))))) c34 ?_
        refine wp_ret (ec _ _) ?_
        refine qs_rt ?_
        cases h
        exact pb_rt (rt_i rfl rfl)
      · refine wp_if_f (show _ = some (v32, ([.sh ((eL eI) a_script), .ow (W1 ds v19.2), .sh (eI x15), .sh (eI v16.1), .sh ((eT eI) v17.1), .sh (eI v18.1), .sh (eI v19.1), .sh (eI v20), .sh ((eT eI) y28), .sh ((eT eI) v29), slO eI s1.2.2, j9, j10, j11, j12, j13, j14, .no, .no, .no, .no, .no] : Rho)) from ite_elim hv32 (fun c33 h => by rw [← Option.some.inj h]; exact tor_t (tno_ (tv_ (pk_s (fn_s (ρ2 := [.sh ((eL eI) a_script), .ow (W1 ds v19.2), .sh (eI x15), .sh (eI v16.1), .sh ((eT eI) v17.1), .sh (eI v18.1), .sh (eI v19.1), .sh (eI v20), .sh ((eT eI) y28), .sh ((eT eI) v29), slO eI s1.2.2, j9, j10, j11, j12, j13, j14, .no, .no, .no, .no, .no]) (ac_ (fr_s ev_9) (an_ _)) rfl rfl (sim__law_is_numbers (a_thing := ((eT eI) v29)) hv30) rfl)) rfl (tru_b _))) c33) (fun c33 h => by obtain ⟨v31, hv31, h⟩ := bnd h; rw [← Option.some.inj h]; exact tor_f (tno_ (tv_ (pk_s (fn_s (ρ2 := [.sh ((eL eI) a_script), .ow (W1 ds v19.2), .sh (eI x15), .sh (eI v16.1), .sh ((eT eI) v17.1), .sh (eI v18.1), .sh (eI v19.1), .sh (eI v20), .sh ((eT eI) y28), .sh ((eT eI) v29), slO eI s1.2.2, j9, j10, j11, j12, j13, j14, .no, .no, .no, .no, .no]) (ac_ (fr_s ev_9) (an_ _)) rfl rfl (sim__law_is_numbers (a_thing := ((eT eI) v29)) hv30) rfl)) rfl (tru_b _))) c33 (tb_ (bin_s ev_9 (fn_s (ρ2 := [.sh ((eL eI) a_script), .ow (W1 ds v19.2), .sh (eI x15), .sh (eI v16.1), .sh ((eT eI) v17.1), .sh (eI v18.1), .sh (eI v19.1), .sh (eI v20), .sh ((eT eI) y28), .sh ((eT eI) v29), slO eI s1.2.2, j9, j10, j11, j12, j13, j14, .no, .no, .no, .no, .no]) (ac_ (fr_s ev_3) (ac_ (fr_s ev_4) (an_ _))) rfl rfl (sim__law_ran (a_rule := v16.1) (a_cells := v17.1) hv31) rfl) (ne_e (e := (eT eI)) v29 v31))))) c34 ?_
        refine wp_nil ?_
        refine qs_nx ?_
        obtain ⟨v35, hv35, h⟩ := bnd h
        obtain ⟨y38, hy38, h⟩ := bnd h
        refine wp_seqW ?_
        refine ite_elim h (fun c39 h => ?_) (fun c39 h => ?_)
        · refine wp_if_t (tb_ (bin_s (fn_s (ρ2 := [.sh ((eL eI) a_script), .ow (W1 ds v19.2), .sh (eI x15), .sh (eI v16.1), .sh ((eT eI) v17.1), .sh (eI v18.1), .sh (eI v19.1), .sh (eI v20), .sh ((eT eI) y28), .sh ((eT eI) v29), slO eI s1.2.2, j9, j10, j11, j12, j13, j14, .no, .no, .no, .no, .no]) (ac_ (fr_s ev_7) (ac_ (fr_s ev_8) (an_ _))) rfl rfl (sim_ran (a_rule := v20) (a_cells := y28) hv35) rfl) (call_s (ac_ (lm_ (W := [.sh ((eL eI) a_script), .ow (W1 ds v19.2), .sh (eI x15), .sh (eI v16.1), .sh ((eT eI) v17.1), .sh (eI v18.1), .sh (eI v19.1), .sh (eI v20), .sh ((eT eI) y28), .sh ((eT eI) v29), slO eI s1.2.2, j9, j10, j11, j12, j13, j14, .no, .no, .no, .no, .no]) (e := eI) (e' := eI) (iseq_t (e := eI) (fr_s (eif_e (e := (eT eI)) (x := (List.reverse v29)) (y := v29) (tb_ (bin_s ev_5 (ec _ _) (eq_i _ _))) (fr_s (un_gs ev_9 rfl (revT_e (e := eI) v29))) (fr_s ev_9)))) rfl rfl (fun x37 _ _ h => by rw [← Option.some.inj h]; exact ⟨[.sh ((eL eI) a_script), .ow (W1 ds v19.2), .sh (eI x15), .sh (eI v16.1), .sh ((eT eI) v17.1), .sh (eI v18.1), .sh (eI v19.1), .sh (eI v20), .sh ((eT eI) y28), .sh ((eT eI) v29), slO eI s1.2.2, j9, j10, j11, j12, j13, j14, .no, .no, .sh (eI x37), .no, .no], [.sh ((eL eI) a_script), .ow (W1 ds v19.2), .sh (eI x15), .sh (eI v16.1), .sh ((eT eI) v17.1), .sh (eI v18.1), .sh (eI v19.1), .sh (eI v20), .sh ((eT eI) y28), .sh ((eT eI) v29), slO eI s1.2.2, j9, j10, j11, j12, j13, j14, .no, .no, .sh (eI x37), .no, .no], rfl, (fr_s (bin_s ev_19 ev_6 (bit_i _ _ _))), rfl⟩) hy38) (an_ _)) rfl (tupL_e (e := eI) y38)) (ne_e (e := (eT eI)) v35 y38))) c39 ?_
          refine wp_ret (ec _ _) ?_
          refine qs_rt ?_
          cases h
          exact pb_rt (rt_i rfl rfl)
        · refine wp_if_f (tb_ (bin_s (fn_s (ρ2 := [.sh ((eL eI) a_script), .ow (W1 ds v19.2), .sh (eI x15), .sh (eI v16.1), .sh ((eT eI) v17.1), .sh (eI v18.1), .sh (eI v19.1), .sh (eI v20), .sh ((eT eI) y28), .sh ((eT eI) v29), slO eI s1.2.2, j9, j10, j11, j12, j13, j14, .no, .no, .no, .no, .no]) (ac_ (fr_s ev_7) (ac_ (fr_s ev_8) (an_ _))) rfl rfl (sim_ran (a_rule := v20) (a_cells := y28) hv35) rfl) (call_s (ac_ (lm_ (W := [.sh ((eL eI) a_script), .ow (W1 ds v19.2), .sh (eI x15), .sh (eI v16.1), .sh ((eT eI) v17.1), .sh (eI v18.1), .sh (eI v19.1), .sh (eI v20), .sh ((eT eI) y28), .sh ((eT eI) v29), slO eI s1.2.2, j9, j10, j11, j12, j13, j14, .no, .no, .no, .no, .no]) (e := eI) (e' := eI) (iseq_t (e := eI) (fr_s (eif_e (e := (eT eI)) (x := (List.reverse v29)) (y := v29) (tb_ (bin_s ev_5 (ec _ _) (eq_i _ _))) (fr_s (un_gs ev_9 rfl (revT_e (e := eI) v29))) (fr_s ev_9)))) rfl rfl (fun x37 _ _ h => by rw [← Option.some.inj h]; exact ⟨[.sh ((eL eI) a_script), .ow (W1 ds v19.2), .sh (eI x15), .sh (eI v16.1), .sh ((eT eI) v17.1), .sh (eI v18.1), .sh (eI v19.1), .sh (eI v20), .sh ((eT eI) y28), .sh ((eT eI) v29), slO eI s1.2.2, j9, j10, j11, j12, j13, j14, .no, .no, .sh (eI x37), .no, .no], [.sh ((eL eI) a_script), .ow (W1 ds v19.2), .sh (eI x15), .sh (eI v16.1), .sh ((eT eI) v17.1), .sh (eI v18.1), .sh (eI v19.1), .sh (eI v20), .sh ((eT eI) y28), .sh ((eT eI) v29), slO eI s1.2.2, j9, j10, j11, j12, j13, j14, .no, .no, .sh (eI x37), .no, .no], rfl, (fr_s (bin_s ev_19 ev_6 (bit_i _ _ _))), rfl⟩) hy38) (an_ _)) rfl (tupL_e (e := eI) y38)) (ne_e (e := (eT eI)) v35 y38))) c39 ?_
          refine wp_nil ?_
          refine qs_nx ?_
          refine wp_seqW (wp_for (R := (fun (s40 : (Option Int)) ρ => ∃ j41, ρ = [.sh ((eL eI) a_script), .ow (W1 ds v19.2), .sh (eI x15), .sh (eI v16.1), .sh ((eT eI) v17.1), .sh (eI v18.1), .sh (eI v19.1), .sh (eI v20), .sh ((eT eI) y28), .sh ((eT eI) v29), slO eI s40, j41, j10, j11, j12, j13, j14, .no, .no, .no, .no, .no])) (Qr := fun (x : Bool) => Rt [.sh ((eL eI) a_script)] [] (.sh (eB x)) [.sh ((eL eI) a_script)]) (e := eI) (s0 := s1.2.2) (iseq_t (e := eI) (fr_s (tup_ (ac_ (fr_s ev_3) (ac_ (fr_s ev_7) (an_ _))) rfl (few' rfl)))) ⟨_, rfl⟩ (fun x42 s40 s' ρ hx hR h => ?_) h ?_ (fun x rv ρ hk hq => by cases hk; exact (qs_rt (pb_rt hq))))
          · obtain ⟨j41, rfl⟩ := hR
            refine ⟨[.sh ((eL eI) a_script), .ow (W1 ds v19.2), .sh (eI x15), .sh (eI v16.1), .sh ((eT eI) v17.1), .sh (eI v18.1), .sh (eI v19.1), .sh (eI v20), .sh ((eT eI) y28), .sh ((eT eI) v29), .sh (eI x42), j41, j10, j11, j12, j13, j14, .no, .no, .no, .no, .no], rfl, ?_⟩
            obtain ⟨v43, hv43, h⟩ := bnd h
            refine wp_seq (ρ1 := [.sh ((eL eI) a_script), .ow (W1 ds v19.2), .sh (eI x15), .sh (eI v16.1), .sh ((eT eI) v17.1), .sh (eI v18.1), .sh (eI v19.1), .sh (eI v20), .sh ((eT eI) y28), .sh ((eT eI) v29), .sh (eI x42), .sh ((e3 eI eI eI) v43), j10, j11, j12, j13, j14, .no, .no, .no, .no, .no]) (set_s (pk_s (fn_s (ρ2 := [.sh ((eL eI) a_script), .ow (W1 ds v19.2), .sh (eI x15), .sh (eI v16.1), .sh ((eT eI) v17.1), .sh (eI v18.1), .sh (eI v19.1), .sh (eI v20), .sh ((eT eI) y28), .sh ((eT eI) v29), .sh (eI x42), j41, j10, j11, j12, j13, j14, .no, .no, .no, .no, .no]) (ac_ (fr_s ev_10) (an_ _)) rfl rfl (sim_rule_form (a_rule := x42) hv43) rfl))) ?_
            obtain ⟨v44, hv44, h⟩ := bnd h
            obtain ⟨v46, hv46, h⟩ := bnd h
            refine ite_elim h (fun c48 h => ?_) (fun c48 h => ?_)
            · refine wp_if_t (show _ = some (v46, ([.sh ((eL eI) a_script), .ow (W1 ds v19.2), .sh (eI x15), .sh (eI v16.1), .sh ((eT eI) v17.1), .sh (eI v18.1), .sh (eI v19.1), .sh (eI v20), .sh ((eT eI) y28), .sh ((eT eI) v29), .sh (eI x42), .sh ((e3 eI eI eI) v43), j10, j11, j12, j13, j14, .no, .no, .no, .no, .no] : Rho)) from ite_elim hv46 (fun c47 h => by rw [← Option.some.inj h]; exact tor_t (tno_ (tv_ (pk_s (fn_s (ρ2 := [.sh ((eL eI) a_script), .ow (W1 ds v19.2), .sh (eI x15), .sh (eI v16.1), .sh ((eT eI) v17.1), .sh (eI v18.1), .sh (eI v19.1), .sh (eI v20), .sh ((eT eI) y28), .sh ((eT eI) v29), .sh (eI x42), .sh ((e3 eI eI eI) v43), j10, j11, j12, j13, j14, .no, .no, .no, .no, .no]) (ac_ (fr_s ev_11) (an_ _)) rfl rfl (sim__law_is_numbers (a_thing := ((e3 eI eI eI) v43)) hv44) rfl)) rfl (tru_b _))) c47) (fun c47 h => by obtain ⟨v45, hv45, h⟩ := bnd h; rw [← Option.some.inj h]; exact tor_f (tno_ (tv_ (pk_s (fn_s (ρ2 := [.sh ((eL eI) a_script), .ow (W1 ds v19.2), .sh (eI x15), .sh (eI v16.1), .sh ((eT eI) v17.1), .sh (eI v18.1), .sh (eI v19.1), .sh (eI v20), .sh ((eT eI) y28), .sh ((eT eI) v29), .sh (eI x42), .sh ((e3 eI eI eI) v43), j10, j11, j12, j13, j14, .no, .no, .no, .no, .no]) (ac_ (fr_s ev_11) (an_ _)) rfl rfl (sim__law_is_numbers (a_thing := ((e3 eI eI eI) v43)) hv44) rfl)) rfl (tru_b _))) c47 (tb_ (bin_s ev_11 (fn_s (ρ2 := [.sh ((eL eI) a_script), .ow (W1 ds v19.2), .sh (eI x15), .sh (eI v16.1), .sh ((eT eI) v17.1), .sh (eI v18.1), .sh (eI v19.1), .sh (eI v20), .sh ((eT eI) y28), .sh ((eT eI) v29), .sh (eI x42), .sh ((e3 eI eI eI) v43), j10, j11, j12, j13, j14, .no, .no, .no, .no, .no]) (ac_ (fr_s ev_10) (an_ _)) rfl rfl (sim__law_form (a_rule := x42) hv45) rfl) (ne_e (e := (e3 eI eI eI)) v43 v45))))) c48 ?_
              refine wp_ret (ec _ _) ?_
              cases h
              exact pb_rt (rt_i rfl rfl)
            · refine wp_if_f (show _ = some (v46, ([.sh ((eL eI) a_script), .ow (W1 ds v19.2), .sh (eI x15), .sh (eI v16.1), .sh ((eT eI) v17.1), .sh (eI v18.1), .sh (eI v19.1), .sh (eI v20), .sh ((eT eI) y28), .sh ((eT eI) v29), .sh (eI x42), .sh ((e3 eI eI eI) v43), j10, j11, j12, j13, j14, .no, .no, .no, .no, .no] : Rho)) from ite_elim hv46 (fun c47 h => by rw [← Option.some.inj h]; exact tor_t (tno_ (tv_ (pk_s (fn_s (ρ2 := [.sh ((eL eI) a_script), .ow (W1 ds v19.2), .sh (eI x15), .sh (eI v16.1), .sh ((eT eI) v17.1), .sh (eI v18.1), .sh (eI v19.1), .sh (eI v20), .sh ((eT eI) y28), .sh ((eT eI) v29), .sh (eI x42), .sh ((e3 eI eI eI) v43), j10, j11, j12, j13, j14, .no, .no, .no, .no, .no]) (ac_ (fr_s ev_11) (an_ _)) rfl rfl (sim__law_is_numbers (a_thing := ((e3 eI eI eI) v43)) hv44) rfl)) rfl (tru_b _))) c47) (fun c47 h => by obtain ⟨v45, hv45, h⟩ := bnd h; rw [← Option.some.inj h]; exact tor_f (tno_ (tv_ (pk_s (fn_s (ρ2 := [.sh ((eL eI) a_script), .ow (W1 ds v19.2), .sh (eI x15), .sh (eI v16.1), .sh ((eT eI) v17.1), .sh (eI v18.1), .sh (eI v19.1), .sh (eI v20), .sh ((eT eI) y28), .sh ((eT eI) v29), .sh (eI x42), .sh ((e3 eI eI eI) v43), j10, j11, j12, j13, j14, .no, .no, .no, .no, .no]) (ac_ (fr_s ev_11) (an_ _)) rfl rfl (sim__law_is_numbers (a_thing := ((e3 eI eI eI) v43)) hv44) rfl)) rfl (tru_b _))) c47 (tb_ (bin_s ev_11 (fn_s (ρ2 := [.sh ((eL eI) a_script), .ow (W1 ds v19.2), .sh (eI x15), .sh (eI v16.1), .sh ((eT eI) v17.1), .sh (eI v18.1), .sh (eI v19.1), .sh (eI v20), .sh ((eT eI) y28), .sh ((eT eI) v29), .sh (eI x42), .sh ((e3 eI eI eI) v43), j10, j11, j12, j13, j14, .no, .no, .no, .no, .no]) (ac_ (fr_s ev_10) (an_ _)) rfl rfl (sim__law_form (a_rule := x42) hv45) rfl) (ne_e (e := (e3 eI eI eI)) v43 v45))))) c48 ?_
              refine wp_nil ?_
              cases h
              exact pb_nx ⟨_, rfl⟩
          · intro s49 ρ hR h
            obtain ⟨j50, rfl⟩ := hR
            obtain ⟨v51, hv51, h⟩ := bnd h
            rw [hv51]
            refine qs_nx ?_
            obtain ⟨v52, hv52, h⟩ := bnd h
            refine wp_seq (ρ1 := [.sh ((eL eI) a_script), .ow (W1 ds v19.2), .sh (eI x15), .sh (eI v16.1), .sh ((eT eI) v17.1), .sh (eI v18.1), .sh (eI v19.1), .sh (eI v20), .sh ((eT eI) y28), .sh ((eT eI) v29), .sh (eI v51), j50, .sh ((e2 eI eI) v52), j11, j12, j13, j14, .no, .no, .no, .no, .no]) (set_s (pk_s (fn_s (ρ2 := [.sh ((eL eI) a_script), .ow (W1 ds v19.2), .sh (eI x15), .sh (eI v16.1), .sh ((eT eI) v17.1), .sh (eI v18.1), .sh (eI v19.1), .sh (eI v20), .sh ((eT eI) y28), .sh ((eT eI) v29), .sh (eI v51), j50, j10, j11, j12, j13, j14, .no, .no, .no, .no, .no]) (ac_ (fr_s ev_3) (ac_ (fr_s ev_4) (an_ _))) rfl rfl (sim_orbit_of (a_rule := v16.1) (a_cells := v17.1) hv52) rfl))) ?_
            obtain ⟨v53, hv53, h⟩ := bnd h
            obtain ⟨v55, hv55, h⟩ := bnd h
            refine wp_seqW ?_
            refine ite_elim h (fun c57 h => ?_) (fun c57 h => ?_)
            · refine wp_if_t (show _ = some (v55, ([.sh ((eL eI) a_script), .ow (W1 ds v19.2), .sh (eI x15), .sh (eI v16.1), .sh ((eT eI) v17.1), .sh (eI v18.1), .sh (eI v19.1), .sh (eI v20), .sh ((eT eI) y28), .sh ((eT eI) v29), .sh (eI v51), j50, .sh ((e2 eI eI) v52), j11, j12, j13, j14, .no, .no, .no, .no, .no] : Rho)) from ite_elim hv55 (fun c56 h => by rw [← Option.some.inj h]; exact tor_t (tno_ (tv_ (pk_s (fn_s (ρ2 := [.sh ((eL eI) a_script), .ow (W1 ds v19.2), .sh (eI x15), .sh (eI v16.1), .sh ((eT eI) v17.1), .sh (eI v18.1), .sh (eI v19.1), .sh (eI v20), .sh ((eT eI) y28), .sh ((eT eI) v29), .sh (eI v51), j50, .sh ((e2 eI eI) v52), j11, j12, j13, j14, .no, .no, .no, .no, .no]) (ac_ (fr_s ev_12) (an_ _)) rfl rfl (sim__law_is_numbers (a_thing := ((e2 eI eI) v52)) hv53) rfl)) rfl (tru_b _))) c56) (fun c56 h => by obtain ⟨v54, hv54, h⟩ := bnd h; rw [← Option.some.inj h]; exact tor_f (tno_ (tv_ (pk_s (fn_s (ρ2 := [.sh ((eL eI) a_script), .ow (W1 ds v19.2), .sh (eI x15), .sh (eI v16.1), .sh ((eT eI) v17.1), .sh (eI v18.1), .sh (eI v19.1), .sh (eI v20), .sh ((eT eI) y28), .sh ((eT eI) v29), .sh (eI v51), j50, .sh ((e2 eI eI) v52), j11, j12, j13, j14, .no, .no, .no, .no, .no]) (ac_ (fr_s ev_12) (an_ _)) rfl rfl (sim__law_is_numbers (a_thing := ((e2 eI eI) v52)) hv53) rfl)) rfl (tru_b _))) c56 (tb_ (bin_s ev_12 (fn_s (ρ2 := [.sh ((eL eI) a_script), .ow (W1 ds v19.2), .sh (eI x15), .sh (eI v16.1), .sh ((eT eI) v17.1), .sh (eI v18.1), .sh (eI v19.1), .sh (eI v20), .sh ((eT eI) y28), .sh ((eT eI) v29), .sh (eI v51), j50, .sh ((e2 eI eI) v52), j11, j12, j13, j14, .no, .no, .no, .no, .no]) (ac_ (fr_s ev_3) (ac_ (fr_s ev_4) (an_ _))) rfl rfl (sim__law_orbit (a_rule := v16.1) (a_cells := v17.1) hv54) rfl) (ne_e (e := (e2 eI eI)) v52 v54))))) c57 ?_
              refine wp_ret (ec _ _) ?_
              refine qs_rt ?_
              cases h
              exact pb_rt (rt_i rfl rfl)
            · refine wp_if_f (show _ = some (v55, ([.sh ((eL eI) a_script), .ow (W1 ds v19.2), .sh (eI x15), .sh (eI v16.1), .sh ((eT eI) v17.1), .sh (eI v18.1), .sh (eI v19.1), .sh (eI v20), .sh ((eT eI) y28), .sh ((eT eI) v29), .sh (eI v51), j50, .sh ((e2 eI eI) v52), j11, j12, j13, j14, .no, .no, .no, .no, .no] : Rho)) from ite_elim hv55 (fun c56 h => by rw [← Option.some.inj h]; exact tor_t (tno_ (tv_ (pk_s (fn_s (ρ2 := [.sh ((eL eI) a_script), .ow (W1 ds v19.2), .sh (eI x15), .sh (eI v16.1), .sh ((eT eI) v17.1), .sh (eI v18.1), .sh (eI v19.1), .sh (eI v20), .sh ((eT eI) y28), .sh ((eT eI) v29), .sh (eI v51), j50, .sh ((e2 eI eI) v52), j11, j12, j13, j14, .no, .no, .no, .no, .no]) (ac_ (fr_s ev_12) (an_ _)) rfl rfl (sim__law_is_numbers (a_thing := ((e2 eI eI) v52)) hv53) rfl)) rfl (tru_b _))) c56) (fun c56 h => by obtain ⟨v54, hv54, h⟩ := bnd h; rw [← Option.some.inj h]; exact tor_f (tno_ (tv_ (pk_s (fn_s (ρ2 := [.sh ((eL eI) a_script), .ow (W1 ds v19.2), .sh (eI x15), .sh (eI v16.1), .sh ((eT eI) v17.1), .sh (eI v18.1), .sh (eI v19.1), .sh (eI v20), .sh ((eT eI) y28), .sh ((eT eI) v29), .sh (eI v51), j50, .sh ((e2 eI eI) v52), j11, j12, j13, j14, .no, .no, .no, .no, .no]) (ac_ (fr_s ev_12) (an_ _)) rfl rfl (sim__law_is_numbers (a_thing := ((e2 eI eI) v52)) hv53) rfl)) rfl (tru_b _))) c56 (tb_ (bin_s ev_12 (fn_s (ρ2 := [.sh ((eL eI) a_script), .ow (W1 ds v19.2), .sh (eI x15), .sh (eI v16.1), .sh ((eT eI) v17.1), .sh (eI v18.1), .sh (eI v19.1), .sh (eI v20), .sh ((eT eI) y28), .sh ((eT eI) v29), .sh (eI v51), j50, .sh ((e2 eI eI) v52), j11, j12, j13, j14, .no, .no, .no, .no, .no]) (ac_ (fr_s ev_3) (ac_ (fr_s ev_4) (an_ _))) rfl rfl (sim__law_orbit (a_rule := v16.1) (a_cells := v17.1) hv54) rfl) (ne_e (e := (e2 eI eI)) v52 v54))))) c57 ?_
              refine wp_nil ?_
              refine qs_nx ?_
              obtain ⟨v58, hv58, h⟩ := bnd h
              obtain ⟨v59, hv59, h⟩ := bnd h
              refine wp_seq (ρ1 := [.sh ((eL eI) a_script), .ow (W1 ds v19.2), .sh (eI x15), .sh (eI v16.1), .sh ((eT eI) v17.1), .sh (eI v18.1), .sh (eI v19.1), .sh (eI v20), .sh ((eT eI) y28), .sh ((eT eI) v29), .sh (eI v51), j50, .sh ((e2 eI eI) v52), .sh ((eO (eT eI)) v58), .sh ((eO (eT eI)) v59), j13, j14, .no, .no, .no, .no, .no]) (par_ (ac_ (fr_s (fn_s (ρ2 := [.sh ((eL eI) a_script), .ow (W1 ds v19.2), .sh (eI x15), .sh (eI v16.1), .sh ((eT eI) v17.1), .sh (eI v18.1), .sh (eI v19.1), .sh (eI v20), .sh ((eT eI) y28), .sh ((eT eI) v29), .sh (eI v51), j50, .sh ((e2 eI eI) v52), j11, j12, j13, j14, .no, .no, .no, .no, .no]) (ac_ (fr_s ev_3) (an_ _)) rfl rfl (sim_lost_row (a_rule := v16.1) hv58) rfl)) (ac_ (fr_s (fn_s (ρ2 := [.sh ((eL eI) a_script), .ow (W1 ds v19.2), .sh (eI x15), .sh (eI v16.1), .sh ((eT eI) v17.1), .sh (eI v18.1), .sh (eI v19.1), .sh (eI v20), .sh ((eT eI) y28), .sh ((eT eI) v29), .sh (eI v51), j50, .sh ((e2 eI eI) v52), j11, j12, j13, j14, .no, .no, .no, .no, .no]) (ac_ (fr_s ev_3) (an_ _)) rfl rfl (sim__law_lost (a_rule := v16.1) hv59) rfl)) (an_ _))) rfl rfl) ?_
              obtain ⟨v63, hv63, h⟩ := bnd h
              obtain ⟨v73, hv73, h⟩ := bnd h
              refine wp_seqW ?_
              refine ite_elim h (fun c75 h => ?_) (fun c75 h => ?_)
              · refine wp_if_t (show _ = some (v73, ([.sh ((eL eI) a_script), .ow (W1 ds v19.2), .sh (eI x15), .sh (eI v16.1), .sh ((eT eI) v17.1), .sh (eI v18.1), .sh (eI v19.1), .sh (eI v20), .sh ((eT eI) y28), .sh ((eT eI) v29), .sh (eI v51), j50, .sh ((e2 eI eI) v52), .sh ((eO (eT eI)) v58), .sh ((eO (eT eI)) v59), j13, j14, .no, .no, .no, .no, .no] : Rho)) from ite_elim hv73 (fun c74 h => by rw [← Option.some.inj h]; exact tor_t (show _ = some (v63, ([.sh ((eL eI) a_script), .ow (W1 ds v19.2), .sh (eI x15), .sh (eI v16.1), .sh ((eT eI) v17.1), .sh (eI v18.1), .sh (eI v19.1), .sh (eI v20), .sh ((eT eI) y28), .sh ((eT eI) v29), .sh (eI v51), j50, .sh ((e2 eI eI) v52), .sh ((eO (eT eI)) v58), .sh ((eO (eT eI)) v59), j13, j14, .no, .no, .no, .no, .no] : Rho)) from ite_elim hv63 (fun c64 h => by obtain ⟨v61, hv61, h⟩ := bnd h; rw [← Option.some.inj h]; exact tan_t (tb_ (bin_s ev_14 (ec _ _) (isndx_e (e := (eT eI)) v59))) c64 (show _ = some (v61, ([.sh ((eL eI) a_script), .ow (W1 ds v19.2), .sh (eI x15), .sh (eI v16.1), .sh ((eT eI) v17.1), .sh (eI v18.1), .sh (eI v19.1), .sh (eI v20), .sh ((eT eI) y28), .sh ((eT eI) v29), .sh (eI v51), j50, .sh ((e2 eI eI) v52), .sh ((eO (eT eI)) v58), .sh ((eO (eT eI)) v59), j13, j14, .no, .no, .no, .no, .no] : Rho)) from ite_elim hv61 (fun c62 h => by rw [← Option.some.inj h]; exact tor_t (tb_ (bin_s ev_13 (ec _ _) (notndx_e (e := (eT eI)) v58))) c62) (fun c62 h => by obtain ⟨v60, hv60, h⟩ := bnd h; rw [← Option.some.inj h]; exact tor_f (tb_ (bin_s ev_13 (ec _ _) (notndx_e (e := (eT eI)) v58))) c62 (tb_ (bin_s (fn_s (ρ2 := [.sh ((eL eI) a_script), .ow (W1 ds v19.2), .sh (eI x15), .sh (eI v16.1), .sh ((eT eI) v17.1), .sh (eI v18.1), .sh (eI v19.1), .sh (eI v20), .sh ((eT eI) y28), .sh ((eT eI) v29), .sh (eI v51), j50, .sh ((e2 eI eI) v52), .sh ((eO (eT eI)) v58), .sh ((eO (eT eI)) v59), j13, j14, .no, .no, .no, .no, .no]) (ac_ (fr_s ev_3) (an_ _)) rfl rfl (sim_is_open (a_rule := v16.1) hv60) rfl) (ec _ _) (notb_ _ _)))))) (fun c64 h => by rw [← Option.some.inj h]; exact tan_f (tb_ (bin_s ev_14 (ec _ _) (isndx_e (e := (eT eI)) v59))) c64)) c74) (fun c74 h => by obtain ⟨v71, hv71, h⟩ := bnd h; rw [← Option.some.inj h]; exact tor_f (show _ = some (v63, ([.sh ((eL eI) a_script), .ow (W1 ds v19.2), .sh (eI x15), .sh (eI v16.1), .sh ((eT eI) v17.1), .sh (eI v18.1), .sh (eI v19.1), .sh (eI v20), .sh ((eT eI) y28), .sh ((eT eI) v29), .sh (eI v51), j50, .sh ((e2 eI eI) v52), .sh ((eO (eT eI)) v58), .sh ((eO (eT eI)) v59), j13, j14, .no, .no, .no, .no, .no] : Rho)) from ite_elim hv63 (fun c64 h => by obtain ⟨v61, hv61, h⟩ := bnd h; rw [← Option.some.inj h]; exact tan_t (tb_ (bin_s ev_14 (ec _ _) (isndx_e (e := (eT eI)) v59))) c64 (show _ = some (v61, ([.sh ((eL eI) a_script), .ow (W1 ds v19.2), .sh (eI x15), .sh (eI v16.1), .sh ((eT eI) v17.1), .sh (eI v18.1), .sh (eI v19.1), .sh (eI v20), .sh ((eT eI) y28), .sh ((eT eI) v29), .sh (eI v51), j50, .sh ((e2 eI eI) v52), .sh ((eO (eT eI)) v58), .sh ((eO (eT eI)) v59), j13, j14, .no, .no, .no, .no, .no] : Rho)) from ite_elim hv61 (fun c62 h => by rw [← Option.some.inj h]; exact tor_t (tb_ (bin_s ev_13 (ec _ _) (notndx_e (e := (eT eI)) v58))) c62) (fun c62 h => by obtain ⟨v60, hv60, h⟩ := bnd h; rw [← Option.some.inj h]; exact tor_f (tb_ (bin_s ev_13 (ec _ _) (notndx_e (e := (eT eI)) v58))) c62 (tb_ (bin_s (fn_s (ρ2 := [.sh ((eL eI) a_script), .ow (W1 ds v19.2), .sh (eI x15), .sh (eI v16.1), .sh ((eT eI) v17.1), .sh (eI v18.1), .sh (eI v19.1), .sh (eI v20), .sh ((eT eI) y28), .sh ((eT eI) v29), .sh (eI v51), j50, .sh ((e2 eI eI) v52), .sh ((eO (eT eI)) v58), .sh ((eO (eT eI)) v59), j13, j14, .no, .no, .no, .no, .no]) (ac_ (fr_s ev_3) (an_ _)) rfl rfl (sim_is_open (a_rule := v16.1) hv60) rfl) (ec _ _) (notb_ _ _)))))) (fun c64 h => by rw [← Option.some.inj h]; exact tan_f (tb_ (bin_s ev_14 (ec _ _) (isndx_e (e := (eT eI)) v59))) c64)) c74 (show _ = some (v71, ([.sh ((eL eI) a_script), .ow (W1 ds v19.2), .sh (eI x15), .sh (eI v16.1), .sh ((eT eI) v17.1), .sh (eI v18.1), .sh (eI v19.1), .sh (eI v20), .sh ((eT eI) y28), .sh ((eT eI) v29), .sh (eI v51), j50, .sh ((e2 eI eI) v52), .sh ((eO (eT eI)) v58), .sh ((eO (eT eI)) v59), j13, j14, .no, .no, .no, .no, .no] : Rho)) from ite_elim hv71 (fun c72 h => by obtain ⟨v65, hv65, h⟩ := bnd h; obtain ⟨v69, hv69, h⟩ := bnd h; rw [← Option.some.inj h]; exact tan_t (tb_ (bin_s ev_14 (ec _ _) (notndx_e (e := (eT eI)) v59))) c72 (show _ = some (v69, ([.sh ((eL eI) a_script), .ow (W1 ds v19.2), .sh (eI x15), .sh (eI v16.1), .sh ((eT eI) v17.1), .sh (eI v18.1), .sh (eI v19.1), .sh (eI v20), .sh ((eT eI) y28), .sh ((eT eI) v29), .sh (eI v51), j50, .sh ((e2 eI eI) v52), .sh ((eO (eT eI)) v58), .sh ((eO (eT eI)) v59), j13, j14, .no, .no, .no, .no, .no] : Rho)) from ite_elim hv69 (fun c70 h => by rw [← Option.some.inj h]; exact tor_t (tno_ (tv_ (pk_s (fn_s (ρ2 := [.sh ((eL eI) a_script), .ow (W1 ds v19.2), .sh (eI x15), .sh (eI v16.1), .sh ((eT eI) v17.1), .sh (eI v18.1), .sh (eI v19.1), .sh (eI v20), .sh ((eT eI) y28), .sh ((eT eI) v29), .sh (eI v51), j50, .sh ((e2 eI eI) v52), .sh ((eO (eT eI)) v58), .sh ((eO (eT eI)) v59), j13, j14, .no, .no, .no, .no, .no]) (ac_ (fr_s ev_13) (an_ _)) rfl rfl (sim__law_is_numbers (a_thing := ((eO (eT eI)) v58)) hv65) rfl)) rfl (tru_b _))) c70) (fun c70 h => by obtain ⟨v67, hv67, h⟩ := bnd h; rw [← Option.some.inj h]; exact tor_f (tno_ (tv_ (pk_s (fn_s (ρ2 := [.sh ((eL eI) a_script), .ow (W1 ds v19.2), .sh (eI x15), .sh (eI v16.1), .sh ((eT eI) v17.1), .sh (eI v18.1), .sh (eI v19.1), .sh (eI v20), .sh ((eT eI) y28), .sh ((eT eI) v29), .sh (eI v51), j50, .sh ((e2 eI eI) v52), .sh ((eO (eT eI)) v58), .sh ((eO (eT eI)) v59), j13, j14, .no, .no, .no, .no, .no]) (ac_ (fr_s ev_13) (an_ _)) rfl rfl (sim__law_is_numbers (a_thing := ((eO (eT eI)) v58)) hv65) rfl)) rfl (tru_b _))) c70 (show _ = some (v67, ([.sh ((eL eI) a_script), .ow (W1 ds v19.2), .sh (eI x15), .sh (eI v16.1), .sh ((eT eI) v17.1), .sh (eI v18.1), .sh (eI v19.1), .sh (eI v20), .sh ((eT eI) y28), .sh ((eT eI) v29), .sh (eI v51), j50, .sh ((e2 eI eI) v52), .sh ((eO (eT eI)) v58), .sh ((eO (eT eI)) v59), j13, j14, .no, .no, .no, .no, .no] : Rho)) from ite_elim hv67 (fun c68 h => by rw [← Option.some.inj h]; exact tor_t (tb_ (bin_s ev_13 ev_14 (ne_e (e := (eO (eT eI))) v58 v59))) c68) (fun c68 h => by obtain ⟨v66, hv66, h⟩ := bnd h; rw [← Option.some.inj h]; exact tor_f (tb_ (bin_s ev_13 ev_14 (ne_e (e := (eO (eT eI))) v58 v59))) c68 (tb_ (bin_s (fn_s (ρ2 := [.sh ((eL eI) a_script), .ow (W1 ds v19.2), .sh (eI x15), .sh (eI v16.1), .sh ((eT eI) v17.1), .sh (eI v18.1), .sh (eI v19.1), .sh (eI v20), .sh ((eT eI) y28), .sh ((eT eI) v29), .sh (eI v51), j50, .sh ((e2 eI eI) v52), .sh ((eO (eT eI)) v58), .sh ((eO (eT eI)) v59), j13, j14, .no, .no, .no, .no, .no]) (ac_ (fr_s ev_3) (an_ _)) rfl rfl (sim_is_open (a_rule := v16.1) hv66) rfl) (ec _ _) (notb_ _ _)))))))) (fun c72 h => by rw [← Option.some.inj h]; exact tan_f (tb_ (bin_s ev_14 (ec _ _) (notndx_e (e := (eT eI)) v59))) c72)))) c75 ?_
                refine wp_ret (ec _ _) ?_
                refine qs_rt ?_
                cases h
                exact pb_rt (rt_i rfl rfl)
              · refine wp_if_f (show _ = some (v73, ([.sh ((eL eI) a_script), .ow (W1 ds v19.2), .sh (eI x15), .sh (eI v16.1), .sh ((eT eI) v17.1), .sh (eI v18.1), .sh (eI v19.1), .sh (eI v20), .sh ((eT eI) y28), .sh ((eT eI) v29), .sh (eI v51), j50, .sh ((e2 eI eI) v52), .sh ((eO (eT eI)) v58), .sh ((eO (eT eI)) v59), j13, j14, .no, .no, .no, .no, .no] : Rho)) from ite_elim hv73 (fun c74 h => by rw [← Option.some.inj h]; exact tor_t (show _ = some (v63, ([.sh ((eL eI) a_script), .ow (W1 ds v19.2), .sh (eI x15), .sh (eI v16.1), .sh ((eT eI) v17.1), .sh (eI v18.1), .sh (eI v19.1), .sh (eI v20), .sh ((eT eI) y28), .sh ((eT eI) v29), .sh (eI v51), j50, .sh ((e2 eI eI) v52), .sh ((eO (eT eI)) v58), .sh ((eO (eT eI)) v59), j13, j14, .no, .no, .no, .no, .no] : Rho)) from ite_elim hv63 (fun c64 h => by obtain ⟨v61, hv61, h⟩ := bnd h; rw [← Option.some.inj h]; exact tan_t (tb_ (bin_s ev_14 (ec _ _) (isndx_e (e := (eT eI)) v59))) c64 (show _ = some (v61, ([.sh ((eL eI) a_script), .ow (W1 ds v19.2), .sh (eI x15), .sh (eI v16.1), .sh ((eT eI) v17.1), .sh (eI v18.1), .sh (eI v19.1), .sh (eI v20), .sh ((eT eI) y28), .sh ((eT eI) v29), .sh (eI v51), j50, .sh ((e2 eI eI) v52), .sh ((eO (eT eI)) v58), .sh ((eO (eT eI)) v59), j13, j14, .no, .no, .no, .no, .no] : Rho)) from ite_elim hv61 (fun c62 h => by rw [← Option.some.inj h]; exact tor_t (tb_ (bin_s ev_13 (ec _ _) (notndx_e (e := (eT eI)) v58))) c62) (fun c62 h => by obtain ⟨v60, hv60, h⟩ := bnd h; rw [← Option.some.inj h]; exact tor_f (tb_ (bin_s ev_13 (ec _ _) (notndx_e (e := (eT eI)) v58))) c62 (tb_ (bin_s (fn_s (ρ2 := [.sh ((eL eI) a_script), .ow (W1 ds v19.2), .sh (eI x15), .sh (eI v16.1), .sh ((eT eI) v17.1), .sh (eI v18.1), .sh (eI v19.1), .sh (eI v20), .sh ((eT eI) y28), .sh ((eT eI) v29), .sh (eI v51), j50, .sh ((e2 eI eI) v52), .sh ((eO (eT eI)) v58), .sh ((eO (eT eI)) v59), j13, j14, .no, .no, .no, .no, .no]) (ac_ (fr_s ev_3) (an_ _)) rfl rfl (sim_is_open (a_rule := v16.1) hv60) rfl) (ec _ _) (notb_ _ _)))))) (fun c64 h => by rw [← Option.some.inj h]; exact tan_f (tb_ (bin_s ev_14 (ec _ _) (isndx_e (e := (eT eI)) v59))) c64)) c74) (fun c74 h => by obtain ⟨v71, hv71, h⟩ := bnd h; rw [← Option.some.inj h]; exact tor_f (show _ = some (v63, ([.sh ((eL eI) a_script), .ow (W1 ds v19.2), .sh (eI x15), .sh (eI v16.1), .sh ((eT eI) v17.1), .sh (eI v18.1), .sh (eI v19.1), .sh (eI v20), .sh ((eT eI) y28), .sh ((eT eI) v29), .sh (eI v51), j50, .sh ((e2 eI eI) v52), .sh ((eO (eT eI)) v58), .sh ((eO (eT eI)) v59), j13, j14, .no, .no, .no, .no, .no] : Rho)) from ite_elim hv63 (fun c64 h => by obtain ⟨v61, hv61, h⟩ := bnd h; rw [← Option.some.inj h]; exact tan_t (tb_ (bin_s ev_14 (ec _ _) (isndx_e (e := (eT eI)) v59))) c64 (show _ = some (v61, ([.sh ((eL eI) a_script), .ow (W1 ds v19.2), .sh (eI x15), .sh (eI v16.1), .sh ((eT eI) v17.1), .sh (eI v18.1), .sh (eI v19.1), .sh (eI v20), .sh ((eT eI) y28), .sh ((eT eI) v29), .sh (eI v51), j50, .sh ((e2 eI eI) v52), .sh ((eO (eT eI)) v58), .sh ((eO (eT eI)) v59), j13, j14, .no, .no, .no, .no, .no] : Rho)) from ite_elim hv61 (fun c62 h => by rw [← Option.some.inj h]; exact tor_t (tb_ (bin_s ev_13 (ec _ _) (notndx_e (e := (eT eI)) v58))) c62) (fun c62 h => by obtain ⟨v60, hv60, h⟩ := bnd h; rw [← Option.some.inj h]; exact tor_f (tb_ (bin_s ev_13 (ec _ _) (notndx_e (e := (eT eI)) v58))) c62 (tb_ (bin_s (fn_s (ρ2 := [.sh ((eL eI) a_script), .ow (W1 ds v19.2), .sh (eI x15), .sh (eI v16.1), .sh ((eT eI) v17.1), .sh (eI v18.1), .sh (eI v19.1), .sh (eI v20), .sh ((eT eI) y28), .sh ((eT eI) v29), .sh (eI v51), j50, .sh ((e2 eI eI) v52), .sh ((eO (eT eI)) v58), .sh ((eO (eT eI)) v59), j13, j14, .no, .no, .no, .no, .no]) (ac_ (fr_s ev_3) (an_ _)) rfl rfl (sim_is_open (a_rule := v16.1) hv60) rfl) (ec _ _) (notb_ _ _)))))) (fun c64 h => by rw [← Option.some.inj h]; exact tan_f (tb_ (bin_s ev_14 (ec _ _) (isndx_e (e := (eT eI)) v59))) c64)) c74 (show _ = some (v71, ([.sh ((eL eI) a_script), .ow (W1 ds v19.2), .sh (eI x15), .sh (eI v16.1), .sh ((eT eI) v17.1), .sh (eI v18.1), .sh (eI v19.1), .sh (eI v20), .sh ((eT eI) y28), .sh ((eT eI) v29), .sh (eI v51), j50, .sh ((e2 eI eI) v52), .sh ((eO (eT eI)) v58), .sh ((eO (eT eI)) v59), j13, j14, .no, .no, .no, .no, .no] : Rho)) from ite_elim hv71 (fun c72 h => by obtain ⟨v65, hv65, h⟩ := bnd h; obtain ⟨v69, hv69, h⟩ := bnd h; rw [← Option.some.inj h]; exact tan_t (tb_ (bin_s ev_14 (ec _ _) (notndx_e (e := (eT eI)) v59))) c72 (show _ = some (v69, ([.sh ((eL eI) a_script), .ow (W1 ds v19.2), .sh (eI x15), .sh (eI v16.1), .sh ((eT eI) v17.1), .sh (eI v18.1), .sh (eI v19.1), .sh (eI v20), .sh ((eT eI) y28), .sh ((eT eI) v29), .sh (eI v51), j50, .sh ((e2 eI eI) v52), .sh ((eO (eT eI)) v58), .sh ((eO (eT eI)) v59), j13, j14, .no, .no, .no, .no, .no] : Rho)) from ite_elim hv69 (fun c70 h => by rw [← Option.some.inj h]; exact tor_t (tno_ (tv_ (pk_s (fn_s (ρ2 := [.sh ((eL eI) a_script), .ow (W1 ds v19.2), .sh (eI x15), .sh (eI v16.1), .sh ((eT eI) v17.1), .sh (eI v18.1), .sh (eI v19.1), .sh (eI v20), .sh ((eT eI) y28), .sh ((eT eI) v29), .sh (eI v51), j50, .sh ((e2 eI eI) v52), .sh ((eO (eT eI)) v58), .sh ((eO (eT eI)) v59), j13, j14, .no, .no, .no, .no, .no]) (ac_ (fr_s ev_13) (an_ _)) rfl rfl (sim__law_is_numbers (a_thing := ((eO (eT eI)) v58)) hv65) rfl)) rfl (tru_b _))) c70) (fun c70 h => by obtain ⟨v67, hv67, h⟩ := bnd h; rw [← Option.some.inj h]; exact tor_f (tno_ (tv_ (pk_s (fn_s (ρ2 := [.sh ((eL eI) a_script), .ow (W1 ds v19.2), .sh (eI x15), .sh (eI v16.1), .sh ((eT eI) v17.1), .sh (eI v18.1), .sh (eI v19.1), .sh (eI v20), .sh ((eT eI) y28), .sh ((eT eI) v29), .sh (eI v51), j50, .sh ((e2 eI eI) v52), .sh ((eO (eT eI)) v58), .sh ((eO (eT eI)) v59), j13, j14, .no, .no, .no, .no, .no]) (ac_ (fr_s ev_13) (an_ _)) rfl rfl (sim__law_is_numbers (a_thing := ((eO (eT eI)) v58)) hv65) rfl)) rfl (tru_b _))) c70 (show _ = some (v67, ([.sh ((eL eI) a_script), .ow (W1 ds v19.2), .sh (eI x15), .sh (eI v16.1), .sh ((eT eI) v17.1), .sh (eI v18.1), .sh (eI v19.1), .sh (eI v20), .sh ((eT eI) y28), .sh ((eT eI) v29), .sh (eI v51), j50, .sh ((e2 eI eI) v52), .sh ((eO (eT eI)) v58), .sh ((eO (eT eI)) v59), j13, j14, .no, .no, .no, .no, .no] : Rho)) from ite_elim hv67 (fun c68 h => by rw [← Option.some.inj h]; exact tor_t (tb_ (bin_s ev_13 ev_14 (ne_e (e := (eO (eT eI))) v58 v59))) c68) (fun c68 h => by obtain ⟨v66, hv66, h⟩ := bnd h; rw [← Option.some.inj h]; exact tor_f (tb_ (bin_s ev_13 ev_14 (ne_e (e := (eO (eT eI))) v58 v59))) c68 (tb_ (bin_s (fn_s (ρ2 := [.sh ((eL eI) a_script), .ow (W1 ds v19.2), .sh (eI x15), .sh (eI v16.1), .sh ((eT eI) v17.1), .sh (eI v18.1), .sh (eI v19.1), .sh (eI v20), .sh ((eT eI) y28), .sh ((eT eI) v29), .sh (eI v51), j50, .sh ((e2 eI eI) v52), .sh ((eO (eT eI)) v58), .sh ((eO (eT eI)) v59), j13, j14, .no, .no, .no, .no, .no]) (ac_ (fr_s ev_3) (an_ _)) rfl rfl (sim_is_open (a_rule := v16.1) hv66) rfl) (ec _ _) (notb_ _ _)))))))) (fun c72 h => by rw [← Option.some.inj h]; exact tan_f (tb_ (bin_s ev_14 (ec _ _) (notndx_e (e := (eT eI)) v59))) c72)))) c75 ?_
                refine wp_nil ?_
                refine qs_nx ?_
                obtain ⟨v76, hv76, h⟩ := bnd h
                obtain ⟨v77, hv77, h⟩ := bnd h
                refine (wp_for (R := (fun (s78 : Unit) ρ => ∃ j79 j80, ρ = [.sh ((eL eI) a_script), .ow (W1 ds v77.2), .sh (eI x15), .sh (eI v16.1), .sh ((eT eI) v17.1), .sh (eI v18.1), .sh (eI v19.1), .sh (eI v20), .sh ((eT eI) y28), .sh ((eT eI) v29), .sh (eI v51), j50, .sh ((e2 eI eI) v52), .sh ((eO (eT eI)) v58), .sh ((eO (eT eI)) v59), j79, j80, .no, .no, .no, .no, .no])) (Qr := fun (x : Bool) => Rt [.sh ((eL eI) a_script)] [] (.sh (eB x)) [.sh ((eL eI) a_script)]) (e := eI) (s0 := ()) (iseq_t (e := eI) (fr_s (tup_ (ac_ (fr_s (bin_s (ec _ _) (fn_s (ρ2 := [.sh ((eL eI) a_script), .ow (W1 ds v76.2), .sh (eI x15), .sh (eI v16.1), .sh ((eT eI) v17.1), .sh (eI v18.1), .sh (eI v19.1), .sh (eI v20), .sh ((eT eI) y28), .sh ((eT eI) v29), .sh (eI v51), j50, .sh ((e2 eI eI) v52), .sh ((eO (eT eI)) v58), .sh ((eO (eT eI)) v59), j13, j14, .no, .no, .no, .no, .no]) (ac_ eva_1 (ac_ (ec _ _) (an_ _))) rfl rfl (sim_next hv76) rfl) (add_i _ _))) (ac_ (fr_s (bin_s (ec _ _) (fn_s (ρ2 := [.sh ((eL eI) a_script), .ow (W1 ds v77.2), .sh (eI x15), .sh (eI v16.1), .sh ((eT eI) v17.1), .sh (eI v18.1), .sh (eI v19.1), .sh (eI v20), .sh ((eT eI) y28), .sh ((eT eI) v29), .sh (eI v51), j50, .sh ((e2 eI eI) v52), .sh ((eO (eT eI)) v58), .sh ((eO (eT eI)) v59), j13, j14, .no, .no, .no, .no, .no]) (ac_ eva_1 (ac_ (ec _ _) (an_ _))) rfl rfl (sim_next hv77) rfl) (add_i _ _))) (an_ _))) rfl (few' rfl)))) ⟨_, _, rfl⟩ (fun x81 s78 s' ρ hx hR h => ?_) h ?_ (fun x rv ρ hk hq => by cases hk; exact (pb_rt hq)))
                · obtain ⟨j79, j80, rfl⟩ := hR
                  refine ⟨[.sh ((eL eI) a_script), .ow (W1 ds v77.2), .sh (eI x15), .sh (eI v16.1), .sh ((eT eI) v17.1), .sh (eI v18.1), .sh (eI v19.1), .sh (eI v20), .sh ((eT eI) y28), .sh ((eT eI) v29), .sh (eI v51), j50, .sh ((e2 eI eI) v52), .sh ((eO (eT eI)) v58), .sh ((eO (eT eI)) v59), .sh (eI x81), j80, .no, .no, .no, .no, .no], rfl, ?_⟩
                  obtain ⟨v82, hv82, h⟩ := bnd h
                  refine wp_seq (ρ1 := [.sh ((eL eI) a_script), .ow (W1 ds v77.2), .sh (eI x15), .sh (eI v16.1), .sh ((eT eI) v17.1), .sh (eI v18.1), .sh (eI v19.1), .sh (eI v20), .sh ((eT eI) y28), .sh ((eT eI) v29), .sh (eI v51), j50, .sh ((e2 eI eI) v52), .sh ((eO (eT eI)) v58), .sh ((eO (eT eI)) v59), .sh (eI x81), .sh (eI v82), .no, .no, .no, .no, .no]) (set_s (pk_s (fn_s (ρ2 := [.sh ((eL eI) a_script), .ow (W1 ds v77.2), .sh (eI x15), .sh (eI v16.1), .sh ((eT eI) v17.1), .sh (eI v18.1), .sh (eI v19.1), .sh (eI v20), .sh ((eT eI) y28), .sh ((eT eI) v29), .sh (eI v51), j50, .sh ((e2 eI eI) v52), .sh ((eO (eT eI)) v58), .sh ((eO (eT eI)) v59), .sh (eI x81), j80, .no, .no, .no, .no, .no]) (ac_ (fr_s ev_3) (ac_ (fr_s ev_15) (an_ _))) rfl rfl (sim_count_kept (a_rule := v16.1) (a_n := x81) hv82) rfl))) ?_
                  obtain ⟨v83, hv83, h⟩ := bnd h
                  obtain ⟨v85, hv85, h⟩ := bnd h
                  refine ite_elim h (fun c87 h => ?_) (fun c87 h => ?_)
                  · refine wp_if_t (show _ = some (v85, ([.sh ((eL eI) a_script), .ow (W1 ds v77.2), .sh (eI x15), .sh (eI v16.1), .sh ((eT eI) v17.1), .sh (eI v18.1), .sh (eI v19.1), .sh (eI v20), .sh ((eT eI) y28), .sh ((eT eI) v29), .sh (eI v51), j50, .sh ((e2 eI eI) v52), .sh ((eO (eT eI)) v58), .sh ((eO (eT eI)) v59), .sh (eI x81), .sh (eI v82), .no, .no, .no, .no, .no] : Rho)) from ite_elim hv85 (fun c86 h => by rw [← Option.some.inj h]; exact tor_t (tno_ (tv_ (pk_s (fn_s (ρ2 := [.sh ((eL eI) a_script), .ow (W1 ds v77.2), .sh (eI x15), .sh (eI v16.1), .sh ((eT eI) v17.1), .sh (eI v18.1), .sh (eI v19.1), .sh (eI v20), .sh ((eT eI) y28), .sh ((eT eI) v29), .sh (eI v51), j50, .sh ((e2 eI eI) v52), .sh ((eO (eT eI)) v58), .sh ((eO (eT eI)) v59), .sh (eI x81), .sh (eI v82), .no, .no, .no, .no, .no]) (ac_ (fr_s ev_16) (an_ _)) rfl rfl (sim__law_is_number (a_thing := (eI v82)) hv83) rfl)) rfl (tru_b _))) c86) (fun c86 h => by obtain ⟨v84, hv84, h⟩ := bnd h; rw [← Option.some.inj h]; exact tor_f (tno_ (tv_ (pk_s (fn_s (ρ2 := [.sh ((eL eI) a_script), .ow (W1 ds v77.2), .sh (eI x15), .sh (eI v16.1), .sh ((eT eI) v17.1), .sh (eI v18.1), .sh (eI v19.1), .sh (eI v20), .sh ((eT eI) y28), .sh ((eT eI) v29), .sh (eI v51), j50, .sh ((e2 eI eI) v52), .sh ((eO (eT eI)) v58), .sh ((eO (eT eI)) v59), .sh (eI x81), .sh (eI v82), .no, .no, .no, .no, .no]) (ac_ (fr_s ev_16) (an_ _)) rfl rfl (sim__law_is_number (a_thing := (eI v82)) hv83) rfl)) rfl (tru_b _))) c86 (tb_ (bin_s ev_16 (fn_s (ρ2 := [.sh ((eL eI) a_script), .ow (W1 ds v77.2), .sh (eI x15), .sh (eI v16.1), .sh ((eT eI) v17.1), .sh (eI v18.1), .sh (eI v19.1), .sh (eI v20), .sh ((eT eI) y28), .sh ((eT eI) v29), .sh (eI v51), j50, .sh ((e2 eI eI) v52), .sh ((eO (eT eI)) v58), .sh ((eO (eT eI)) v59), .sh (eI x81), .sh (eI v82), .no, .no, .no, .no, .no]) (ac_ (fr_s ev_3) (ac_ (fr_s ev_15) (an_ _))) rfl rfl (sim__law_kept (a_rule := v16.1) (a_n := x81) hv84) rfl) (ne_i _ _))))) c87 ?_
                    refine wp_ret (ec _ _) ?_
                    cases h
                    exact pb_rt (rt_i rfl rfl)
                  · refine wp_if_f (show _ = some (v85, ([.sh ((eL eI) a_script), .ow (W1 ds v77.2), .sh (eI x15), .sh (eI v16.1), .sh ((eT eI) v17.1), .sh (eI v18.1), .sh (eI v19.1), .sh (eI v20), .sh ((eT eI) y28), .sh ((eT eI) v29), .sh (eI v51), j50, .sh ((e2 eI eI) v52), .sh ((eO (eT eI)) v58), .sh ((eO (eT eI)) v59), .sh (eI x81), .sh (eI v82), .no, .no, .no, .no, .no] : Rho)) from ite_elim hv85 (fun c86 h => by rw [← Option.some.inj h]; exact tor_t (tno_ (tv_ (pk_s (fn_s (ρ2 := [.sh ((eL eI) a_script), .ow (W1 ds v77.2), .sh (eI x15), .sh (eI v16.1), .sh ((eT eI) v17.1), .sh (eI v18.1), .sh (eI v19.1), .sh (eI v20), .sh ((eT eI) y28), .sh ((eT eI) v29), .sh (eI v51), j50, .sh ((e2 eI eI) v52), .sh ((eO (eT eI)) v58), .sh ((eO (eT eI)) v59), .sh (eI x81), .sh (eI v82), .no, .no, .no, .no, .no]) (ac_ (fr_s ev_16) (an_ _)) rfl rfl (sim__law_is_number (a_thing := (eI v82)) hv83) rfl)) rfl (tru_b _))) c86) (fun c86 h => by obtain ⟨v84, hv84, h⟩ := bnd h; rw [← Option.some.inj h]; exact tor_f (tno_ (tv_ (pk_s (fn_s (ρ2 := [.sh ((eL eI) a_script), .ow (W1 ds v77.2), .sh (eI x15), .sh (eI v16.1), .sh ((eT eI) v17.1), .sh (eI v18.1), .sh (eI v19.1), .sh (eI v20), .sh ((eT eI) y28), .sh ((eT eI) v29), .sh (eI v51), j50, .sh ((e2 eI eI) v52), .sh ((eO (eT eI)) v58), .sh ((eO (eT eI)) v59), .sh (eI x81), .sh (eI v82), .no, .no, .no, .no, .no]) (ac_ (fr_s ev_16) (an_ _)) rfl rfl (sim__law_is_number (a_thing := (eI v82)) hv83) rfl)) rfl (tru_b _))) c86 (tb_ (bin_s ev_16 (fn_s (ρ2 := [.sh ((eL eI) a_script), .ow (W1 ds v77.2), .sh (eI x15), .sh (eI v16.1), .sh ((eT eI) v17.1), .sh (eI v18.1), .sh (eI v19.1), .sh (eI v20), .sh ((eT eI) y28), .sh ((eT eI) v29), .sh (eI v51), j50, .sh ((e2 eI eI) v52), .sh ((eO (eT eI)) v58), .sh ((eO (eT eI)) v59), .sh (eI x81), .sh (eI v82), .no, .no, .no, .no, .no]) (ac_ (fr_s ev_3) (ac_ (fr_s ev_15) (an_ _))) rfl rfl (sim__law_kept (a_rule := v16.1) (a_n := x81) hv84) rfl) (ne_i _ _))))) c87 ?_
                    refine wp_nil ?_
                    cases h
                    exact pb_nx ⟨_, _, rfl⟩
                · intro s88 ρ hR h
                  obtain ⟨j89, j90, rfl⟩ := hR
                  cases h
                  exact pb_nx ⟨_, _, _, _, _, _, _, _, _, _, _, _, _, rfl⟩
  · intro s91 ρ hR h
    obtain ⟨j92, j93, j94, j95, j96, j97, j98, j99, j100, j101, j102, j103, j104, rfl⟩ := hR
    obtain ⟨v105, hv105, h⟩ := bnd h
    rw [hv105]
    obtain ⟨v106, hv106, h⟩ := bnd h
    rw [hv106]
    refine qs_nx ?_
    obtain ⟨v107, hv107, h⟩ := bnd h
    obtain ⟨x108, hx108, h⟩ := bnd h
    refine wp_seq (ρ1 := [.sh ((eL eI) a_script), .ow (W1 ds v107.2), j92, .sh (eI v105), j93, j94, j95, j96, j97, j98, .sh (eI v106), j99, j100, j101, j102, .sh (eI x108), j104, .no, .no, .no, .no, .no]) (by rw [← Option.some.inj hx108]; exact (set_s (bin_s (ec _ _) (fn_s (ρ2 := [.sh ((eL eI) a_script), .ow (W1 ds v107.2), j92, .sh (eI v105), j93, j94, j95, j96, j97, j98, .sh (eI v106), j99, j100, j101, j102, j103, j104, .no, .no, .no, .no, .no]) (ac_ eva_1 (ac_ (ec _ _) (an_ _))) rfl rfl (sim_next hv107) rfl) (add_i _ _)))) ?_
    obtain ⟨v110, hv110, h⟩ := bnd h
    obtain ⟨r111, hr111, h⟩ := bnd h
    obtain ⟨y118, hy118, h⟩ := bnd h
    refine wp_seq (ρ1 := [.sh ((eL eI) a_script), .ow (W1 ds v107.2), j92, .sh (eI v105), j93, j94, j95, j96, j97, j98, .sh (eI v106), j99, j100, j101, j102, .sh (eI x108), j104, .sh ((eL (eT eI)) y118), .no, .no, .no, .no]) (set_s (pk_o (lm_ (W := [.sh ((eL eI) a_script), .ow (W1 ds v107.2), j92, .sh (eI v105), j93, j94, j95, j96, j97, j98, .sh (eI v106), j99, j100, j101, j102, .sh (eI x108), j104, .no, .no, .no, .no, .no]) (e := eI) (e' := (eT eI)) (irng_ (e := eI) (ac_ (bin_s (ec _ _) ev_15 (shl_t hv110)) (an_ _)) rfl (rng1_t hr111)) rfl rfl (fun x112 _ _ h => by obtain ⟨r114, hr114, h⟩ := bnd h; obtain ⟨y117, hy117, h⟩ := bnd h; rw [← Option.some.inj h]; exact ⟨[.sh ((eL eI) a_script), .ow (W1 ds v107.2), j92, .sh (eI v105), j93, j94, j95, j96, j97, j98, .sh (eI v106), j99, j100, j101, j102, .sh (eI x108), j104, .no, .sh (eI x112), .no, .no, .no], [.sh ((eL eI) a_script), .ow (W1 ds v107.2), j92, .sh (eI v105), j93, j94, j95, j96, j97, j98, .sh (eI v106), j99, j100, j101, j102, .sh (eI x108), j104, .no, .sh (eI x112), .no, .no, .no], rfl, (fr_s (call_s (ac_ (lm_ (W := [.sh ((eL eI) a_script), .ow (W1 ds v107.2), j92, .sh (eI v105), j93, j94, j95, j96, j97, j98, .sh (eI v106), j99, j100, j101, j102, .sh (eI x108), j104, .no, .sh (eI x112), .no, .no, .no]) (e := eI) (e' := eI) (irng_ (e := eI) (ac_ ev_15 (an_ _)) rfl (rng1_t hr114)) rfl rfl (fun x115 _ _ h => by obtain ⟨v116, hv116, h⟩ := bnd h; rw [← Option.some.inj h]; exact ⟨[.sh ((eL eI) a_script), .ow (W1 ds v107.2), j92, .sh (eI v105), j93, j94, j95, j96, j97, j98, .sh (eI v106), j99, j100, j101, j102, .sh (eI x108), j104, .no, .sh (eI x112), .no, .sh (eI x115), .no], [.sh ((eL eI) a_script), .ow (W1 ds v107.2), j92, .sh (eI v105), j93, j94, j95, j96, j97, j98, .sh (eI v106), j99, j100, j101, j102, .sh (eI x108), j104, .no, .sh (eI x112), .no, .sh (eI x115), .no], rfl, (fr_s (bin_s (bin_s ev_18 ev_20 (shr_t hv116)) (ec _ _) (bit_i _ _ _))), rfl⟩) hy117) (an_ _)) rfl (tupL_e (e := eI) y117))), rfl⟩) hy118))) ?_
    obtain ⟨v119, hv119, h⟩ := bnd h
    obtain ⟨y123, hy123, h⟩ := bnd h
    refine wp_seqW ?_
    refine ite_elim h (fun c124 h => ?_) (fun c124 h => ?_)
    · refine wp_if_t (tb_ (bin_s (fn_s (ρ2 := [.sh ((eL eI) a_script), .ow (W1 ds v107.2), j92, .sh (eI v105), j93, j94, j95, j96, j97, j98, .sh (eI v106), j99, j100, j101, j102, .sh (eI x108), j104, .sh ((eL (eT eI)) y118), .no, .no, .no, .no]) (ac_ (fr_s ev_3) (ac_ (fr_s ev_15) (an_ _))) rfl rfl (sim_count_kept (a_rule := v105) (a_n := x108) hv119) rfl) (call_s (ac_ (lc_ (W := [.sh ((eL eI) a_script), .ow (W1 ds v107.2), j92, .sh (eI v105), j93, j94, j95, j96, j97, j98, .sh (eI v106), j99, j100, j101, j102, .sh (eI x108), j104, .sh ((eL (eT eI)) y118), .no, .no, .no, .no]) (e := (eT eI)) (e' := (eT eI)) (iseq_l (e := (eT eI)) (fr_s ev_17)) rfl rfl (fun x121 _ _ h => by obtain ⟨v122, hv122, h⟩ := bnd h; exact ite_elim h (fun c120 h => by rw [← Option.some.inj h]; exact ⟨[.sh ((eL eI) a_script), .ow (W1 ds v107.2), j92, .sh (eI v105), j93, j94, j95, j96, j97, j98, .sh (eI v106), j99, j100, j101, j102, .sh (eI x108), j104, .sh ((eL (eT eI)) y118), .no, .no, .no, .sh ((eT eI) x121)], rfl, _, _, tcong (tb_ (bin_s (fn_s (ρ2 := [.sh ((eL eI) a_script), .ow (W1 ds v107.2), j92, .sh (eI v105), j93, j94, j95, j96, j97, j98, .sh (eI v106), j99, j100, j101, j102, .sh (eI x108), j104, .sh ((eL (eT eI)) y118), .no, .no, .no, .sh ((eT eI) x121)]) (ac_ (fr_s ev_3) (ac_ (fr_s ev_21) (an_ _))) rfl rfl (sim__law_ran (a_rule := v105) (a_cells := x121) hv122) rfl) ev_21 (eq_e (e := (eT eI)) v122 x121))) c120, (fr_s ev_21), rfl⟩) (fun c120 h => by rw [← Option.some.inj h]; exact ⟨[.sh ((eL eI) a_script), .ow (W1 ds v107.2), j92, .sh (eI v105), j93, j94, j95, j96, j97, j98, .sh (eI v106), j99, j100, j101, j102, .sh (eI x108), j104, .sh ((eL (eT eI)) y118), .no, .no, .no, .sh ((eT eI) x121)], rfl, _, tcong (tb_ (bin_s (fn_s (ρ2 := [.sh ((eL eI) a_script), .ow (W1 ds v107.2), j92, .sh (eI v105), j93, j94, j95, j96, j97, j98, .sh (eI v106), j99, j100, j101, j102, .sh (eI x108), j104, .sh ((eL (eT eI)) y118), .no, .no, .no, .sh ((eT eI) x121)]) (ac_ (fr_s ev_3) (ac_ (fr_s ev_21) (an_ _))) rfl rfl (sim__law_ran (a_rule := v105) (a_cells := x121) hv122) rfl) ev_21 (eq_e (e := (eT eI)) v122 x121))) c120, rfl⟩)) hy123) (an_ _)) rfl (lenL_e (e := (eT eI)) y123)) (ne_i _ _))) c124 ?_
      refine wp_ret (ec _ _) ?_
      refine qs_rt ?_
      cases h
      exact rt_i rfl rfl
    · refine wp_if_f (tb_ (bin_s (fn_s (ρ2 := [.sh ((eL eI) a_script), .ow (W1 ds v107.2), j92, .sh (eI v105), j93, j94, j95, j96, j97, j98, .sh (eI v106), j99, j100, j101, j102, .sh (eI x108), j104, .sh ((eL (eT eI)) y118), .no, .no, .no, .no]) (ac_ (fr_s ev_3) (ac_ (fr_s ev_15) (an_ _))) rfl rfl (sim_count_kept (a_rule := v105) (a_n := x108) hv119) rfl) (call_s (ac_ (lc_ (W := [.sh ((eL eI) a_script), .ow (W1 ds v107.2), j92, .sh (eI v105), j93, j94, j95, j96, j97, j98, .sh (eI v106), j99, j100, j101, j102, .sh (eI x108), j104, .sh ((eL (eT eI)) y118), .no, .no, .no, .no]) (e := (eT eI)) (e' := (eT eI)) (iseq_l (e := (eT eI)) (fr_s ev_17)) rfl rfl (fun x121 _ _ h => by obtain ⟨v122, hv122, h⟩ := bnd h; exact ite_elim h (fun c120 h => by rw [← Option.some.inj h]; exact ⟨[.sh ((eL eI) a_script), .ow (W1 ds v107.2), j92, .sh (eI v105), j93, j94, j95, j96, j97, j98, .sh (eI v106), j99, j100, j101, j102, .sh (eI x108), j104, .sh ((eL (eT eI)) y118), .no, .no, .no, .sh ((eT eI) x121)], rfl, _, _, tcong (tb_ (bin_s (fn_s (ρ2 := [.sh ((eL eI) a_script), .ow (W1 ds v107.2), j92, .sh (eI v105), j93, j94, j95, j96, j97, j98, .sh (eI v106), j99, j100, j101, j102, .sh (eI x108), j104, .sh ((eL (eT eI)) y118), .no, .no, .no, .sh ((eT eI) x121)]) (ac_ (fr_s ev_3) (ac_ (fr_s ev_21) (an_ _))) rfl rfl (sim__law_ran (a_rule := v105) (a_cells := x121) hv122) rfl) ev_21 (eq_e (e := (eT eI)) v122 x121))) c120, (fr_s ev_21), rfl⟩) (fun c120 h => by rw [← Option.some.inj h]; exact ⟨[.sh ((eL eI) a_script), .ow (W1 ds v107.2), j92, .sh (eI v105), j93, j94, j95, j96, j97, j98, .sh (eI v106), j99, j100, j101, j102, .sh (eI x108), j104, .sh ((eL (eT eI)) y118), .no, .no, .no, .sh ((eT eI) x121)], rfl, _, tcong (tb_ (bin_s (fn_s (ρ2 := [.sh ((eL eI) a_script), .ow (W1 ds v107.2), j92, .sh (eI v105), j93, j94, j95, j96, j97, j98, .sh (eI v106), j99, j100, j101, j102, .sh (eI x108), j104, .sh ((eL (eT eI)) y118), .no, .no, .no, .sh ((eT eI) x121)]) (ac_ (fr_s ev_3) (ac_ (fr_s ev_21) (an_ _))) rfl rfl (sim__law_ran (a_rule := v105) (a_cells := x121) hv122) rfl) ev_21 (eq_e (e := (eT eI)) v122 x121))) c120, rfl⟩)) hy123) (an_ _)) rfl (lenL_e (e := (eT eI)) y123)) (ne_i _ _))) c124 ?_
      refine wp_nil ?_
      refine qs_nx ?_
      obtain ⟨v125, hv125, h⟩ := bnd h
      refine wp_seqW ?_
      refine ite_elim h (fun c126 h => ?_) (fun c126 h => ?_)
      · refine wp_if_t (tb_ (bin_s (fn_s (ρ2 := [.sh ((eL eI) a_script), .ow (W1 ds v125.2), j92, .sh (eI v105), j93, j94, j95, j96, j97, j98, .sh (eI v106), j99, j100, j101, j102, .sh (eI x108), j104, .sh ((eL (eT eI)) y118), .no, .no, .no, .no]) (ac_ eva_1 (ac_ (ec _ _) (an_ _))) rfl rfl (sim_next hv125) rfl) (ec _ _) (eq_i _ _))) c126 ?_
        obtain ⟨v127, hv127, h⟩ := bnd h
        refine wp_seq (ρ1 := [.sh ((eL eI) a_script), .ow (W1 ds v125.2), j92, .sh (eI v105), j93, j94, j95, .sh ((eT eI) v127), j97, j98, .sh (eI v106), j99, j100, j101, j102, .sh (eI x108), j104, .sh ((eL (eT eI)) y118), .no, .no, .no, .no]) (set_s (pk_s (fn_s (ρ2 := [.sh ((eL eI) a_script), .ow (W1 ds v125.2), j92, .sh (eI v105), j93, j94, j95, j96, j97, j98, .sh (eI v106), j99, j100, j101, j102, .sh (eI x108), j104, .sh ((eL (eT eI)) y118), .no, .no, .no, .no]) (an_ _) rfl rfl (sim_all_rules  hv127) rfl))) ?_
        obtain ⟨v128, hv128, h⟩ := bnd h
        obtain ⟨v134, hv134, h⟩ := bnd h
        refine ite_elim h (fun c136 h => ?_) (fun c136 h => ?_)
        · refine wp_if_t (show _ = some (v134, ([.sh ((eL eI) a_script), .ow (W1 ds v125.2), j92, .sh (eI v105), j93, j94, j95, .sh ((eT eI) v127), j97, j98, .sh (eI v106), j99, j100, j101, j102, .sh (eI x108), j104, .sh ((eL (eT eI)) y118), .no, .no, .no, .no] : Rho)) from ite_elim hv134 (fun c135 h => by rw [← Option.some.inj h]; exact tor_t (tno_ (tv_ (pk_s (fn_s (ρ2 := [.sh ((eL eI) a_script), .ow (W1 ds v125.2), j92, .sh (eI v105), j93, j94, j95, .sh ((eT eI) v127), j97, j98, .sh (eI v106), j99, j100, j101, j102, .sh (eI x108), j104, .sh ((eL (eT eI)) y118), .no, .no, .no, .no]) (ac_ (fr_s ev_7) (an_ _)) rfl rfl (sim__law_is_numbers (a_thing := ((eT eI) v127)) hv128) rfl)) rfl (tru_b _))) c135) (fun c135 h => by obtain ⟨y132, hy132, h⟩ := bnd h; obtain ⟨v133, hv133, h⟩ := bnd h; rw [← Option.some.inj h]; exact tor_f (tno_ (tv_ (pk_s (fn_s (ρ2 := [.sh ((eL eI) a_script), .ow (W1 ds v125.2), j92, .sh (eI v105), j93, j94, j95, .sh ((eT eI) v127), j97, j98, .sh (eI v106), j99, j100, j101, j102, .sh (eI x108), j104, .sh ((eL (eT eI)) y118), .no, .no, .no, .no]) (ac_ (fr_s ev_7) (an_ _)) rfl rfl (sim__law_is_numbers (a_thing := ((eT eI) v127)) hv128) rfl)) rfl (tru_b _))) c135 (tor_ (tb_ (bin_gs (pk_o (call_o (ac_ ev_7 (an_ _)) rfl (lstT_e (e := eI) v127))) (pk_o (sset_ (fr_o (lm_ (W := [.sh ((eL eI) a_script), .ow (W1 ds v125.2), j92, .sh (eI v105), j93, j94, j95, .sh ((eT eI) v127), j97, j98, .no, j99, j100, j101, j102, .sh (eI x108), j104, .sh ((eL (eT eI)) y118), .no, .no, .no, .no]) (e := eI) (e' := eI) (irng_ (e := eI) (ac_ (ec _ _) (an_ _)) rfl (rng1_l _)) rfl rfl (fun x130 _ _ h => by obtain ⟨v131, hv131, h⟩ := bnd h; rw [← Option.some.inj h]; exact ⟨[.sh ((eL eI) a_script), .ow (W1 ds v125.2), j92, .sh (eI v105), j93, j94, j95, .sh ((eT eI) v127), j97, j98, .sh (eI x130), j99, j100, j101, j102, .sh (eI x108), j104, .sh ((eL (eT eI)) y118), .no, .no, .no, .no], [.sh ((eL eI) a_script), .ow (W1 ds v125.2), j92, .sh (eI v105), j93, j94, j95, .sh ((eT eI) v127), j97, j98, .sh (eI x130), j99, j100, j101, j102, .sh (eI x108), j104, .sh ((eL (eT eI)) y118), .no, .no, .no, .no], rfl, (fr_s (bin_s (fn_s (ρ2 := [.sh ((eL eI) a_script), .ow (W1 ds v125.2), j92, .sh (eI v105), j93, j94, j95, .sh ((eT eI) v127), j97, j98, .sh (eI x130), j99, j100, j101, j102, .sh (eI x108), j104, .sh ((eL (eT eI)) y118), .no, .no, .no, .no]) (ac_ (fr_s ev_10) (an_ _)) rfl rfl (sim__law_form (a_rule := x130) hv131) rfl) (ec _ _) (show ixA ((e3 eI eI eI) v131) (eI 0) = some (.sh (eI v131.1)) from rfl))), rfl⟩) hy132)) (ssL_e hv133))) rfl rfl (ne_e (e := (eL eI)) v127 v133))) (tb_ (bin_s (call_s (ac_ ev_7 (an_ _)) rfl (lenT_e (e := eI) v127)) (ec _ _) (ne_i _ _)))))) c136 ?_
          refine wp_ret (ec _ _) ?_
          refine qs_rt ?_
          cases h
          exact rt_i rfl rfl
        · refine wp_if_f (show _ = some (v134, ([.sh ((eL eI) a_script), .ow (W1 ds v125.2), j92, .sh (eI v105), j93, j94, j95, .sh ((eT eI) v127), j97, j98, .sh (eI v106), j99, j100, j101, j102, .sh (eI x108), j104, .sh ((eL (eT eI)) y118), .no, .no, .no, .no] : Rho)) from ite_elim hv134 (fun c135 h => by rw [← Option.some.inj h]; exact tor_t (tno_ (tv_ (pk_s (fn_s (ρ2 := [.sh ((eL eI) a_script), .ow (W1 ds v125.2), j92, .sh (eI v105), j93, j94, j95, .sh ((eT eI) v127), j97, j98, .sh (eI v106), j99, j100, j101, j102, .sh (eI x108), j104, .sh ((eL (eT eI)) y118), .no, .no, .no, .no]) (ac_ (fr_s ev_7) (an_ _)) rfl rfl (sim__law_is_numbers (a_thing := ((eT eI) v127)) hv128) rfl)) rfl (tru_b _))) c135) (fun c135 h => by obtain ⟨y132, hy132, h⟩ := bnd h; obtain ⟨v133, hv133, h⟩ := bnd h; rw [← Option.some.inj h]; exact tor_f (tno_ (tv_ (pk_s (fn_s (ρ2 := [.sh ((eL eI) a_script), .ow (W1 ds v125.2), j92, .sh (eI v105), j93, j94, j95, .sh ((eT eI) v127), j97, j98, .sh (eI v106), j99, j100, j101, j102, .sh (eI x108), j104, .sh ((eL (eT eI)) y118), .no, .no, .no, .no]) (ac_ (fr_s ev_7) (an_ _)) rfl rfl (sim__law_is_numbers (a_thing := ((eT eI) v127)) hv128) rfl)) rfl (tru_b _))) c135 (tor_ (tb_ (bin_gs (pk_o (call_o (ac_ ev_7 (an_ _)) rfl (lstT_e (e := eI) v127))) (pk_o (sset_ (fr_o (lm_ (W := [.sh ((eL eI) a_script), .ow (W1 ds v125.2), j92, .sh (eI v105), j93, j94, j95, .sh ((eT eI) v127), j97, j98, .no, j99, j100, j101, j102, .sh (eI x108), j104, .sh ((eL (eT eI)) y118), .no, .no, .no, .no]) (e := eI) (e' := eI) (irng_ (e := eI) (ac_ (ec _ _) (an_ _)) rfl (rng1_l _)) rfl rfl (fun x130 _ _ h => by obtain ⟨v131, hv131, h⟩ := bnd h; rw [← Option.some.inj h]; exact ⟨[.sh ((eL eI) a_script), .ow (W1 ds v125.2), j92, .sh (eI v105), j93, j94, j95, .sh ((eT eI) v127), j97, j98, .sh (eI x130), j99, j100, j101, j102, .sh (eI x108), j104, .sh ((eL (eT eI)) y118), .no, .no, .no, .no], [.sh ((eL eI) a_script), .ow (W1 ds v125.2), j92, .sh (eI v105), j93, j94, j95, .sh ((eT eI) v127), j97, j98, .sh (eI x130), j99, j100, j101, j102, .sh (eI x108), j104, .sh ((eL (eT eI)) y118), .no, .no, .no, .no], rfl, (fr_s (bin_s (fn_s (ρ2 := [.sh ((eL eI) a_script), .ow (W1 ds v125.2), j92, .sh (eI v105), j93, j94, j95, .sh ((eT eI) v127), j97, j98, .sh (eI x130), j99, j100, j101, j102, .sh (eI x108), j104, .sh ((eL (eT eI)) y118), .no, .no, .no, .no]) (ac_ (fr_s ev_10) (an_ _)) rfl rfl (sim__law_form (a_rule := x130) hv131) rfl) (ec _ _) (show ixA ((e3 eI eI eI) v131) (eI 0) = some (.sh (eI v131.1)) from rfl))), rfl⟩) hy132)) (ssL_e hv133))) rfl rfl (ne_e (e := (eL eI)) v127 v133))) (tb_ (bin_s (call_s (ac_ ev_7 (an_ _)) rfl (lenT_e (e := eI) v127)) (ec _ _) (ne_i _ _)))))) c136 ?_
          refine wp_nil ?_
          refine qs_nx ?_
          refine wp_ret (ec _ _) ?_
          cases h
          exact rt_i rfl rfl
      · refine wp_if_f (tb_ (bin_s (fn_s (ρ2 := [.sh ((eL eI) a_script), .ow (W1 ds v125.2), j92, .sh (eI v105), j93, j94, j95, j96, j97, j98, .sh (eI v106), j99, j100, j101, j102, .sh (eI x108), j104, .sh ((eL (eT eI)) y118), .no, .no, .no, .no]) (ac_ eva_1 (ac_ (ec _ _) (an_ _))) rfl rfl (sim_next hv125) rfl) (ec _ _) (eq_i _ _))) c126 ?_
        refine wp_nil ?_
        refine qs_nx ?_
        refine wp_ret (ec _ _) ?_
        cases h
        exact rt_i rfl rfl
end K88

set_option Elab.async false
set_option linter.all false
set_option autoImplicit false
set_option maxRecDepth 100000
set_option maxHeartbeats 1000000
namespace K88
open PySem PySem.Spec PyProof.Rows L2 DL
/-! ### checks over the rules -/
def nw (r a b c : Int) : Int := Builtin.bitAnd (r / 2 ^ (4 * a + 2 * b + c).toNat) 1
def R4 : List (Int × Int) := [(0, 0), (0, 1), (1, 0), (1, 1)]
def R8 : List (Int × Int × Int) := [(0, 0, 0), (0, 0, 1), (0, 1, 0), (0, 1, 1), (1, 0, 0), (1, 0, 1), (1, 1, 0), (1, 1, 1)]
def fl (o a : Int) : Int := Builtin.bitXor a o
/-- the rule turned, and its bits -/
def turnC (r : Int) : Bool := R4.all fun q => anO (t_rule_turned r q.1 q.2) fun t => isO (e := eI) (t__law_turned r q.1 q.2) t && decide (0 ≤ t ∧ t < 256) &&
  R8.all fun p => decide (nw t (fl q.2 p.1) (fl q.2 p.2.1) (fl q.2 p.2.2) = fl q.2 (if q.1 = 1 then nw r p.2.2 p.2.1 p.1 else nw r p.1 p.2.1 p.2.2))
def formC (r : Int) : Bool := anO (t_rule_form r) fun f => isO (e := e3 eI eI eI) (t__law_form r) f
def lostC (r : Int) : Bool := anO (t_lost_row r) fun f => isO (e := eO (eT eI)) (t__law_lost r) f && decide ((f.getD []).length ≤ 1000)
def ranP (r : Int) (cs : List Int) : List Int := (List.range cs.length).map fun k => nw r (cs.getD ((k + cs.length - 1) % cs.length) 0) (cs.getD k 0) (cs.getD ((k + 1) % cs.length) 0)
def rowsP (n : Nat) : List (List Int) := (rangeI 0 (2 ^ n)).map fun k => (rangeI 0 n).map fun j => Builtin.bitAnd (k / 2 ^ j.toNat) 1
def fixC (r : Int) : Bool := [1, 2, 3, 4, 5].all fun n => anO (t_count_kept r ((n : Nat) : Int)) fun v => decide (v = (((rowsP n).filter fun c => decide (ranP r c = c)).length : Nat))
def formsO : Option (List Int) := szO (mapO (fun (x130 : Int) => (t__law_form x130).bind fun v131 => some v131.1) (rangeI 0 (Int.toNat 256)))
def allC : Bool := anO t_all_rules fun l => isO (e := eL eI) (formsO.bind (ssetO eI 1000)) l && decide (l.length = 88)
theorem of_chunks {c : Int → Bool} (h0 : (rangeI 0 64).all c = true) (h1 : (rangeI 64 64).all c = true) (h2 : (rangeI 128 64).all c = true) (h3 : (rangeI 192 64).all c = true) {r : Int} (hr : 0 ≤ r ∧ r < 256) : c r = true := by
  have m : ∀ lo : Int, lo ≤ r → r < lo + 64 → r ∈ rangeI lo 64 := fun lo a b => List.mem_map.mpr ⟨(r - lo).toNat, List.mem_range.mpr (by omega), by omega⟩
  by_cases a : r < 64
  · exact List.all_eq_true.mp h0 r (m 0 hr.1 (by omega))
  by_cases b : r < 128
  · exact List.all_eq_true.mp h1 r (m 64 (by omega) (by omega))
  by_cases d : r < 192
  · exact List.all_eq_true.mp h2 r (m 128 (by omega) (by omega))
  · exact List.all_eq_true.mp h3 r (m 192 (by omega) (by omega))
set_option maxHeartbeats 100000000
theorem turn_all {r : Int} : 0 ≤ r ∧ r < 256 → turnC r = true := of_chunks (by decide +kernel) (by decide +kernel) (by decide +kernel) (by decide +kernel)
theorem form_all {r : Int} : 0 ≤ r ∧ r < 256 → formC r = true := of_chunks (by decide +kernel) (by decide +kernel) (by decide +kernel) (by decide +kernel)
theorem lost_all {r : Int} : 0 ≤ r ∧ r < 256 → lostC r = true := of_chunks (by decide +kernel) (by decide +kernel) (by decide +kernel) (by decide +kernel)
theorem fix_all {r : Int} : 0 ≤ r ∧ r < 256 → fixC r = true := of_chunks (by decide +kernel) (by decide +kernel) (by decide +kernel) (by decide +kernel)
theorem all_ok : allC = true := by decide +kernel
end K88

set_option Elab.async false
set_option linter.all false
set_option autoImplicit false
set_option maxRecDepth 100000
set_option maxHeartbeats 1000000
namespace K88
open PySem PySem.Spec PyProof.Rows L2 DL
/-! ### one step of a ring of cells -/
def Bits (cs : List Int) : Prop := ∀ x ∈ cs, x = 0 ∨ x = 1
theorem nw_bit (r a b c : Int) : nw r a b c = 0 ∨ nw r a b c = 1 := by
  unfold nw
  rw [bitAnd_m1]
  omega
theorem new_ok {r a b c : Int} (h : 0 ≤ 4 * a + 2 * b + c) : t__new r a b c = some (nw r a b c) := by
  unfold t__new shrO
  rw [if_pos h]
  rfl
theorem pv_eq {n k : Nat} (h : k < n) : (k + n - 1) % n = if k = 0 then n - 1 else k - 1 := by
  split
  · rename_i e
    rw [e, Nat.zero_add]
    exact Nat.mod_eq_of_lt (by omega)
  · rw [show k + n - 1 = (k - 1) + n by omega, Nat.add_mod_right]
    exact Nat.mod_eq_of_lt (by omega)
theorem nx_eq {n k : Nat} (h : k < n) : (k + 1) % n = if k = n - 1 then 0 else k + 1 := by
  split
  · rename_i e
    rw [show k + 1 = n by omega]
    exact Nat.mod_self n
  · exact Nat.mod_eq_of_lt (by omega)
theorem atN {cs : List Int} {k : Nat} (h : k < cs.length) : atI cs (k : Int) = some (cs.getD k 0) := atI_ge (by rw [List.getD_eq_getElem?_getD, List.getElem?_eq_getElem h]; rfl)
theorem at_pv {cs : List Int} {k : Nat} (h : k < cs.length) : atI cs ((k : Int) - 1) = some (cs.getD ((k + cs.length - 1) % cs.length) 0) := by
  rw [pv_eq h]
  by_cases e : k = 0
  · rw [if_pos e, e]
    unfold atI ixN
    rw [if_neg (by decide), if_pos (by omega)]
    show cs[_]? = _
    rw [show (((0 : Nat) : Int) - 1 + (cs.length : Nat)).toNat = cs.length - 1 by omega, List.getD_eq_getElem?_getD, List.getElem?_eq_getElem (by omega)]
    rfl
  · rw [if_neg e, show (k : Int) - 1 = ((k - 1 : Nat) : Int) by omega]
    exact atN (by omega)
theorem bit_at {cs : List Int} (hb : Bits cs) (k : Nat) : cs.getD k 0 = 0 ∨ cs.getD k 0 = 1 := by
  rw [List.getD_eq_getElem?_getD]
  cases e : cs[k]? with
  | none => exact .inl rfl
  | some v => exact hb v (List.mem_of_getElem? e)
theorem bit_code {a b c : Int} (ha : a = 0 ∨ a = 1) (hb : b = 0 ∨ b = 1) (hc : c = 0 ∨ c = 1) : 0 ≤ 4 * a + 2 * b + c := by omega
theorem ran_ok {r : Int} {cs : List Int} (hb : Bits cs) (hl : cs.length ≤ 1000000) : t_ran r cs = some (ranP r cs) := by
  unfold t_ran
  refine (be rfl).trans ((be (rngO1_eq hl)).trans ((be (v := ranP r cs) ?_).trans rfl))
  unfold ranP
  rw [rangeI_nat]
  refine (szmap_eq (g := fun x : Int => nw r (cs.getD ((x.toNat + cs.length - 1) % cs.length) 0) (cs.getD x.toNat 0) (cs.getD ((x.toNat + 1) % cs.length) 0)) (fun x hx => ?_) (by simpa using hl)).trans ?_
  · obtain ⟨k, hk, rfl⟩ := List.mem_map.mp hx
    have hk := List.mem_range.mp hk
    have hm : (k + 1) % cs.length < cs.length := Nat.mod_lt _ (by omega)
    refine (be (at_pv hk)).trans ((be (atN hk)).trans ((be (v := (((k + 1) % cs.length : Nat) : Int)) ?_).trans ((be (atN hm)).trans ((be (new_ok (bit_code (bit_at hb _) (bit_at hb _) (bit_at hb _)))).trans rfl))))
    unfold modO
    rw [if_pos (by omega)]
    simp
  · rw [List.map_map]
    rfl
theorem new_same : t__new = t__law_new := by
  funext r a b c
  unfold t__new t__law_new
  rfl
theorem ran_same (r : Int) (cs : List Int) : t_ran r cs = t__law_ran r cs := by
  unfold t_ran t__law_ran
  rw [new_same]
  exact be rfl
theorem ran_law {r : Int} {cs : List Int} (hb : Bits cs) (hl : cs.length ≤ 1000000) : t__law_ran r cs = some (ranP r cs) := (ran_same r cs).symm.trans (ran_ok hb hl)
theorem ranP_len (r : Int) (cs : List Int) : (ranP r cs).length = cs.length := by simp [ranP]
theorem ranP_bits (r : Int) (cs : List Int) : Bits (ranP r cs) := fun x hx => by
  obtain ⟨k, _, rfl⟩ := List.mem_map.mp hx
  exact nw_bit _ _ _ _
/-- a ring seen in the mirror, and over -/
def im (m o : Int) (cs : List Int) : List Int := (if (decide (m = 1)) = true then List.reverse cs else cs).map (fl o)
theorem im_len (m o : Int) (cs : List Int) : (im m o cs).length = cs.length := by
  unfold im
  split <;> simp
theorem im_at {m o : Int} {cs : List Int} {k : Nat} (h : k < cs.length) : (im m o cs).getD k 0 = fl o (cs.getD (if m = 1 then cs.length - 1 - k else k) 0) := by
  unfold im
  by_cases e : m = 1
  · rw [if_pos (decide_eq_true e), if_pos e, List.getD_eq_getElem?_getD, List.getElem?_map, List.getElem?_reverse h, List.getElem?_eq_getElem (by omega), List.getD_eq_getElem?_getD, List.getElem?_eq_getElem (by omega)]
    rfl
  · rw [if_neg (by simp [e]), if_neg e, List.getD_eq_getElem?_getD, List.getElem?_map, List.getElem?_eq_getElem (by omega), List.getD_eq_getElem?_getD, List.getElem?_eq_getElem (by omega)]
    rfl
theorem ranP_at {r : Int} {cs : List Int} {k : Nat} (h : k < cs.length) : (ranP r cs).getD k 0 = nw r (cs.getD ((k + cs.length - 1) % cs.length) 0) (cs.getD k 0) (cs.getD ((k + 1) % cs.length) 0) := by
  unfold ranP
  rw [List.getD_eq_getElem?_getD, List.getElem?_map, List.getElem?_range h]
  rfl
theorem ran_im {r t m o : Int} {cs : List Int} (hb : Bits cs) (ht : ∀ a b c : Int, (a = 0 ∨ a = 1) → (b = 0 ∨ b = 1) → (c = 0 ∨ c = 1) → nw t (fl o a) (fl o b) (fl o c) = fl o (if m = 1 then nw r c b a else nw r a b c)) :
    ranP t (im m o cs) = im m o (ranP r cs) := by
  refine List.ext_getElem (by rw [ranP_len, im_len, im_len, ranP_len]) fun k h1 h2 => ?_
  have hk : k < cs.length := by rw [ranP_len, im_len] at h1; exact h1
  have e1 : (ranP t (im m o cs))[k] = (ranP t (im m o cs)).getD k 0 := by rw [List.getD_eq_getElem?_getD, List.getElem?_eq_getElem h1]; rfl
  have e2 : (im m o (ranP r cs))[k] = (im m o (ranP r cs)).getD k 0 := by rw [List.getD_eq_getElem?_getD, List.getElem?_eq_getElem h2]; rfl
  have lt1 : (k + cs.length - 1) % cs.length < cs.length := Nat.mod_lt _ (by omega)
  have lt2 : (k + 1) % cs.length < cs.length := Nat.mod_lt _ (by omega)
  rw [e1, e2, ranP_at (by rw [im_len]; exact hk), im_len, im_at lt1, im_at hk, im_at lt2, im_at (by rw [ranP_len]; exact hk), ht _ _ _ (bit_at hb _) (bit_at hb _) (bit_at hb _), ranP_len]
  by_cases e : m = 1
  · simp only [if_pos e]
    rw [ranP_at (by omega)]
    have a1 : cs.length - 1 - (k + 1) % cs.length = (cs.length - 1 - k + cs.length - 1) % cs.length := by
      rw [nx_eq hk, pv_eq (by omega)]
      split <;> split <;> omega
    have a2 : cs.length - 1 - (k + cs.length - 1) % cs.length = (cs.length - 1 - k + 1) % cs.length := by
      rw [pv_eq hk, nx_eq (by omega)]
      split <;> split <;> omega
    rw [a1, a2]
  · simp only [if_neg e]
    rw [ranP_at hk]
theorem fl_bit {o a : Int} (ho : o = 0 ∨ o = 1) (ha : a = 0 ∨ a = 1) : fl o a = 0 ∨ fl o a = 1 := by
  rcases ho with rfl | rfl <;> rcases ha with rfl | rfl <;> decide
theorem im_bits {m o : Int} {cs : List Int} (ho : o = 0 ∨ o = 1) (hb : Bits cs) : Bits (im m o cs) := fun x hx => by
  unfold im at hx
  obtain ⟨y, hy, rfl⟩ := List.mem_map.mp hx
  refine fl_bit ho (hb y ?_)
  split at hy
  · exact List.mem_reverse.mp hy
  · exact hy
theorem rows_all {P : Int → Int → Prop} (h : ∀ q ∈ R4, P q.1 q.2) {a b : Int} (ha : a = 0 ∨ a = 1) (hb : b = 0 ∨ b = 1) : P a b := by
  refine h (a, b) ?_
  rcases ha with rfl | rfl <;> rcases hb with rfl | rfl <;> decide
theorem r8_mem {a b c : Int} (ha : a = 0 ∨ a = 1) (hb : b = 0 ∨ b = 1) (hc : c = 0 ∨ c = 1) : (a, b, c) ∈ R8 := by
  rcases ha with rfl | rfl <;> rcases hb with rfl | rfl <;> rcases hc with rfl | rfl <;> decide
/-- the rule turned -/
theorem turn_ok {r m o : Int} (hr : 0 ≤ r ∧ r < 256) (hm : m = 0 ∨ m = 1) (ho : o = 0 ∨ o = 1) : ∃ t, t_rule_turned r m o = some t ∧ t__law_turned r m o = some t ∧ (0 ≤ t ∧ t < 256) ∧
    ∀ cs, Bits cs → ranP t (im m o cs) = im m o (ranP r cs) := by
  have h := turn_all hr
  unfold turnC at h
  refine rows_all (P := fun m o => ∃ t, t_rule_turned r m o = some t ∧ t__law_turned r m o = some t ∧ (0 ≤ t ∧ t < 256) ∧ ∀ cs, Bits cs → ranP t (im m o cs) = im m o (ranP r cs)) (fun q hq => ?_) hm ho
  obtain ⟨t, e1, h2⟩ := anO_inv (List.all_eq_true.mp h q hq)
  rw [Bool.and_eq_true, Bool.and_eq_true] at h2
  refine ⟨t, e1, isO_inv h2.1.1, of_decide_eq_true h2.1.2, fun cs hb => ran_im hb fun a b c ha hb hc => ?_⟩
  exact of_decide_eq_true (List.all_eq_true.mp h2.2 (a, b, c) (r8_mem ha hb hc))
end K88

set_option Elab.async false
set_option linter.all false
set_option autoImplicit false
set_option maxRecDepth 100000
set_option maxHeartbeats 1000000
namespace K88
open PySem PySem.Spec PyProof.Rows L2 DL
/-! ### orbits: both loops go the same way, and end -/
abbrev St := (List Int) × (List ((List Int) × Int)) × Int
def has (s : St) : Bool := dhas (EqE.eq (eT eI)) s.2.1 s.1
def nxt (r : Int) (s : St) : St := (ranP r s.1, dput (EqE.eq (eT eI)) s.2.1 s.1 s.2.2, s.2.2 + 1)
/-- the loop: how it ends within n turns -/
def go (r : Int) : Nat → St → Option St
  | 0, _ => none
  | n + 1, s => if has s = true then some s else go r n (nxt r s)
def cW (s1 : St) : Option Bool := some (!dhas (EqE.eq (eT eI)) s1.2.1 s1.1)
def bW (r : Int) (s1 : St) : Option (Fo St (Int × Int)) := (dputO (EqE.eq (eT eI)) s1.2.1 s1.1 s1.2.2).bind fun v2 =>
(some (s1.2.2 + 1)).bind fun x3 =>
(t_ran r s1.1).bind fun v4 =>
some (.nx (v4, v2, x3))
def bF (r : Int) (x3 : Int) (s1 : St) : Option (Fo St (Int × Int)) := if (dhas (EqE.eq (eT eI)) s1.2.1 s1.1) = true then (some (.bk (s1.1, s1.2.1, s1.2.2))) else ((dputO (EqE.eq (eT eI)) s1.2.1 s1.1 x3).bind fun v5 =>
(t__law_ran r s1.1).bind fun v6 =>
(some (x3 + 1)).bind fun x7 =>
some (.nx (v6, v5, x7)))
def Ok (n : Nat) (s : St) : Prop := Bits s.1 ∧ s.1.length ≤ 9 ∧ s.2.1.length = n ∧ (s.2.1.map Prod.fst).Nodup ∧ s.2.2 = (n : Int) ∧ ∀ p ∈ s.2.1, Bits p.1 ∧ p.1.length = s.1.length
theorem eqR (a b : List Int) : EqE.eq (eT eI) a b = decide (a = b) := by
  by_cases h : a = b
  · subst h
    rw [decide_eq_true rfl]
    exact eqE_self (e := eT eI) a
  · rw [decide_eq_false h]
    exact eqE_ne.mpr h
theorem dget_mem {ν : Type} : ∀ {kvs : List ((List Int) × ν)} {k : List Int}, (dgetO (EqE.eq (eT eI)) kvs k).isSome = true ↔ k ∈ kvs.map Prod.fst
  | [], k => by simp [dgetO]
  | p :: kvs, k => by
    unfold dgetO
    rw [eqR, List.map_cons, List.mem_cons]
    by_cases h : p.1 = k
    · simp [h]
    · rw [if_neg (by simpa using h), dget_mem]
      exact ⟨.inr, fun z => z.elim (fun z => absurd z.symm h) id⟩
theorem dput_new {ν : Type} {kvs : List ((List Int) × ν)} {k : List Int} {v : ν} (h : k ∉ kvs.map Prod.fst) : dput (EqE.eq (eT eI)) kvs k v = kvs ++ [(k, v)] := by
  unfold dput
  rw [if_neg]
  rw [List.any_eq_true]
  rintro ⟨p, hp, e⟩
  rw [eqR] at e
  exact h (List.mem_map.mpr ⟨p, hp, of_decide_eq_true e⟩)
theorem step_ok {n : Nat} {r : Int} {s : St} (h : Ok n s) (hh : has s = false) (hn : n < 1000) : Ok (n + 1) (nxt r s) ∧ bW r s = some (.nx (nxt r s)) ∧ bF r (n : Int) s = some (.nx (nxt r s)) := by
  obtain ⟨hb, hl, hs, nd, hc, hk⟩ := h
  have hm : s.1 ∉ s.2.1.map Prod.fst := fun z => by
    have := dget_mem.mpr z
    unfold has dhas at hh
    rw [this] at hh
    cases hh
  have ed := dput_new (v := s.2.2) hm
  have er := ran_ok (r := r) hb (by omega)
  have ep : dputO (EqE.eq (eT eI)) s.2.1 s.1 s.2.2 = some (dput (EqE.eq (eT eI)) s.2.1 s.1 s.2.2) := if_pos (by have := szl_6; omega)
  refine ⟨⟨ranP_bits _ _, by rw [nxt, ranP_len]; exact hl, ?_, ?_, ?_, ?_⟩, ?_, ?_⟩
  · show (dput _ _ _ _).length = _
    rw [ed]
    simp [hs]
  · show ((dput _ _ _ _).map _).Nodup
    rw [ed, List.map_append]
    refine List.nodup_append.mpr ⟨nd, by simp, fun a ha b hb' => ?_⟩
    rw [List.mem_singleton.mp hb']
    rintro rfl
    exact hm ha
  · show s.2.2 + 1 = _
    rw [hc]
    rfl
  · intro p hp
    have hp : p ∈ dput (EqE.eq (eT eI)) s.2.1 s.1 s.2.2 := hp
    rw [ed] at hp
    show Bits p.1 ∧ p.1.length = (ranP r s.1).length
    rw [ranP_len]
    rcases List.mem_append.mp hp with hp | hp
    · exact hk p hp
    · rw [List.mem_singleton.mp hp]
      exact ⟨hb, rfl⟩
  · exact (be ep).trans ((be rfl).trans ((be er).trans rfl))
  · unfold bF
    have : dhas (EqE.eq (eT eI)) s.2.1 s.1 = false := hh
    rw [this, if_neg (by decide), ← hc]
    exact (be ep).trans ((be (ran_law hb (by omega))).trans ((be rfl).trans rfl))
theorem go_while {r : Int} : ∀ {n k : Nat} {s s' : St}, Ok k s → k + n ≤ 1000 → go r n s = some s' → whileO cW (bW r) n s = some (.nx s')
  | 0, _, _, _, _, _, h => by cases h
  | n + 1, k, s, s', ok, hk, h => by
    unfold go at h
    cases hh : has s with
    | true =>
      rw [hh, if_pos rfl] at h
      cases h
      refine while_stop ?_
      show some (!has s) = _
      rw [hh]
      rfl
    | false =>
      rw [hh, if_neg (by decide)] at h
      obtain ⟨o1, e1, _⟩ := step_ok (r := r) ok hh (by omega)
      refine Eq.trans (while_go (s1 := nxt r s) ?_ e1) (go_while o1 (by omega) h)
      show some (!has s) = _
      rw [hh]
      rfl
theorem go_for {r : Int} : ∀ {n k m : Nat} {s s' : St}, Ok k s → k + n ≤ 1000 → n ≤ m → go r n s = some s' → forO (bF r) ((List.range' k m).map fun i : Nat => (i : Int)) s = some (.nx s')
  | 0, _, _, _, _, _, _, _, h => by cases h
  | n + 1, k, 0, s, s', ok, hk, hm, h => by omega
  | n + 1, k, m + 1, s, s', ok, hk, hm, h => by
    unfold go at h
    rw [List.range'_succ, List.map_cons]
    cases hh : has s with
    | true =>
      rw [hh, if_pos rfl] at h
      cases h
      exact for_bk (if_pos hh)
    | false =>
      rw [hh, if_neg (by decide)] at h
      obtain ⟨o1, _, e2⟩ := step_ok (r := r) ok hh (by omega)
      exact Eq.trans (for_go e2) (go_for o1 (by omega) (by omega) h)
/-! the rows of n bits are no more than 2 ^ n -/
def cells (n : Nat) : List (List Int) := match n with
  | 0 => [[]]
  | n + 1 => (cells n).flatMap fun c => [0 :: c, 1 :: c]
theorem cells_len : ∀ n : Nat, (cells n).length = 2 ^ n
  | 0 => rfl
  | n + 1 => by
    have e : ∀ l : List (List Int), (l.flatMap fun c => [0 :: c, 1 :: c]).length = l.length * 2 := fun l => by
      induction l with
      | nil => rfl
      | cons c l ih =>
        rw [List.flatMap_cons, List.length_append, ih]
        show 2 + l.length * 2 = (l.length + 1) * 2
        omega
    rw [cells, e, cells_len n, Nat.pow_succ]
theorem cells_mem : ∀ {n : Nat} {c : List Int}, Bits c → c.length = n → c ∈ cells n
  | 0, [], _, _ => List.mem_singleton.mpr rfl
  | n + 1, x :: c, hb, hl => by
    rw [cells, List.mem_flatMap]
    refine ⟨c, cells_mem (fun y hy => hb y (List.mem_cons_of_mem _ hy)) (by simpa using hl), ?_⟩
    rcases hb x List.mem_cons_self with rfl | rfl <;> simp
theorem few {n : Nat} {s : St} (h : Ok n s) : n ≤ 512 := by
  obtain ⟨_, hl, hs, nd, _, hk⟩ := h
  have h1 : (s.2.1.map Prod.fst).length ≤ (cells s.1.length).length := List.Nodup.length_le_of_subset nd fun c hc => by
    obtain ⟨p, hp, rfl⟩ := List.mem_map.mp hc
    exact cells_mem (hk p hp).1 (hk p hp).2
  rw [List.length_map, hs, cells_len] at h1
  exact Nat.le_trans h1 (Nat.pow_le_pow_right (by decide) hl)
theorem go_ends {r : Int} : ∀ (n k : Nat) (s : St), Ok k s → 513 < k + n → k + n ≤ 1000 → ∃ s', go r n s = some s'
  | 0, k, s, ok, h, _ => by have := few ok; omega
  | n + 1, k, s, ok, h, h2 => by
    unfold go
    cases hh : has s with
    | true => exact ⟨s, if_pos rfl⟩
    | false =>
      obtain ⟨o1, _⟩ := step_ok (r := r) ok hh (by omega)
      rw [if_neg (by decide)]
      exact go_ends n (k + 1) _ o1 (by omega) (by omega)
theorem go_has {r : Int} : ∀ {n : Nat} {s s' : St}, go r n s = some s' → has s' = true
  | 0, _, _, h => by cases h
  | n + 1, s, s', h => by
    unfold go at h
    cases hh : has s with
    | true =>
      rw [hh, if_pos rfl] at h
      cases h
      exact hh
    | false =>
      rw [hh, if_neg (by decide)] at h
      exact go_has h
theorem orbit_ok {r : Int} {cs : List Int} (hb : Bits cs) (hl : cs.length ≤ 9) : ∃ f, t_orbit_of r cs = some f ∧ t__law_orbit r cs = some f := by
  have ok : Ok 0 (cs, [], 0) := ⟨hb, hl, rfl, List.nodup_nil, rfl, fun p hp => by cases hp⟩
  obtain ⟨s', e⟩ := go_ends (r := r) 600 0 _ ok (by decide) (by decide)
  obtain ⟨v, hv⟩ := Option.isSome_iff_exists.mp (go_has e)
  have fin : ((dgetO (EqE.eq (eT eI)) s'.2.1 s'.1).bind fun v6 => (dgetO (EqE.eq (eT eI)) s'.2.1 s'.1).bind fun v7 => some (v6, (s'.2.2 - v7))) = some (v, s'.2.2 - v) := (be hv).trans ((be hv).trans rfl)
  refine ⟨(v, s'.2.2 - v), ?_, ?_⟩
  · exact Eq.trans (whileB_of (c := cW) (f := bW r) (by decide) (go_while ok (by decide) e)) fin
  · have h := go_for (m := 600) ok (by decide) (Nat.le_refl _) e
    have hr : (List.range' 0 600).map (fun i : Nat => (i : Int)) = rangeI 0 (Int.toNat 600) := by
      rw [show Int.toNat 600 = 600 from rfl, rangeI_nat, List.range_eq_range']
    rw [hr] at h
    exact Eq.trans (forB_of (f := bF r) h) fin
end K88

set_option Elab.async false
set_option linter.all false
set_option autoImplicit false
set_option maxRecDepth 100000
set_option maxHeartbeats 1000000
namespace K88
open PySem PySem.Spec PyProof.Rows L2 DL
/-! ### the rows that a rule keeps: counts of the four pairs -/
def cG (r a b c v : Int) : Int := if nw r a b c = b then v else 0
def NL (r : Int) (v : List Int) : List Int := [cG r 0 0 0 (v.getD 0 0) + cG r 1 0 0 (v.getD 2 0), cG r 0 0 1 (v.getD 0 0) + cG r 1 0 1 (v.getD 2 0), cG r 0 1 0 (v.getD 1 0) + cG r 1 1 0 (v.getD 3 0), cG r 0 1 1 (v.getD 1 0) + cG r 1 1 1 (v.getD 3 0)]
def NLs (r : Int) : Nat → List Int → List Int
  | 0, v => v
  | n + 1, v => NLs r n (NL r v)
def Bt (a : Int) : Prop := a = 0 ∨ a = 1
/-! the law's counts -/
def b3 (r : Int) (s12 : List Int × Option Int) (x19 x22 : Int) (s20 : List Int) : Option (List Int) := (t__law_new r (x19 / 2 ^ Int.toNat 1) (Builtin.bitAnd x19 1) x22).bind fun v23 =>
if (decide (v23 = (Builtin.bitAnd x19 1))) = true then ((atI s20 ((2 * (Builtin.bitAnd x19 1)) + x22)).bind fun v25 =>
(atI s12.1 x19).bind fun v26 =>
(setO s20 ((2 * (Builtin.bitAnd x19 1)) + x22) (v25 + v26)).bind fun v27 =>
some v27) else (some s20)
def b2 (r : Int) (s12 : List Int × Option Int) (x19 : Int) (s17 : List Int × Option Int) : Option (List Int × Option Int) := (foldO (b3 r s12 x19) [0, 1] s17.1).bind fun (s28 : (List Int)) => some (s28, (some x19))
def b1 (r : Int) (x16 : Int) (s12 : List Int × Option Int) : Option (List Int × Option Int) := (foldO (b2 r s12) (rangeI 0 (Int.toNat 4)) ([0, 0, 0, 0], s12.2)).bind fun (s30 : ((List Int) × (Option Int))) =>
(s30.2).bind fun v32 =>
some (s30.1, (some v32))
def b0 (r n : Int) (x7 : Int) (s1 : Int × Option Int) : Option (Int × Option Int) := (szO (mapO (fun (x9 : Int) => some (if (decide (x9 = x7)) = true then (1 : Int) else 0)) (rangeI 0 (Int.toNat 4)))).bind fun y10 =>
(rngO1 n).bind fun r11 =>
(foldO (b1 r) r11 (y10, s1.2)).bind fun (s33 : ((List Int) × (Option Int))) =>
(s33.2).bind fun v37 =>
(atI s33.1 x7).bind fun v38 =>
(some (s1.1 + v38)).bind fun x39 =>
some (x39, (some v37))
theorem stepL {r a b c x v : Int} {s12 : List Int × Option Int} {s : List Int} {j : Nat} (hx : x / 2 ^ Int.toNat 1 = a) (hb : Builtin.bitAnd x 1 = b) (h0 : 0 ≤ 4 * a + 2 * b + c) (hj : 2 * b + c = (j : Int)) (hl : j < s.length) (hv : atI s12.1 x = some v) :
    b3 r s12 x c s = some (s.set j (s.getD j 0 + cG r a b c v)) := by
  unfold b3
  rw [hx, hb, hj, ← new_same]
  refine (be (new_ok h0)).trans ?_
  unfold cG
  by_cases h : nw r a b c = b
  · rw [if_pos (decide_eq_true h), if_pos h]
    refine (be (atN hl)).trans ((be hv).trans ((be (v := s.set j (s.getD j 0 + v)) ?_).trans rfl))
    unfold setO ixN
    rw [if_pos (by omega), if_pos (by omega)]
    rfl
  · rw [if_neg (by simpa using h), if_neg h, Int.add_zero]
    refine congrArg some ?_
    refine List.ext_getElem (by simp) fun k h1 h2 => ?_
    rw [List.getElem_set]
    split
    · rename_i e
      subst e
      rw [List.getD_eq_getElem?_getD, List.getElem?_eq_getElem h1]
      rfl
    · rfl
theorem stepN {r : Int} {v0 v1 v2 v3 : Int} {o : Option Int} (x16 : Int) : b1 r x16 ([v0, v1, v2, v3], o) = some (NL r [v0, v1, v2, v3], some 3) := by
  unfold b1
  have e0 : ∀ w0 w1 w2 w3 : Int, ∀ o', b2 r ([v0, v1, v2, v3], o) 0 ([w0, w1, w2, w3], o') = some ([w0 + cG r 0 0 0 v0, w1 + cG r 0 0 1 v0, w2, w3], some 0) := fun w0 w1 w2 w3 o' => by
    have p := stepL (r := r) (x := 0) (s12 := ([v0, v1, v2, v3], o)) (s := [w0, w1, w2, w3]) (j := 0) (a := 0) (b := 0) (c := 0) (v := v0) (by decide) (by decide) (by decide) rfl (by simp) rfl
    have q := stepL (r := r) (x := 0) (s12 := ([v0, v1, v2, v3], o)) (s := [w0 + cG r 0 0 0 v0, w1, w2, w3]) (j := 1) (a := 0) (b := 0) (c := 1) (v := v0) (by decide) (by decide) (by decide) rfl (by simp) rfl
    exact (be ((fold_go p).trans ((fold_go q).trans rfl))).trans rfl
  have e1 : ∀ w0 w1 w2 w3 : Int, ∀ o', b2 r ([v0, v1, v2, v3], o) 1 ([w0, w1, w2, w3], o') = some ([w0, w1, w2 + cG r 0 1 0 v1, w3 + cG r 0 1 1 v1], some 1) := fun w0 w1 w2 w3 o' => by
    have p := stepL (r := r) (x := 1) (s12 := ([v0, v1, v2, v3], o)) (s := [w0, w1, w2, w3]) (j := 2) (a := 0) (b := 1) (c := 0) (v := v1) (by decide) (by decide) (by decide) rfl (by simp) rfl
    have q := stepL (r := r) (x := 1) (s12 := ([v0, v1, v2, v3], o)) (s := [w0, w1, w2 + cG r 0 1 0 v1, w3]) (j := 3) (a := 0) (b := 1) (c := 1) (v := v1) (by decide) (by decide) (by decide) rfl (by simp) rfl
    exact (be ((fold_go p).trans ((fold_go q).trans rfl))).trans rfl
  have e2 : ∀ w0 w1 w2 w3 : Int, ∀ o', b2 r ([v0, v1, v2, v3], o) 2 ([w0, w1, w2, w3], o') = some ([w0 + cG r 1 0 0 v2, w1 + cG r 1 0 1 v2, w2, w3], some 2) := fun w0 w1 w2 w3 o' => by
    have p := stepL (r := r) (x := 2) (s12 := ([v0, v1, v2, v3], o)) (s := [w0, w1, w2, w3]) (j := 0) (a := 1) (b := 0) (c := 0) (v := v2) (by decide) (by decide) (by decide) rfl (by simp) rfl
    have q := stepL (r := r) (x := 2) (s12 := ([v0, v1, v2, v3], o)) (s := [w0 + cG r 1 0 0 v2, w1, w2, w3]) (j := 1) (a := 1) (b := 0) (c := 1) (v := v2) (by decide) (by decide) (by decide) rfl (by simp) rfl
    exact (be ((fold_go p).trans ((fold_go q).trans rfl))).trans rfl
  have e3 : ∀ w0 w1 w2 w3 : Int, ∀ o', b2 r ([v0, v1, v2, v3], o) 3 ([w0, w1, w2, w3], o') = some ([w0, w1, w2 + cG r 1 1 0 v3, w3 + cG r 1 1 1 v3], some 3) := fun w0 w1 w2 w3 o' => by
    have p := stepL (r := r) (x := 3) (s12 := ([v0, v1, v2, v3], o)) (s := [w0, w1, w2, w3]) (j := 2) (a := 1) (b := 1) (c := 0) (v := v3) (by decide) (by decide) (by decide) rfl (by simp) rfl
    have q := stepL (r := r) (x := 3) (s12 := ([v0, v1, v2, v3], o)) (s := [w0, w1, w2 + cG r 1 1 0 v3, w3]) (j := 3) (a := 1) (b := 1) (c := 1) (v := v3) (by decide) (by decide) (by decide) rfl (by simp) rfl
    exact (be ((fold_go p).trans ((fold_go q).trans rfl))).trans rfl
  refine (be (v := (NL r [v0, v1, v2, v3], some 3)) ?_).trans rfl
  refine Eq.trans (fold_go (x := 0) (xs := [1, 2, 3]) (e0 0 0 0 0 o)) (Eq.trans (fold_go (e1 _ _ _ _ _)) (Eq.trans (fold_go (e2 _ _ _ _ _)) (Eq.trans (fold_go (e3 _ _ _ _ _)) ?_)))
  show some _ = some _
  unfold NL
  simp
theorem NL_four (r : Int) (v : List Int) : ∃ a b c d, NL r v = [a, b, c, d] := ⟨_, _, _, _, rfl⟩
theorem stepsN {r : Int} : ∀ {xs : List Int} {v0 v1 v2 v3 : Int} {o : Option Int}, ∃ o', foldO (b1 r) xs ([v0, v1, v2, v3], o) = some (NLs r xs.length [v0, v1, v2, v3], o') ∧ (xs ≠ [] → o' ≠ none)
  | [], _, _, _, _, o => ⟨o, rfl, fun h => absurd rfl h⟩
  | x :: xs, v0, v1, v2, v3, o => by
    obtain ⟨a, b, c, d, e⟩ := NL_four r [v0, v1, v2, v3]
    obtain ⟨o', h1, h2⟩ := stepsN (r := r) (xs := xs) (v0 := a) (v1 := b) (v2 := c) (v3 := d) (o := some 3)
    refine ⟨o', (fold_go (stepN x)).trans ?_, fun _ => ?_⟩
    · rw [e, h1]
      show _ = some (NLs r xs.length (NL r _), o')
      rw [e]
    · cases xs with
      | nil =>
        cases h1
        exact fun z => by cases z
      | cons y ys => exact h2 (by simp)
theorem NLs_four (r : Int) : ∀ (n : Nat) (a b c d : Int), ∃ a' b' c' d', NLs r n [a, b, c, d] = [a', b', c', d']
  | 0, a, b, c, d => ⟨a, b, c, d, rfl⟩
  | n + 1, a, b, c, d => by
    obtain ⟨a', b', c', d', e⟩ := NL_four r [a, b, c, d]
    show ∃ _, _
    unfold NLs
    rw [e]
    exact NLs_four r n a' b' c' d'
/-- what begins with the k-th pair and comes back to it -/
def un (k : Nat) : List Int := (List.range 4).map fun i => if i = k then 1 else 0
def back (r : Int) (n k : Nat) : Int := (NLs r n (un k)).getD k 0
def kept (r : Int) (n : Nat) : Int := back r n 0 + back r n 1 + back r n 2 + back r n 3
theorem law_begin {r : Int} {n k : Nat} (h1 : 0 < n) (h2 : n ≤ 1000) (hk : k < 4) (t : Int) (o : Option Int) : ∃ o', b0 r (n : Int) (k : Int) (t, o) = some (t + back r n k, some o') := by
  unfold b0
  obtain ⟨a, b, c, d, e⟩ : ∃ a b c d, un k = [a, b, c, d] := ⟨_, _, _, _, rfl⟩
  have hu : szO (mapO (fun (x9 : Int) => some (if (decide (x9 = (k : Int))) = true then (1 : Int) else 0)) (rangeI 0 (Int.toNat 4))) = some (un k) := by
    rcases (by omega : k = 0 ∨ k = 1 ∨ k = 2 ∨ k = 3) with rfl | rfl | rfl | rfl <;> decide +kernel
  obtain ⟨o', h3, h4⟩ := stepsN (r := r) (xs := rangeI 0 n) (v0 := a) (v1 := b) (v2 := c) (v3 := d) (o := o)
  rw [rangeI_len, ← e] at h3
  have ho : o' ≠ none := h4 fun z => by
    have := congrArg List.length z
    rw [rangeI_len] at this
    simp at this
    omega
  cases o' with
  | none => exact absurd rfl ho
  | some y =>
    refine ⟨y, (be hu).trans ((be (rngO1_eq (by omega))).trans ((be h3).trans ((be rfl).trans ((be (v := back r n k) ?_).trans rfl))))⟩
    obtain ⟨a', b', c', d', e'⟩ := NLs_four r n a b c d
    unfold back
    rw [e, e']
    exact atN (by simpa using hk)
theorem law_kept_ok {r : Int} {n : Nat} (h1 : 0 < n) (h2 : n ≤ 1000) : t__law_kept r (n : Int) = some (kept r n) := by
  obtain ⟨o0, e0⟩ := law_begin (r := r) h1 h2 (k := 0) (by decide) 0 none
  obtain ⟨o1, e1⟩ := law_begin (r := r) h1 h2 (k := 1) (by decide) (0 + back r n 0) (some o0)
  obtain ⟨o2, e2⟩ := law_begin (r := r) h1 h2 (k := 2) (by decide) (0 + back r n 0 + back r n 1) (some o1)
  obtain ⟨o3, e3⟩ := law_begin (r := r) h1 h2 (k := 3) (by decide) (0 + back r n 0 + back r n 1 + back r n 2) (some o2)
  have h : foldO (b0 r (n : Int)) (rangeI 0 (Int.toNat 4)) (0, none) = some (kept r n, some o3) := by
    refine Eq.trans (fold_go (x := 0) (xs := [1, 2, 3]) e0) (Eq.trans (fold_go e1) (Eq.trans (fold_go e2) (Eq.trans (fold_go e3) ?_)))
    unfold kept
    rw [Int.zero_add]
    rfl
  exact Eq.trans (be h) rfl
end K88

set_option Elab.async false
set_option linter.all false
set_option autoImplicit false
set_option maxRecDepth 100000
set_option maxHeartbeats 1000000
namespace K88
open PySem PySem.Spec PyProof.Rows L2 DL
/-! ### the program's counts: a dict of pairs -/
abbrev Pr := Int × Int
abbrev Dk := List (Pr × Int)
theorem eqP (a b : Pr) : EqE.eq (e2 eI eI) a b = decide (a = b) := by
  by_cases h : a = b
  · subst h
    rw [decide_eq_true rfl]
    exact eqE_self (e := e2 eI eI) a
  · rw [decide_eq_false h]
    exact eqE_ne.mpr h
def gd (D : Dk) (p : Pr) : Int := (dgetO (EqE.eq (e2 eI eI)) D p).getD 0
theorem gd_cons (q : Pr × Int) (D : Dk) (p : Pr) : dgetO (EqE.eq (e2 eI eI)) (q :: D) p = if q.1 = p then some q.2 else dgetO (EqE.eq (e2 eI eI)) D p := by
  show (if EqE.eq (e2 eI eI) q.1 p = true then _ else _) = _
  rw [eqP]
  by_cases h : q.1 = p
  · rw [if_pos (decide_eq_true h), if_pos h]
  · rw [if_neg (by simpa using h), if_neg h]
theorem get_has : ∀ {D : Dk} {p : Pr}, p ∈ D.map Prod.fst → ∃ v, dgetO (EqE.eq (e2 eI eI)) D p = some v
  | q :: D, p, h => by
    rw [gd_cons]
    by_cases e : q.1 = p
    · exact ⟨q.2, if_pos e⟩
    · rw [if_neg e]
      rw [List.map_cons] at h
      exact get_has ((List.mem_cons.mp h).resolve_left fun z => e z.symm)
theorem get_no : ∀ {D : Dk} {p : Pr}, p ∉ D.map Prod.fst → dgetO (EqE.eq (e2 eI eI)) D p = none
  | [], p, h => rfl
  | q :: D, p, h => by
    rw [List.map_cons, List.mem_cons] at h
    rw [gd_cons, if_neg fun e => h (.inl e.symm)]
    exact get_no fun z => h (.inr z)
def upV (p : Pr) (v : Int) (q : Pr × Int) : Pr × Int := if EqE.eq (e2 eI eI) q.1 p = true then (q.1, v) else q
theorem upV_key (p : Pr) (v : Int) (q : Pr × Int) : (upV p v q).1 = q.1 := by
  unfold upV
  split <;> rfl
theorem upV_val (p : Pr) (v : Int) (q : Pr × Int) : (upV p v q).2 = if q.1 = p then v else q.2 := by
  unfold upV
  rw [eqP]
  by_cases h : q.1 = p
  · rw [if_pos (decide_eq_true h), if_pos h]
  · rw [if_neg (by simpa using h), if_neg h]
theorem get_up {p : Pr} {v : Int} {x : Pr} (hx : x ≠ p) : ∀ D : Dk, dgetO (EqE.eq (e2 eI eI)) (D.map (upV p v)) x = dgetO (EqE.eq (e2 eI eI)) D x
  | [] => rfl
  | q :: D => by
    rw [List.map_cons, gd_cons, gd_cons, upV_key, upV_val, get_up hx D]
    by_cases e : q.1 = x
    · rw [if_pos e, if_pos e, if_neg fun z => hx (e.symm.trans z)]
    · rw [if_neg e, if_neg e]
theorem get_upP {p : Pr} {v : Int} : ∀ {D : Dk}, p ∈ D.map Prod.fst → dgetO (EqE.eq (e2 eI eI)) (D.map (upV p v)) p = some v
  | q :: D, h => by
    rw [List.map_cons, gd_cons, upV_key, upV_val]
    by_cases e : q.1 = p
    · rw [if_pos e, if_pos e]
    · rw [if_neg e]
      rw [List.map_cons] at h
      exact get_upP ((List.mem_cons.mp h).resolve_left fun z => e z.symm)
theorem any_key (D : Dk) (p : Pr) : (D.any fun q => EqE.eq (e2 eI eI) q.1 p) = decide (p ∈ D.map Prod.fst) := by
  rw [Bool.eq_iff_iff, List.any_eq_true, decide_eq_true_iff, List.mem_map]
  exact ⟨fun ⟨q, hq, e⟩ => ⟨q, hq, of_decide_eq_true ((eqP _ _).symm.trans e)⟩, fun ⟨q, hq, e⟩ => ⟨q, hq, (eqP _ _).trans (decide_eq_true e)⟩⟩
theorem put_eq (D : Dk) (p : Pr) (v : Int) : dput (EqE.eq (e2 eI eI)) D p v = if p ∈ D.map Prod.fst then D.map (upV p v) else D ++ [(p, v)] := by
  unfold dput
  rw [any_key]
  by_cases h : p ∈ D.map Prod.fst
  · rw [if_pos (decide_eq_true h), if_pos h]
    rfl
  · rw [if_neg (by simpa using h), if_neg h]
theorem get_app {p : Pr} {v : Int} {x : Pr} : ∀ {D : Dk}, p ∉ D.map Prod.fst → dgetO (EqE.eq (e2 eI eI)) (D ++ [(p, v)]) x = if x = p then some v else dgetO (EqE.eq (e2 eI eI)) D x
  | [], _ => by
    rw [List.nil_append, gd_cons]
    by_cases e : x = p
    · rw [if_pos e, if_pos e.symm]
    · rw [if_neg e, if_neg fun z => e z.symm]
  | q :: D, h => by
    rw [List.map_cons, List.mem_cons] at h
    rw [List.cons_append, gd_cons, gd_cons, get_app fun z => h (.inr z)]
    by_cases e : x = p
    · rw [if_pos e, if_neg fun z => h (.inl (e.symm.trans z.symm)), if_pos e]
    · rw [if_neg e, if_neg e]
theorem get_put {D : Dk} {p : Pr} {v : Int} (x : Pr) : dgetO (EqE.eq (e2 eI eI)) (dput (EqE.eq (e2 eI eI)) D p v) x = if x = p then some v else dgetO (EqE.eq (e2 eI eI)) D x := by
  rw [put_eq]
  by_cases h : p ∈ D.map Prod.fst
  · rw [if_pos h]
    by_cases e : x = p
    · rw [if_pos e, e]
      exact get_upP h
    · rw [if_neg e]
      exact get_up e D
  · rw [if_neg h]
    exact get_app h
theorem keys_put {D : Dk} {p : Pr} {v : Int} : (dput (EqE.eq (e2 eI eI)) D p v).map Prod.fst = if p ∈ D.map Prod.fst then D.map Prod.fst else D.map Prod.fst ++ [p] := by
  rw [put_eq]
  by_cases h : p ∈ D.map Prod.fst
  · rw [if_pos h, if_pos h, List.map_map]
    exact List.map_congr_left fun z _ => upV_key _ _ _
  · rw [if_neg h, if_neg h, List.map_append]
    rfl
def Dok (D : Dk) : Prop := (D.map Prod.fst).Nodup ∧ ∀ p ∈ D.map Prod.fst, p ∈ R4
theorem dok_len {D : Dk} (h : Dok D) : D.length ≤ 4 := by
  have := List.Nodup.length_le_of_subset h.1 fun p hp => h.2 p hp
  rw [List.length_map] at this
  exact this
theorem dok_put {D : Dk} {p : Pr} {v : Int} (h : Dok D) (hp : p ∈ R4) : Dok (dput (EqE.eq (e2 eI eI)) D p v) := by
  unfold Dok
  rw [keys_put]
  split
  · exact h
  · rename_i hn
    refine ⟨List.nodup_append.mpr ⟨h.1, by simp, fun a ha b hb => ?_⟩, fun q hq => ?_⟩
    · rw [List.mem_singleton.mp hb]
      rintro rfl
      exact hn ha
    · rcases List.mem_append.mp hq with hq | hq
      · exact h.2 q hq
      · rw [List.mem_singleton.mp hq]
        exact hp
/-! one pair, both bits behind it -/
def p3 (r : Int) (s17 : Dk) (x30 : Pr) (x34 : Int) (s31 : Dk) : Option Dk := (t__new r x30.1 x30.2 x34).bind fun v35 =>
if (decide (v35 = x30.2)) = true then ((dgetO (EqE.eq (e2 eI eI)) s17 (x30.1, x30.2)).bind fun v37 =>
(dputO (EqE.eq (e2 eI eI)) s31 (x30.2, x34) (((dgetO (EqE.eq (e2 eI eI)) s31 (x30.2, x34)).getD 0) + v37)).bind fun v38 =>
some v38) else (some s31)
def p2 (r : Int) (s17 : Dk) (x30 : Pr) (s25 : Dk) : Option Dk := (foldO (p3 r s17 x30) [0, 1] s25).bind fun (s39 : Dk) => some s39
def p1 (r : Int) (x24 : Int) (s17 : Dk) : Option Dk := (foldO (p2 r s17) (List.map Prod.fst s17) []).bind fun (s42 : Dk) => some s42
def p0 (r n : Int) (x14 : Pr) (s5 : Int) : Option Int := (some [(x14, 1)]).bind fun x15 =>
(rngO1 n).bind fun r16 =>
(foldO (p1 r) r16 x15).bind fun (s47 : Dk) =>
(some (s5 + ((dgetO (EqE.eq (e2 eI eI)) s47 x14).getD 0))).bind fun x54 =>
some x54
theorem r4_bits {p : Pr} (h : p ∈ R4) : (p.1 = 0 ∨ p.1 = 1) ∧ (p.2 = 0 ∨ p.2 = 1) := by
  simp only [R4, List.mem_cons, List.not_mem_nil, or_false] at h
  rcases h with rfl | rfl | rfl | rfl <;> decide
theorem r4_mem {a b : Int} (ha : a = 0 ∨ a = 1) (hb : b = 0 ∨ b = 1) : (a, b) ∈ R4 := by
  rcases ha with rfl | rfl <;> rcases hb with rfl | rfl <;> decide
theorem p3_ok {r q : Int} {s17 s : Dk} {k : Pr} (hk : k ∈ s17.map Prod.fst) (hr : k ∈ R4) (hq : q = 0 ∨ q = 1) (hs : Dok s) :
    ∃ s', p3 r s17 k q s = some s' ∧ Dok s' ∧ ∀ x, gd s' x = gd s x + if x = (k.2, q) then cG r k.1 k.2 q (gd s17 k) else 0 := by
  unfold p3
  obtain ⟨b1, b2⟩ := r4_bits hr
  obtain ⟨v, hv⟩ := get_has hk
  have gv : gd s17 k = v := by unfold gd; rw [hv]; rfl
  have e := new_ok (r := r) (bit_code b1 b2 hq)
  by_cases h : nw r k.1 k.2 q = k.2
  · refine ⟨dput (EqE.eq (e2 eI eI)) s (k.2, q) (gd s (k.2, q) + v), (be e).trans ?_, dok_put hs (r4_mem b2 hq), fun x => ?_⟩
    · rw [if_pos (decide_eq_true h)]
      refine (be hv).trans ((be (if_pos ?_)).trans rfl)
      have := dok_len hs
      have := szl_6
      omega
    · unfold gd
      rw [get_put]
      by_cases hx : x = (k.2, q)
      · rw [if_pos hx, if_pos hx, hx]
        show _ + v = _ + cG r k.1 k.2 q (gd s17 k)
        rw [gv]
        unfold cG
        rw [if_pos h]
      · rw [if_neg hx, if_neg hx, Int.add_zero]
  · refine ⟨s, (be e).trans (if_neg (by simpa using h)), hs, fun x => ?_⟩
    unfold cG
    rw [if_neg h]
    split <;> rw [Int.add_zero]
/-- what the pair u gives to the pair x -/
def con (r : Int) (D : Dk) (u x : Pr) : Int := if x.1 = u.2 then cG r u.1 u.2 x.2 (gd D u) else 0
theorem p2_ok {r : Int} {s17 s : Dk} {k : Pr} (hk : k ∈ s17.map Prod.fst) (hr : k ∈ R4) (hs : Dok s) : ∃ s', p2 r s17 k s = some s' ∧ Dok s' ∧ ∀ x ∈ R4, gd s' x = gd s x + con r s17 k x := by
  obtain ⟨s1, e1, d1, g1⟩ := p3_ok (r := r) hk hr (.inl rfl) hs
  obtain ⟨s2, e2, d2, g2⟩ := p3_ok (r := r) hk hr (.inr rfl) d1
  refine ⟨s2, (be ((fold_go e1).trans ((fold_go e2).trans rfl))).trans rfl, d2, fun x hx => ?_⟩
  rw [g2, g1]
  obtain ⟨a, b⟩ := x
  obtain ⟨_, hb⟩ := r4_bits hx
  unfold con
  simp only [Prod.mk.injEq]
  simp only at hb
  rcases hb with rfl | rfl
  · by_cases h : a = k.2 <;> simp [h]
  · by_cases h : a = k.2 <;> simp [h]
def pk (r : Int) (D : Dk) (K : List Pr) (x u : Pr) : Int := if u ∈ K then con r D u x else 0
def sm (r : Int) (D : Dk) (K : List Pr) (x : Pr) : Int := pk r D K x (0, 0) + pk r D K x (0, 1) + pk r D K x (1, 0) + pk r D K x (1, 1)
theorem sm_cons {r : Int} {D : Dk} {K : List Pr} {k x : Pr} (hk : k ∈ R4) (hn : k ∉ K) : sm r D (k :: K) x = con r D k x + sm r D K x := by
  simp only [R4, List.mem_cons, List.not_mem_nil, or_false] at hk
  unfold sm pk
  rcases hk with rfl | rfl | rfl | rfl <;> simp [hn] <;> omega
theorem p1_run {r : Int} {D : Dk} : ∀ {K : List Pr} {s : Dk}, K.Nodup → (∀ k ∈ K, k ∈ D.map Prod.fst ∧ k ∈ R4) → Dok s → ∃ s', foldO (p2 r D) K s = some s' ∧ Dok s' ∧ ∀ x ∈ R4, gd s' x = gd s x + sm r D K x
  | [], s, _, _, hs => ⟨s, rfl, hs, fun x _ => by simp [sm, pk]⟩
  | k :: K, s, nd, hK, hs => by
    obtain ⟨h1, h2⟩ := hK k List.mem_cons_self
    obtain ⟨n1, n2⟩ := List.nodup_cons.mp nd
    obtain ⟨s1, e1, d1, g1⟩ := p2_ok (r := r) h1 h2 hs
    obtain ⟨s2, e2, d2, g2⟩ := p1_run n2 (fun j hj => hK j (List.mem_cons_of_mem _ hj)) d1
    refine ⟨s2, (fold_go e1).trans e2, d2, fun x hx => ?_⟩
    rw [g2 x hx, g1 x hx, sm_cons h2 n1, Int.add_assoc]
def vec (D : Dk) : List Int := [gd D (0, 0), gd D (0, 1), gd D (1, 0), gd D (1, 1)]
theorem p1_ok {r : Int} {D : Dk} (hD : Dok D) (x24 : Int) : ∃ D', p1 r x24 D = some D' ∧ Dok D' ∧ vec D' = NL r (vec D) := by
  obtain ⟨s', e, d, g⟩ := p1_run (r := r) (D := D) (s := []) hD.1 (fun k hk => ⟨hk, hD.2 k hk⟩) ⟨List.nodup_nil, fun p hp => by cases hp⟩
  have z : ∀ u x, pk r D (D.map Prod.fst) x u = con r D u x := fun u x => by
    unfold pk
    split
    · rfl
    · rename_i h
      unfold con cG gd
      rw [get_no h]
      show (0 : Int) = _
      simp
  refine ⟨s', (be e).trans rfl, d, ?_⟩
  unfold vec
  rw [g (0, 0) (by decide), g (0, 1) (by decide), g (1, 0) (by decide), g (1, 1) (by decide)]
  unfold sm NL
  simp only [z]
  simp [con, gd, dgetO]
theorem p1s_ok {r : Int} : ∀ {xs : List Int} {D : Dk}, Dok D → ∃ D', foldO (p1 r) xs D = some D' ∧ vec D' = NLs r xs.length (vec D)
  | [], D, _ => ⟨D, rfl, rfl⟩
  | x :: xs, D, h => by
    obtain ⟨D1, e1, d1, v1⟩ := p1_ok (r := r) h x
    obtain ⟨D2, e2, v2⟩ := p1s_ok d1 (xs := xs)
    refine ⟨D2, (fold_go e1).trans e2, ?_⟩
    rw [v2, v1]
    rfl
theorem begin_ok {r : Int} {n : Nat} (h2 : n ≤ 1000) {p : Pr} {k : Nat} (hp : p ∈ R4) (hk : (p, k) ∈ [((0, 0), 0), ((0, 1), 1), ((1, 0), 2), (((1, 1), 3) : Pr × Nat)]) (t : Int) : p0 r (n : Int) p t = some (t + back r n k) := by
  unfold p0
  have d : Dok [(p, 1)] := ⟨by simp, fun q hq => by rw [List.mem_singleton.mp hq]; exact hp⟩
  obtain ⟨D', e, v⟩ := p1s_ok (r := r) (xs := rangeI 0 n) d
  rw [rangeI_len] at v
  refine (be rfl).trans ((be (rngO1_eq (by omega))).trans ((be e).trans ((be rfl).trans ?_)))
  refine congrArg some (congrArg (t + ·) ?_)
  show gd D' p = back r n k
  unfold back
  have hu : vec [(p, 1)] = un k := by
    simp only [List.mem_cons, List.not_mem_nil, or_false, Prod.mk.injEq] at hk
    rcases hk with ⟨rfl, rfl⟩ | ⟨rfl, rfl⟩ | ⟨rfl, rfl⟩ | ⟨rfl, rfl⟩ <;> decide +kernel
  rw [← hu, ← v]
  simp only [List.mem_cons, List.not_mem_nil, or_false, Prod.mk.injEq] at hk
  rcases hk with ⟨rfl, rfl⟩ | ⟨rfl, rfl⟩ | ⟨rfl, rfl⟩ | ⟨rfl, rfl⟩ <;> rfl
theorem kept_ok {r : Int} {n : Nat} (h2 : n ≤ 1000) : t_count_kept r (n : Int) = some (kept r n) := by
  have hy : szO (catO (fun (x2 : Int) => mapO (fun (x3 : Int) => some (x2, x3)) [0, 1]) [0, 1]) = some R4 := by decide +kernel
  have h : foldO (p0 r (n : Int)) R4 0 = some (kept r n) := by
    refine Eq.trans (fold_go (x := (0, 0)) (xs := [(0, 1), (1, 0), (1, 1)]) (begin_ok h2 (k := 0) (by decide) (by decide) _)) (Eq.trans (fold_go (begin_ok h2 (k := 1) (by decide) (by decide) _)) (Eq.trans (fold_go (begin_ok h2 (k := 2) (by decide) (by decide) _)) (Eq.trans (fold_go (begin_ok h2 (k := 3) (by decide) (by decide) _)) ?_)))
    unfold kept
    rw [Int.zero_add]
    rfl
  exact Eq.trans (be hy) (Eq.trans (be h) rfl)
end K88

set_option Elab.async false
set_option linter.all false
set_option autoImplicit false
set_option maxRecDepth 100000
set_option maxHeartbeats 1000000
namespace K88
open PySem PySem.Spec PyProof.Rows L2 DL
/-! ### the law -/
def lawB (ds : List Int) (x15 : Int) (s1 : (Nat × (Option Int) × (Option Int))) : Option (Fo (Nat × (Option Int) × (Option Int)) Bool) := (nextO ds s1.1 256).bind fun v16 =>
(t__law_cells ds v16.2).bind fun v17 =>
(nextO ds v17.2 2).bind fun v18 =>
(nextO ds v18.2 2).bind fun v19 =>
(t_rule_turned v16.1 v18.1 v19.1).bind fun v20 =>
(t__law_is_number (eI v20)).bind fun v21 =>
((if (!v21) = true then some true else ((t__law_turned v16.1 v18.1 v19.1).bind fun v22 => some (!decide (v20 = v22))))).bind fun v23 =>
if v23 = true then (some (.rt false)) else ((szO (mapO (fun (x27 : Int) => some (Builtin.bitXor x27 v19.1)) (if (decide (v18.1 = 1)) = true then (List.reverse v17.1) else v17.1))).bind fun y28 =>
(t_ran v16.1 v17.1).bind fun v29 =>
(t__law_is_numbers ((eT eI) v29)).bind fun v30 =>
((if (!v30) = true then some true else ((t__law_ran v16.1 v17.1).bind fun v31 => some (!eqE (eT eI) v29 v31)))).bind fun v32 =>
if v32 = true then (some (.rt false)) else ((t_ran v20 y28).bind fun v35 =>
(szO (mapO (fun (x37 : Int) => some (Builtin.bitXor x37 v19.1)) (if (decide (v18.1 = 1)) = true then (List.reverse v29) else v29))).bind fun y38 =>
if (!eqE (eT eI) v35 y38) = true then (some (.rt false)) else (forB (r := Bool) (fun (x42 : Int) (s40 : (Option Int)) => (t_rule_form x42).bind fun v43 =>
(t__law_is_numbers ((e3 eI eI eI) v43)).bind fun v44 =>
((if (!v44) = true then some true else ((t__law_form x42).bind fun v45 => some (!eqE (e3 eI eI eI) v43 v45)))).bind fun v46 =>
if v46 = true then (some (.rt false)) else (some (.nx (some x42)))) [v16.1, v20] s1.2.2 (fun (s49 : (Option Int)) => (s49).bind fun v51 =>
(t_orbit_of v16.1 v17.1).bind fun v52 =>
(t__law_is_numbers ((e2 eI eI) v52)).bind fun v53 =>
((if (!v53) = true then some true else ((t__law_orbit v16.1 v17.1).bind fun v54 => some (!eqE (e2 eI eI) v52 v54)))).bind fun v55 =>
if v55 = true then (some (.rt false)) else ((t_lost_row v16.1).bind fun v58 =>
(t__law_lost v16.1).bind fun v59 =>
((if (Option.isNone v59) = true then (((if (!Option.isNone v58) = true then some true else ((t_is_open v16.1).bind fun v60 => some (!decide (v60 = true))))).bind fun v61 => some v61) else some false)).bind fun v63 =>
((if v63 = true then some true else (((if (!Option.isNone v59) = true then ((t__law_is_numbers ((eO (eT eI)) v58)).bind fun v65 => ((if (!v65) = true then some true else (((if (!eqE (eO (eT eI)) v58 v59) = true then some true else ((t_is_open v16.1).bind fun v66 => some (!decide (v66 = false))))).bind fun v67 => some v67))).bind fun v69 => some v69) else some false)).bind fun v71 => some v71))).bind fun v73 =>
if v73 = true then (some (.rt false)) else ((nextO ds v19.2 30).bind fun v76 =>
(nextO ds v76.2 6).bind fun v77 =>
forB (r := Bool) (fun (x81 : Int) (s78 : Unit) => (t_count_kept v16.1 x81).bind fun v82 =>
(t__law_is_number (eI v82)).bind fun v83 =>
((if (!v83) = true then some true else ((t__law_kept v16.1 x81).bind fun v84 => some (!decide (v82 = v84))))).bind fun v85 =>
if v85 = true then (some (.rt false)) else (some (.nx ()))) [(1 + v76.1), (1 + v77.1)] () (fun (s88 : Unit) => some (.nx (v77.2, (some v16.1), (some v51)))) (fun x => some (.rt x))))) (fun x => some (.rt x)))))
def lawE (ds : List Int) (s91 : (Nat × (Option Int) × (Option Int))) : Option Bool := (s91.2.1).bind fun v105 =>
(s91.2.2).bind fun v106 =>
(nextO ds s91.1 5).bind fun v107 =>
(some (1 + v107.1)).bind fun x108 =>
(shlO 1 x108).bind fun v110 =>
(rngO1 v110).bind fun r111 =>
(szO (mapO (fun (x112 : Int) => (rngO1 x108).bind fun r114 => (szO (mapO (fun (x115 : Int) => (shrO x112 x115).bind fun v116 => some (Builtin.bitAnd v116 1)) r114)).bind fun y117 => some y117) r111)).bind fun y118 =>
(t_count_kept v105 x108).bind fun v119 =>
(szO (lcO (fun (x121 : (List Int)) => (t__law_ran v105 x121).bind fun v122 => if (eqE (eT eI) v122 x121) = true then (some (some x121)) else some none) y118)).bind fun y123 =>
if (!decide (v119 = (List.length y123 : Int))) = true then (some false) else ((nextO ds v107.2 5).bind fun v125 =>
if (decide (v125.1 = 0)) = true then ((t_all_rules ).bind fun v127 =>
(t__law_is_numbers ((eT eI) v127)).bind fun v128 =>
((if (!v128) = true then some true else ((szO (mapO (fun (x130 : Int) => (t__law_form x130).bind fun v131 => some v131.1) (rangeI 0 (Int.toNat 256)))).bind fun y132 => (ssetO eI 1000 y132).bind fun v133 => some ((!eqE (eL eI) v127 v133) || (!decide ((List.length v127 : Int) = 88)))))).bind fun v134 =>
if v134 = true then (some false) else (some true)) else (some true))
theorem num_ok (v : Int) : t__law_is_number (eI v) = some true := rfl
theorem nums_ok {xs : List Int} (hl : xs.length ≤ 1000000) : t__law_is_numbers (eT eI xs) = some true := by
  unfold t__law_is_numbers
  refine (be (v := true) rfl).trans ((be (v := true) ?_).trans rfl)
  rw [if_pos rfl]
  refine (be (v := xs.map eI) rfl).trans ((be (v := []) ?_).trans ((be (v := true) rfl).trans rfl))
  refine (szlc_filter (t := fun _ => false) (g := id) (fun x hx => ?_) (by rw [List.length_map]; exact hl)).trans ?_
  · obtain ⟨n, _, rfl⟩ := List.mem_map.mp hx
    exact (be (num_ok n)).trans rfl
  · rw [List.filter_eq_nil_iff.mpr fun _ _ => by simp]
    rfl
theorem cells_ok (ds : List Int) (n : Nat) : ∃ cs n', t__law_cells ds n = some (cs, n') ∧ Bits cs ∧ cs.length ≤ 9 := by
  unfold t__law_cells
  obtain ⟨v, v0, v1, e⟩ := next_ex (ds := ds) (n := n) (m := 9) (by decide)
  have bits : ∀ (xs : List Int) (m : Nat), ∃ ys m', lcwO (fun (x7 : Int) (n8 : Nat) => (nextO ds n8 2).bind fun v9 => some (some v9.1, v9.2)) xs m = some (ys, m') ∧ ys.length = xs.length ∧ Bits ys := by
    intro xs
    induction xs with
    | nil => exact fun m => ⟨[], m, rfl, rfl, fun x hx => by cases hx⟩
    | cons x xs ih =>
      intro m
      obtain ⟨w, w0, w1, e1⟩ := next_ex (ds := ds) (n := m) (m := 2) (by decide)
      obtain ⟨ys, m', e2, hl, hb⟩ := ih (m + 1)
      refine ⟨w :: ys, m', ?_, by simp [hl], fun y hy => ?_⟩
      · unfold lcwO
        exact (be (v := (some w, m + 1)) ((be e1).trans rfl)).trans ((be e2).trans rfl)
      · rcases List.mem_cons.mp hy with rfl | hy
        · omega
        · exact hb y hy
  obtain ⟨ys, m', e2, hl, hb⟩ := bits (rangeI 0 (1 + v.toNat)) (n + 1)
  rw [rangeI_len] at hl
  have er : rngO1 (1 + v) = some (rangeI 0 (1 + v.toNat)) := by
    have := rngO1_eq (n := 1 + v.toNat) (by omega)
    rwa [Int.natCast_add, Int.toNat_of_nonneg v0] at this
  refine ⟨ys, m', (be e).trans ((be er).trans ((be (v := (ys, m')) ?_).trans rfl)), hb, by omega⟩
  unfold szwO
  refine (be e2).trans (if_pos ?_)
  exact Nat.le_trans (by omega : ys.length ≤ 1000000) szl_6
theorem bit_next {ds : List Int} {n : Nat} : ∃ v, (v = 0 ∨ v = 1) ∧ nextO ds n 2 = some (v, n + 1) := by
  obtain ⟨v, v0, v1, e⟩ := next_ex (ds := ds) (n := n) (m := 2) (by decide)
  exact ⟨v, by omega, e⟩
theorem im_eq {m o : Int} {cs : List Int} (hl : cs.length ≤ 1000000) : szO (mapO (fun (x27 : Int) => some (Builtin.bitXor x27 o)) (if (decide (m = 1)) = true then (List.reverse cs) else cs)) = some (im m o cs) := by
  refine (szmap_eq (g := fl o) (fun _ _ => rfl) ?_).trans rfl
  split
  · rw [List.length_reverse]; exact hl
  · exact hl
theorem form_ok {r : Int} (hr : 0 ≤ r ∧ r < 256) : ∃ f, t_rule_form r = some f ∧ t__law_form r = some f := by
  obtain ⟨f, e, h⟩ := anO_inv (form_all hr)
  exact ⟨f, e, isO_inv h⟩
theorem lost_ok {r : Int} (hr : 0 ≤ r ∧ r < 256) : ∃ f, t_lost_row r = some f ∧ t__law_lost r = some f ∧ (f.getD []).length ≤ 1000 := by
  obtain ⟨f, e, h⟩ := anO_inv (lost_all hr)
  rw [Bool.and_eq_true] at h
  exact ⟨f, e, isO_inv h.1, of_decide_eq_true h.2⟩
theorem told1 {α : Type} {e : α → Dv} [EqE e] {a : α} {x : Option α} (h : x = some a) : (if (!true) = true then some true else x.bind fun b => some (!eqE e a b)) = some false := by
  rw [if_neg (by decide)]
  refine (be h).trans ?_
  rw [eqE_self]
  rfl
theorem toldN {a : Int} {x : Option Int} (h : x = some a) : (if (!true) = true then some true else x.bind fun b => some (!decide (a = b))) = some false := by
  rw [if_neg (by decide)]
  refine (be h).trans ?_
  rw [decide_eq_true rfl]
  rfl
def Done (s : Nat × Option Int × Option Int) : Prop := ∃ n r j, s = (n, some r, some j) ∧ 0 ≤ r ∧ r < 256
theorem lawB_ok (ds : List Int) (x15 : Int) (s1 : Nat × Option Int × Option Int) : ∃ s', lawB ds x15 s1 = some (.nx s') ∧ Done s' := by
  unfold lawB
  obtain ⟨r, r0, r1, z1⟩ := next_ex (ds := ds) (n := s1.1) (m := 256) (by decide)
  have hr : 0 ≤ r ∧ r < 256 := ⟨r0, r1⟩
  obtain ⟨cs, n2, z2, hb, hl⟩ := cells_ok ds (s1.1 + 1)
  obtain ⟨m, hm, z3⟩ := bit_next (ds := ds) (n := n2)
  obtain ⟨o, ho, z4⟩ := bit_next (ds := ds) (n := n2 + 1)
  obtain ⟨t, z5, z6, ht, him⟩ := turn_ok hr hm ho
  have l6 : cs.length ≤ 1000000 := by omega
  refine exp z1 (exp z2 (exp z3 (exp z4 (exp z5 (exp (num_ok t) (exp (v := false) (toldN z6) (expif rfl ?_)))))))
  refine exp (im_eq l6) (exp (ran_ok hb l6) (exp (nums_ok (by rw [ranP_len]; exact l6)) (exp (v := false) (told1 (e := eT eI) (ran_law hb l6)) (expif rfl ?_))))
  refine exp (ran_ok (im_bits ho hb) (by rw [im_len]; exact l6)) (exp (im_eq (by rw [ranP_len]; exact l6)) (expif ?_ ?_))
  · rw [him cs hb, eqE_self]
    rfl
  have one : ∀ x : Int, 0 ≤ x ∧ x < 256 → ∀ s40 : Option Int, ((t_rule_form x).bind fun v43 =>
(t__law_is_numbers ((e3 eI eI eI) v43)).bind fun v44 =>
((if (!v44) = true then some true else ((t__law_form x).bind fun v45 => some (!eqE (e3 eI eI eI) v43 v45)))).bind fun v46 =>
if v46 = true then (some (Fo.rt (r := Bool) false)) else (some (.nx (some x)))) = some (.nx (some x)) := fun x hx s40 => by
    obtain ⟨f, f1, f2⟩ := form_ok hx
    exact (be f1).trans ((be (nums_ok (xs := [f.1, f.2.1, f.2.2]) (by decide : 3 ≤ 1000000))).trans ((be (v := false) (told1 (e := e3 eI eI eI) f2)).trans rfl))
  refine ⟨(n2 + 1 + 1 + 1 + 1, some r, some t), ?_, _, _, _, rfl, r0, r1⟩
  refine (forB_of (s' := some t) (Eq.trans (for_go (s1 := some r) (one r hr s1.2.2)) (Eq.trans (for_go (s1 := some t) (one t ht (some r))) rfl))).trans ?_
  refine (be rfl).trans ?_
  obtain ⟨f, o1, o2⟩ := orbit_ok (r := r) hb hl
  refine (be o1).trans ((be (nums_ok (xs := [f.1, f.2]) (by decide : 2 ≤ 1000000))).trans ((be (v := false) (told1 (e := e2 eI eI) o2)).trans ?_))
  obtain ⟨g, l1, l2, l3⟩ := lost_ok hr
  have op : t_is_open r = some (Option.isNone g) := (be l1).trans rfl
  refine Eq.trans (if_neg (by decide)) ((be l1).trans ((be l2).trans ?_))
  have n30 : ∃ v, (0 ≤ v ∧ v < 30) ∧ nextO ds (n2 + 1 + 1) 30 = some (v, n2 + 1 + 1 + 1) := by
    obtain ⟨v, a, b, c⟩ := next_ex (ds := ds) (n := n2 + 1 + 1) (m := 30) (by decide)
    exact ⟨v, ⟨a, b⟩, c⟩
  obtain ⟨p, hp, q1⟩ := n30
  obtain ⟨q, q0, q2, q3⟩ := next_ex (ds := ds) (n := n2 + 1 + 1 + 1) (m := 6) (by decide)
  have cnt : ∀ v : Int, 0 ≤ v → v < 30 → ∀ u : Unit, ((t_count_kept r (1 + v)).bind fun v82 =>
(t__law_is_number (eI v82)).bind fun v83 =>
((if (!v83) = true then some true else ((t__law_kept r (1 + v)).bind fun v84 => some (!decide (v82 = v84))))).bind fun v85 =>
if v85 = true then (some (Fo.rt (r := Bool) false)) else (some (.nx ()))) = some (.nx ()) := fun v h0 h1 u => by
    have e : 1 + v = ((1 + v.toNat : Nat) : Int) := by omega
    rw [e]
    exact (be (kept_ok (by omega))).trans ((be (num_ok _)).trans ((be (v := false) (toldN (law_kept_ok (by omega) (by omega)))).trans rfl))
  cases g with
  | none =>
    refine (be (v := false) ((be (v := false) ?_).trans rfl)).trans ((be (v := false) rfl).trans ((if_neg (by decide)).trans ((be q1).trans ((be q3).trans ?_))))
    · exact (if_neg (by decide)).trans ((be op).trans rfl)
    · refine (forB_of (s' := ()) (Eq.trans (for_go (s1 := ()) (cnt p hp.1 hp.2 ())) (Eq.trans (for_go (s1 := ()) (cnt q q0 (by omega) ())) rfl))).trans rfl
  | some row =>
    have hrow : row.length ≤ 1000000 := Nat.le_trans l3 (by decide)
    refine (be (v := false) rfl).trans ((be (v := false) ?_).trans ((if_neg (by decide)).trans ((be q1).trans ((be q3).trans ?_))))
    · refine (be (v := false) ((be (v := true) (nums_ok hrow)).trans ((be (v := false) ?_).trans rfl))).trans rfl
      refine (if_neg (by decide)).trans ((be (v := false) ?_).trans rfl)
      rw [eqE_self, if_neg (by decide)]
      exact (be op).trans rfl
    · refine (forB_of (s' := ()) (Eq.trans (for_go (s1 := ()) (cnt p hp.1 hp.2 ())) (Eq.trans (for_go (s1 := ()) (cnt q q0 (by omega) ())) rfl))).trans rfl
theorem rows_ok : ∀ n : Nat, n ∈ [1, 2, 3, 4, 5] → (shlO 1 (n : Int)).bind (fun v110 => (rngO1 v110).bind fun r111 => szO (mapO (fun (x112 : Int) => (rngO1 (n : Int)).bind fun r114 => (szO (mapO (fun (x115 : Int) => (shrO x112 x115).bind fun v116 => some (Builtin.bitAnd v116 1)) r114)).bind fun y117 => some y117) r111)) = some (rowsP n) := by decide +kernel
theorem rows_bits {n : Nat} {c : List Int} (h : c ∈ rowsP n) : Bits c ∧ c.length = n := by
  unfold rowsP at h
  obtain ⟨k, _, rfl⟩ := List.mem_map.mp h
  refine ⟨fun x hx => ?_, by rw [List.length_map, rangeI_len]⟩
  obtain ⟨j, _, rfl⟩ := List.mem_map.mp hx
  rw [bitAnd_m1]
  omega
theorem law_true (ds xs : List Int) : t_law ds xs = some true := by
  obtain ⟨a, w1, _⟩ := lawB_ok ds 0 (0, none, none)
  obtain ⟨b, w2, n, r, j, rfl, hr⟩ := lawB_ok ds 1 a
  have hl : forO (lawB ds) (rangeI 0 (Int.toNat 2)) (0, none, none) = some (.nx (n, some r, some j)) := by
    refine Eq.trans (for_go (x := 0) (xs := [1]) w1) (Eq.trans (for_go w2) rfl)
  refine Eq.trans (forB_of hl) ?_
  show lawE ds (n, some r, some j) = some true
  unfold lawE
  obtain ⟨v, v0, v1, w3⟩ := next_ex (ds := ds) (n := n) (m := 5) (by decide)
  refine ext rfl (ext rfl (ext w3 (ext rfl ?_)))
  obtain ⟨k, hk, hv⟩ : ∃ k : Nat, k ∈ [1, 2, 3, 4, 5] ∧ 1 + v = (k : Int) := ⟨1 + v.toNat, by
    rcases (by omega : v.toNat = 0 ∨ v.toNat = 1 ∨ v.toNat = 2 ∨ v.toNat = 3 ∨ v.toNat = 4) with e | e | e | e | e <;> rw [e] <;> decide, by omega⟩
  rw [hv]
  obtain ⟨p, p1, hp⟩ := bnd (rows_ok k hk)
  obtain ⟨q, q1, hq⟩ := bnd hp
  have hk5 : k ≤ 5 := by
    simp only [List.mem_cons, List.not_mem_nil, or_false] at hk
    omega
  obtain ⟨c, c1, c2⟩ := anO_inv (List.all_eq_true.mp (fix_all hr) k hk)
  refine ext p1 (ext q1 (ext hq (ext c1 ?_)))
  refine ext (v := (rowsP k).filter fun c => decide (ranP r c = c)) ?_ (exi ?_ ?_)
  · refine (szlc_filter (t := fun c => decide (ranP r c = c)) (g := id) (fun x hx => ?_) ?_).trans (by rw [List.map_id])
    · obtain ⟨hb, hl⟩ := rows_bits hx
      refine (be (ran_law hb (by omega))).trans ?_
      by_cases h : ranP r x = x
      · rw [if_pos (by rw [h]; exact eqE_self (e := eT eI) x), if_pos (decide_eq_true h)]
        rfl
      · rw [if_neg (by rw [eqE_ne.mpr h]; decide), if_neg (by simpa using h)]
    · unfold rowsP
      rw [List.length_map, rangeI_len]
      exact Nat.le_trans (Nat.pow_le_pow_right (by decide) hk5) (by decide)
  · rw [of_decide_eq_true c2, decide_eq_true rfl]
    rfl
  obtain ⟨u, _, _, w4⟩ := next_ex (ds := ds) (n := n + 1) (m := 5) (by decide)
  refine ext w4 ?_
  by_cases h : u = 0
  · refine Eq.trans (if_pos (decide_eq_true h)) ?_
    obtain ⟨l, a1, a2⟩ := anO_inv all_ok
    rw [Bool.and_eq_true] at a2
    have hlen := of_decide_eq_true a2.2
    obtain ⟨f, f1, f2⟩ := bnd (isO_inv a2.1)
    refine ext a1 (ext (nums_ok (by omega)) (ext (v := false) ?_ (exi rfl rfl)))
    rw [if_neg (by decide)]
    refine (be f1).trans ((be f2).trans ?_)
    rw [eqE_self, hlen]
    rfl
  · exact Eq.trans (if_neg (by simpa using h)) rfl
theorem wanted : ∀ ns : List Int, ns.length ≤ 63 → ∃ as', F_law [.sh (.list (ns.map PyData.int))] = some (.sh (.bool true), as') := by
  intro ns hl
  obtain ⟨ds, _, hd⟩ := draws_ok ns hl 300 (by decide)
  exact ⟨_, sim_law ds hd (law_true ds ns)⟩
end K88

set_option Elab.async false
set_option linter.all false
set_option autoImplicit false
set_option maxRecDepth 100000
set_option maxHeartbeats 1000000
open PySem PySem.W PySem.Calls PyProof.Rows
theorem PySem.Challenge.cw_turnwarrant_k88_whole_rules_of_cells_holds : PySem.Challenge.rw_turnwarrant_k88_whole_rules_of_cells.Holds := by
  w_on; o_law
  refine HandSHeadRun.head_any (r := OpenLaw.row PySem.Challenge.rw_turnwarrant_k88_whole_rules_of_cells) (q := view (OpenLaw.row PySem.Challenge.rw_turnwarrant_k88_whole_rules_of_cells).prog [23]) (H := K88.hk) (ob := K88.ob) (M := 1560) (loose := K88.loose) (d := HandSHeadRun.topDef (OpenLaw.row PySem.Challenge.rw_turnwarrant_k88_whole_rules_of_cells).prog 23) (kwd := []) K88.ob_eq
    (by kernel_rfl) (fun s => by kernel_rfl) K88.run (by kernel_rfl) (by kernel_rfl) (by kernel_rfl) (by rfl) (by first | assumption | decide +kernel) (by decide +kernel) ⟨rfl, rfl, rfl, rfl, rfl, by decide +kernel⟩ ?hw ?hc
  case hw => w_witness2
  case hc =>
    refine L2.walk_ofE (l := PySem.Challenge.rw_turnwarrant_k88_whole_rules_of_cells) (n := 63) (k := 4) (x := "script") (CX := L2.CX0) rfl (by decide) (by kernel_rfl) ⟨rfl, by decide, by decide⟩ ?F (fun _ _ _ _ z => z)
    intro w mg fa h Y G hmg0
    obtain ⟨K, KX, c⟩ := Y
    have hmg : mg ("law" : PySem.Str) = some (.ref fa) := by
      have e : (HandSHeadRun.topDef (OpenLaw.row PySem.Challenge.rw_turnwarrant_k88_whole_rules_of_cells).prog 23).name = ("law" : PySem.Str) := by kernel_rfl
      rw [← e]
      exact hmg0
    obtain ⟨fd, hb, hF⟩ := K88.facts (P := (PySem.Challenge.rw_turnwarrant_k88_whole_rules_of_cells).prog) (w := w) KX G hmg c
    exact ⟨K, fd, DL.spD K 1 K88.F_law, KX, hb, fun H a ns hl _ hS => DL.law_end hS (K88.wanted ns hl), hF⟩

