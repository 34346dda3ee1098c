import PyProof.Rows.All
import HandS.ForMost
import HandS.IsInst
import HandS.Conv
import HandS.Style
import HandS.Flow
import HandS.SortInts
import HandS.Rev
import HandS.TupAny
import HandS.TupMul
import HandS.Deep
import HandS.Zip
import KE.SortData
import KE.KDictKeyed
import KE.KeyNested
import KE.DataMinMax
import KE.KTupSum
import PyProof.Rows.ListMulArg
import KE.KRevSl
import HandS.Head0
import HandS.Head1
import HandS.Head2
import HandS.HeadEnd
import HandS.HeadHook1
import HandS.HeadHook2
import HandS.TupLen
import HandS.SetKeys
import KE.KDictCopyH
import KE.KDictSum
import KE.KDictDisplayH
import HandS.TupSets
import HandS.ExcValue
import HandS.Strs
import PyProof.ListNew
import PyProof.TupleOfSeq
import HandS.DictSubView0
import HandS.ClsMeth
import HandS.Head3
import Wide.All
import OpenK.AllK
import Wide.FinOn
import KE.KStateDown
import Lean
import PySem.Challenge.RW_turnwarrant_k89_whole_chords
set_option Elab.async false
set_option linter.all false
set_option autoImplicit false
set_option maxRecDepth 100000
/-! DL: a layer of plain data over HandS. A def's body is read as a function of slots: each slot holds nothing, shared data (PyData, never changed again) or an owned object. -/
namespace DL
open PySem PySem.Spec PyProof.Rows L2

abbrev Dv := PyData
inductive Ob where
  | lst (xs : List Dv)
  | dct (kvs : List (Dv × Dv))
  | dtn (kvs : List (Dv × Dv))
inductive Sl where
  | no | sh (d : Dv) | ow (o : Ob) | fd (o : Ob)
inductive Rv where
  | sh (d : Dv) | ow (o : Ob) | al (i : Nat) | fd (o : Ob)
abbrev Rho := List Sl
abbrev M := Rho → Option (Rv × Rho)
abbrev MB := Rho → Option (Bool × Rho)
inductive Fl where
  | nx (ρ : Rho) | rt (r : Rv) (ρ : Rho) | bk (ρ : Rho) | ct (ρ : Rho)
abbrev MS := Rho → Option Fl

/-! ### heaps -/
def Sub (G G' : Hp) : Prop := ∀ a o, G a = some o → G' a = some o
theorem Sub.refl (G : Hp) : Sub G G := fun _ _ h => h
theorem Sub.trans {G G1 G2 : Hp} (a : Sub G G1) (b : Sub G1 G2) : Sub G G2 := fun c u h => b c u (a c u h)
theorem sub_upd {G : Hp} {p : Addr} {o : HO} (h : G p = none) : Sub G (upd G p o) := fun a u r => by
  have n : a ≠ p := fun e => by
    subst e
    rw [h] at r
    cases r
  rw [upd_ne n]
  exact r
theorem sub_le {G H : Hp} (h : ∀ a o, G a = some o → H a = some o) : Sub G H := h
theorem Sub.rd {G G' : Hp} (s : Sub G G') {a : Addr} {u : HO} (r : Rd G a u) : Rd G' a u := by
  rcases r with r | ⟨o, r⟩
  · exact .inl (s a u r)
  · exact .inr ⟨o, s a _ r⟩
section
variable {K : PySem.W.Frag} {G G' : Hp}
theorem Sub.sqL {a : Addr} {xs : List V} (s : Sub G G') (h : SqL K G a xs) : SqL K G' a xs := h.elim (fun r => .inl (s.rd r)) .inr
theorem Sub.sqT {a : Addr} {xs : List V} (s : Sub G G') (h : SqT K G a xs) : SqT K G' a xs := h.elim (fun r => .inl (s.rd r)) .inr
mutual
theorem dp_mono (s : Sub G G') : ∀ (d : PyData) (v : V), Dp K G v d → Dp K G' v d
  | .none, _, h => by cases h; exact .non
  | .bool b, _, h => by cases h; exact .bl b
  | .int i, _, h => by cases h; exact .int i
  | .str x, _, h => by cases h; exact .str x
  | .list ds, _, h => by
    cases h with
    | lst hs ha => exact .lst (s.sqL hs) (dpAll_mono s ds _ ha)
  | .tuple ds, _, h => by
    cases h with
    | tup hs ha => exact .tup (s.sqT hs) (dpAll_mono s ds _ ha)
  | .dict _, _, h => by cases h
theorem dpAll_mono (s : Sub G G') : ∀ (ds : List PyData) (vs : List V), DpAll K G vs ds → DpAll K G' vs ds
  | [], _, h => by cases h; exact .nil
  | d :: ds, _, h => by
    cases h with
    | cons h1 h2 => exact .cons (dp_mono s d _ h1) (dpAll_mono s ds _ h2)
end
theorem dpAll_length : ∀ {ds : List PyData} {vs : List V}, DpAll K G vs ds → vs.length = ds.length
  | [], _, h => by cases h; rfl
  | d :: ds, _, h => by
    cases h with
    | cons h1 h2 => simp [dpAll_length h2]
theorem dpAll_get : ∀ {ds : List PyData} {vs : List V} {i : Nat} {d : PyData}, DpAll K G vs ds → ds[i]? = some d → ∃ v, vs[i]? = some v ∧ Dp K G v d
  | [], _, i, d, h, e => by simp at e
  | d0 :: ds, _, 0, d, h, e => by
    cases h with
    | cons h1 h2 =>
      simp at e
      subst e
      exact ⟨_, rfl, h1⟩
  | d0 :: ds, _, i + 1, d, h, e => by
    cases h with
    | cons h1 h2 =>
      simp at e
      obtain ⟨v, h3, h4⟩ := dpAll_get h2 e
      exact ⟨v, by simpa using h3, h4⟩
theorem dpAll_append : ∀ {ds es : List PyData} {vs ws : List V}, DpAll K G vs ds → DpAll K G ws es → DpAll K G (vs ++ ws) (ds ++ es)
  | [], _, _, _, h, k => by cases h; exact k
  | d :: ds, _, _, _, h, k => by
    cases h with
    | cons h1 h2 => exact .cons h1 (dpAll_append h2 k)
theorem dpAll_take : ∀ {ds : List PyData} {vs : List V} (n : Nat), DpAll K G vs ds → DpAll K G (vs.take n) (ds.take n)
  | _, _, 0, h => by simp; exact .nil
  | [], _, n + 1, h => by cases h; exact .nil
  | d :: ds, _, n + 1, h => by
    cases h with
    | cons h1 h2 => exact .cons h1 (dpAll_take n h2)
theorem dpAll_drop : ∀ {ds : List PyData} {vs : List V} (n : Nat), DpAll K G vs ds → DpAll K G (vs.drop n) (ds.drop n)
  | _, _, 0, h => by simpa using h
  | [], _, n + 1, h => by cases h; exact .nil
  | d :: ds, _, n + 1, h => by
    cases h with
    | cons h1 h2 => exact dpAll_drop n h2
theorem dpAll_set {d : PyData} {v : V} (q : Dp K G v d) : ∀ {ds : List PyData} {vs : List V} (n : Nat), DpAll K G vs ds → DpAll K G (vs.set n v) (ds.set n d)
  | [], _, n, h => by cases h; simp; exact .nil
  | d0 :: ds, _, 0, h => by
    cases h with
    | cons h1 h2 => exact .cons q h2
  | d0 :: ds, _, n + 1, h => by
    cases h with
    | cons h1 h2 => exact .cons h1 (dpAll_set q n h2)
theorem dpAll_reverse : ∀ {ds : List PyData} {vs : List V}, DpAll K G vs ds → DpAll K G vs.reverse ds.reverse
  | [], _, h => by cases h; exact .nil
  | d :: ds, _, h => by
    cases h with
    | cons h1 h2 =>
      simp only [List.reverse_cons]
      exact dpAll_append (dpAll_reverse h2) (.cons h1 .nil)
theorem dpAll_ints : ∀ ns : List Int, DpAll K G (ns.map V.int) (ns.map PyData.int)
  | [] => .nil
  | n :: ns => .cons (.int n) (dpAll_ints ns)
theorem ints_of_dpAll : ∀ {ns : List Int} {vs : List V}, DpAll K G vs (ns.map PyData.int) → vs = ns.map V.int
  | [], _, h => by cases h; rfl
  | n :: ns, _, h => by
    cases h with
    | cons h1 h2 =>
      cases h1
      rw [ints_of_dpAll h2]
      rfl
end

/-! ### what owned objects hold -/
def keyD : Key → Dv
  | .inl i => .int i
  | .inr x => .str x
inductive DKV (K : PySem.W.Frag) (G : Hp) : List (Key × V) → List (Dv × Dv) → Prop
  | nil : DKV K G [] []
  | cons {k : Key} {v : V} {d : Dv} {r : List (Key × V)} {s : List (Dv × Dv)} : Dp K G v d → DKV K G r s → DKV K G ((k, v) :: r) ((keyD k, d) :: s)
theorem DKV.mono {K : PySem.W.Frag} {G G' : Hp} (s : Sub G G') : ∀ {kvs : List (Key × V)} {ds : List (Dv × Dv)}, DKV K G kvs ds → DKV K G' kvs ds
  | _, _, .nil => .nil
  | _, _, .cons h t => .cons (dp_mono s _ _ h) (DKV.mono s t)
/-! dicts whose keys are tuples of ints (nested) -/
mutual
def keyN : Dv → Option NestedKey
  | .none => some .none
  | .int i => some (.num i)
  | .tuple ds => (keyNs ds).map .tup
  | _ => none
def keyNs : List Dv → Option (List NestedKey)
  | [] => some []
  | d :: ds => (keyN d).bind fun k => (keyNs ds).map (k :: ·)
end
inductive PR : List (NestedKey × Addr × V) → List (NestedKey × Addr × Value) → Prop
  | nil : PR [] []
  | cons {k : NestedKey} {b : Addr} {v : V} {u : Value} {r : List (NestedKey × Addr × V)} {s : List (NestedKey × Addr × Value)} : RelV v u → PR r s → PR ((k, b, v) :: r) ((k, b, u) :: s)
def tkO (a : Addr) (ps : List (NestedKey × Addr × V)) : HO := .ext fun h => (a == sysModules) = false ∧ ∃ (xs : List (NestedKey × Addr × Value)) (o : Obj) (es : Array DictEntry) (ep : Nat), PR ps xs ∧ h.get? a = some o ∧ o.ExactDict ∧ o.data = .dict es ep ∧
  (∀ w : World, es.toList = xs.map fun x => ⟨x.1.hash w, .ref x.2.1, x.2.2⟩) ∧ (xs.map (·.1)).Nodup
inductive TKV (K : PySem.W.Frag) (G : Hp) : List (NestedKey × Addr × V) → List (Dv × Dv) → Prop
  | nil : TKV K G [] []
  | cons {k : NestedKey} {b : Addr} {v : V} {kd d : Dv} {r : List (NestedKey × Addr × V)} {s : List (Dv × Dv)} : keyN kd = some k → k.depth ≤ 8 → Dp K G (.ref b) kd → Dp K G v d → TKV K G r s → TKV K G ((k, b, v) :: r) ((kd, d) :: s)
theorem TKV.mono {K : PySem.W.Frag} {G G' : Hp} (s : Sub G G') : ∀ {ps : List (NestedKey × Addr × V)} {ds : List (Dv × Dv)}, TKV K G ps ds → TKV K G' ps ds
  | _, _, .nil => .nil
  | _, _, .cons h1 h2 h3 h4 t => .cons h1 h2 (dp_mono s _ _ h3) (dp_mono s _ _ h4) (TKV.mono s t)
def Ct (K : PySem.W.Frag) (G H : Hp) (a : Addr) : Ob → Prop
  | .lst ds => ∃ vs, H a = some (.lst vs) ∧ DpAll K G vs ds
  | .dct kvs => ∃ ks, H a = some (.dK ks) ∧ DKV K G ks kvs
  | .dtn kvs => ∃ ps, H a = some (tkO a ps) ∧ TKV K G ps kvs
theorem Ct.mono {K : PySem.W.Frag} {G G' H H' : Hp} {a : Addr} {o : Ob} (c : Ct K G H a o) (s : Sub G G') (h : H' a = H a) : Ct K G' H' a o := by
  cases o with
  | lst ds => obtain ⟨vs, e, q⟩ := c; exact ⟨vs, h.trans e, dpAll_mono s _ _ q⟩
  | dct kvs => obtain ⟨vs, e, q⟩ := c; exact ⟨vs, h.trans e, q.mono s⟩
  | dtn kvs => obtain ⟨vs, e, q⟩ := c; exact ⟨vs, h.trans e, q.mono s⟩
theorem Ct.some {K : PySem.W.Frag} {G H : Hp} {a : Addr} {o : Ob} (c : Ct K G H a o) : ∃ u, H a = some u := by
  cases o with
  | lst ds => obtain ⟨vs, e, q⟩ := c; exact ⟨_, e⟩
  | dct kvs => obtain ⟨vs, e, q⟩ := c; exact ⟨_, e⟩
  | dtn kvs => obtain ⟨vs, e, q⟩ := c; exact ⟨_, e⟩

/-- a dict that stays as it is from now on -/
def Cf (K : PySem.W.Frag) (G : Hp) (a : Addr) : Ob → Prop
  | .lst _ => False
  | .dct kvs => ∃ o ks, G a = some (.frz o (.dK ks)) ∧ DKV K G ks kvs
  | .dtn kvs => ∃ o ps, G a = some (.frz o (tkO a ps)) ∧ TKV K G ps kvs
theorem Cf.mono {K : PySem.W.Frag} {G G' : Hp} {a : Addr} {o : Ob} (c : Cf K G a o) (s : Sub G G') : Cf K G' a o := by
  cases o with
  | lst ds => exact c
  | dct kvs => obtain ⟨o, vs, e, q⟩ := c; exact ⟨o, vs, s _ _ e, q.mono s⟩
  | dtn kvs => obtain ⟨o, vs, e, q⟩ := c; exact ⟨o, vs, s _ _ e, q.mono s⟩
/-- a slot -/
def SlOk (K : PySem.W.Frag) (Fr G H : Hp) : Sl → Option (Option V) → Prop
  | .no, _ => True
  | .sh d, ov => ∃ v, ov = some (some v) ∧ Dp K G v d
  | .ow o, ov => ∃ a, ov = some (some (.ref a)) ∧ G a = none ∧ Fr a = none ∧ Ct K G H a o
  | .fd o, ov => ∃ a, ov = some (some (.ref a)) ∧ Cf K G a o
structure RS (K : PySem.W.Frag) (ix : List Nat) (Fr : Hp) (FX : Nat → Option V) (G : Hp) (ρ : Rho) (σ : L2.St) (H : Hp) : Prop where
  gh : ∀ a o, G a = some o → H a = some o
  fh : ∀ a o, Fr a = some o → H a = some o
  gf : ∀ a, Fr a ≠ none → G a = none
  len : ρ.length = σ.length
  sl : ∀ (i : Nat) (s : Sl), ρ[i]? = some s → SlOk K Fr G H s σ[i]?
  sep : ∀ (i j : Nat) (a : Addr) (o o' : Ob), i ≠ j → ρ[i]? = some (.ow o) → ρ[j]? = some (.ow o') → σ[i]? = some (some (.ref a)) → σ[j]? ≠ some (some (.ref a))
  fx : ∀ (i : Nat) (v : V), FX i = some v → i ∈ ix ∧ σ[i]? = some (some v)
def VOk (K : PySem.W.Frag) (Fr G H : Hp) (ρ : Rho) (σ : L2.St) : Rv → V → Prop
  | .sh d, v => Dp K G v d
  | .ow o, v => ∃ a, v = .ref a ∧ G a = none ∧ Fr a = none ∧ Ct K G H a o ∧ ∀ (i : Nat) (o' : Ob), ρ[i]? = some (.ow o') → σ[i]? ≠ some (some (.ref a))
  | .al i, v => σ[i]? = some (some v)
  | .fd o, v => ∃ a, v = .ref a ∧ Cf K G a o

section
variable {K : PySem.W.Frag} {ix : List Nat} {Fr G G' H H' : Hp} {FX : Nat → Option V} {ρ ρ' : Rho} {σ : L2.St}
theorem RS.none_of (R : RS K ix Fr FX G ρ σ H) {p : Addr} (h : H p = none) : G p = none ∧ Fr p = none := by
  constructor
  · cases e : G p with
    | none => rfl
    | some o => have := R.gh p o e; rw [h] at this; cases this
  · cases e : Fr p with
    | none => rfl
    | some o => have := R.fh p o e; rw [h] at this; cases this
theorem RS.sub (R : RS K ix Fr FX G ρ σ H) : Sub G H := sub_le R.gh
theorem SlOk.mono {s : Sl} {ov : Option (Option V)} (h : SlOk K Fr G H s ov) (su : Sub G G') (hn : ∀ (a : Addr) (o : Ob), ov = some (some (.ref a)) → s = .ow o → G a = none → Fr a = none → G' a = none ∧ H' a = H a) : SlOk K Fr G' H' s ov := by
  cases s with
  | no => trivial
  | sh d => obtain ⟨v, e, q⟩ := h; exact ⟨v, e, dp_mono su _ _ q⟩
  | fd o => obtain ⟨a, e, q⟩ := h; exact ⟨a, e, q.mono su⟩
  | ow o =>
    obtain ⟨a, e, g, f, c⟩ := h
    obtain ⟨n1, n2⟩ := hn a o e rfl g f
    exact ⟨a, e, n1, f, c.mono su n2⟩
/-- a new shared object -/
theorem RS.newG (R : RS K ix Fr FX G ρ σ H) {p : Addr} {o : HO} (h : H p = none) : RS K ix Fr FX (upd G p o) ρ σ (upd H p o) := by
  obtain ⟨hg, hf⟩ := R.none_of h
  refine ⟨fun a u e => ?_, fun a u e => ?_, fun a n => ?_, R.len, fun i s e => ?_, R.sep, R.fx⟩
  · by_cases ha : a = p
    · subst ha; rw [upd_same] at e ⊢; exact e
    · rw [upd_ne ha] at e ⊢; exact R.gh a u e
  · by_cases ha : a = p
    · subst ha; rw [hf] at e; cases e
    · rw [upd_ne ha]; exact R.fh a u e
  · by_cases ha : a = p
    · subst ha; exact absurd hf n
    · rw [upd_ne ha]; exact R.gf a n
  · refine (R.sl i s e).mono (sub_upd hg) fun a o' e1 e2 g f => ?_
    have ha : a ≠ p := fun z => by
      subst z; subst e2
      obtain ⟨b, eb, _, _, c⟩ := R.sl i _ e
      rw [e1] at eb
      cases eb
      obtain ⟨u, hu⟩ := c.some
      rw [h] at hu; cases hu
    rw [upd_ne ha, upd_ne ha]
    exact ⟨g, rfl⟩
/-- a new object that is not shared -/
theorem RS.newH (R : RS K ix Fr FX G ρ σ H) {p : Addr} {o : HO} (h : H p = none) : RS K ix Fr FX G ρ σ (upd H p o) := by
  obtain ⟨hg, hf⟩ := R.none_of h
  refine ⟨fun a u e => ?_, fun a u e => ?_, R.gf, R.len, fun i s e => ?_, R.sep, R.fx⟩
  · have ha : a ≠ p := fun z => by subst z; rw [hg] at e; cases e
    rw [upd_ne ha]; exact R.gh a u e
  · have ha : a ≠ p := fun z => by subst z; rw [hf] at e; cases e
    rw [upd_ne ha]; exact R.fh a u e
  · refine (R.sl i s e).mono (Sub.refl _) fun a o' e1 e2 g f => ?_
    have ha : a ≠ p := fun z => by
      subst z; subst e2
      obtain ⟨b, eb, _, _, c⟩ := R.sl i _ e
      rw [e1] at eb
      cases eb
      obtain ⟨u, hu⟩ := c.some
      rw [h] at hu; cases hu
    rw [upd_ne ha]
    exact ⟨g, rfl⟩
theorem RS.notIn (R : RS K ix Fr FX G ρ σ H) {p : Addr} (h : H p = none) : ∀ (i : Nat) (o : Ob), ρ[i]? = some (.ow o) → σ[i]? ≠ some (some (.ref p)) := fun i o e e1 => by
  obtain ⟨b, eb, _, _, c⟩ := R.sl i _ e
  rw [e1] at eb
  cases eb
  obtain ⟨u, hu⟩ := c.some
  rw [h] at hu; cases hu
/-- an object outside is shared from now on -/
theorem RS.share (R : RS K ix Fr FX G ρ σ H) {p : Addr} {o : HO} (h : H p = some o) (hg : G p = none) (hf : Fr p = none) (hn : ∀ (i : Nat) (o' : Ob), ρ[i]? = some (.ow o') → σ[i]? ≠ some (some (.ref p))) : RS K ix Fr FX (upd G p o) ρ σ H := by
  refine ⟨fun a u e => ?_, R.fh, fun a n => ?_, R.len, fun i s e => ?_, R.sep, R.fx⟩
  · by_cases ha : a = p
    · subst ha; rw [upd_same] at e; rw [h]; exact e
    · rw [upd_ne ha] at e; exact R.gh a u e
  · by_cases ha : a = p
    · subst ha; exact absurd hf n
    · rw [upd_ne ha]; exact R.gf a n
  · refine (R.sl i s e).mono (sub_upd hg) fun a o' e1 e2 g f => ?_
    have ha : a ≠ p := fun z => by
      subst z; subst e2
      exact hn i _ e e1
    rw [upd_ne ha]
    exact ⟨g, rfl⟩
/-- a slot is stored -/
theorem RS.set (R : RS K ix Fr FX G ρ σ H) {i : Nat} {s : Sl} {v : V} (hi : i ∉ ix) (hs : SlOk K Fr G H s (some (some v))) (hn : ∀ (o : Ob) (a : Addr), s = .ow o → v = .ref a → ∀ (j : Nat) (o' : Ob), ρ[j]? = some (.ow o') → σ[j]? ≠ some (some (.ref a))) :
    RS K ix Fr FX G (ρ.set i s) (σ.set i (some v)) H := by
  refine ⟨R.gh, R.fh, R.gf, by simp [R.len], fun j t e => ?_, fun j k a o o' ne e1 e2 e3 e4 => ?_, fun j w e => ?_⟩
  · by_cases hj : i = j
    · subst hj
      have hl : i < ρ.length := by
        have := (List.getElem?_eq_some_iff.mp e).1
        simpa using this
      rw [List.getElem?_set_self hl] at e
      cases e
      rw [List.getElem?_set_self (by rw [← R.len]; exact hl)]
      exact hs
    · rw [List.getElem?_set_ne hj] at e ⊢
      exact R.sl j t e
  · by_cases hj : i = j
    · subst hj
      have hl : i < ρ.length := by
        have := (List.getElem?_eq_some_iff.mp e1).1
        simpa using this
      have hk : i ≠ k := ne
      rw [List.getElem?_set_self hl] at e1
      rw [List.getElem?_set_ne hk] at e2
      rw [List.getElem?_set_self (by rw [← R.len]; exact hl)] at e3
      rw [List.getElem?_set_ne hk] at e4
      cases e1
      cases e3
      exact hn o a rfl rfl k o' e2 e4
    · rw [List.getElem?_set_ne hj] at e1 e3
      by_cases hk : i = k
      · subst hk
        have hl : i < ρ.length := by
          have := (List.getElem?_eq_some_iff.mp e2).1
          simpa using this
        rw [List.getElem?_set_self hl] at e2
        rw [List.getElem?_set_self (by rw [← R.len]; exact hl)] at e4
        cases e2
        cases e4
        exact hn o' a rfl rfl j o e1 e3
      · rw [List.getElem?_set_ne hk] at e2 e4
        exact R.sep j k a o o' ne e1 e2 e3 e4
  · obtain ⟨h1, h2⟩ := R.fx j w e
    have hj : i ≠ j := fun z => by subst z; exact hi h1
    exact ⟨h1, by rw [List.getElem?_set_ne hj]; exact h2⟩
/-- a slot's view is weakened: the same value, no longer owned -/
theorem RS.weak (R : RS K ix Fr FX G ρ σ H) {i : Nat} {s : Sl} (hs : SlOk K Fr G H s σ[i]?) (hn : ∀ o : Ob, s ≠ .ow o) : RS K ix Fr FX G (ρ.set i s) σ H := by
  refine ⟨R.gh, R.fh, R.gf, by simp [R.len], fun j t e => ?_, fun j k a o o' ne e1 e2 e3 e4 => ?_, R.fx⟩
  · by_cases hj : i = j
    · subst hj
      have hl : i < ρ.length := by
        have := (List.getElem?_eq_some_iff.mp e).1
        simpa using this
      rw [List.getElem?_set_self hl] at e
      cases e
      exact hs
    · rw [List.getElem?_set_ne hj] at e
      exact R.sl j t e
  · have un : ∀ {j : Nat} {o : Ob}, (ρ.set i s)[j]? = some (.ow o) → ρ[j]? = some (.ow o) := fun {j o} e => by
      by_cases hj : i = j
      · subst hj
        have hl : i < ρ.length := by
          have := (List.getElem?_eq_some_iff.mp e).1
          simpa using this
        rw [List.getElem?_set_self hl] at e
        exact absurd (Option.some.inj e) (hn o)
      · rw [List.getElem?_set_ne hj] at e
        exact e
    exact R.sep j k a o o' ne (un e1) (un e2) e3 e4
/-- the owned object of a slot changes -/
theorem RS.mut (R : RS K ix Fr FX G ρ σ H) {i : Nat} {o o' : Ob} {a : Addr} {u : HO} (h : ρ[i]? = some (.ow o)) (ha : σ[i]? = some (some (.ref a))) (hc : Ct K G (upd H a u) a o') :
    RS K ix Fr FX G (ρ.set i (.ow o')) σ (upd H a u) := by
  obtain ⟨b, eb, g, f, c⟩ := R.sl i _ h
  rw [ha] at eb
  cases eb
  have hl : i < ρ.length := (List.getElem?_eq_some_iff.mp h).1
  refine ⟨fun b x e => ?_, fun b x e => ?_, R.gf, by simp [R.len], fun j t e => ?_, fun j k b x x' ne e1 e2 e3 e4 => ?_, R.fx⟩
  · have hb : b ≠ a := fun z => by subst z; rw [g] at e; cases e
    rw [upd_ne hb]; exact R.gh b x e
  · have hb : b ≠ a := fun z => by subst z; rw [f] at e; cases e
    rw [upd_ne hb]; exact R.fh b x e
  · by_cases hj : i = j
    · subst hj
      rw [List.getElem?_set_self hl] at e
      cases e
      exact ⟨a, ha, g, f, hc⟩
    · rw [List.getElem?_set_ne hj] at e
      refine (R.sl j t e).mono (Sub.refl _) fun b x e1 e2 g' f' => ⟨g', ?_⟩
      subst e2
      exact upd_ne fun z => by
        subst z
        exact R.sep i j b o x hj h e ha e1
  · have un : ∀ {j : Nat} {x : Ob}, (ρ.set i (.ow o'))[j]? = some (.ow x) → ∃ y, ρ[j]? = some (.ow y) := fun {j x} e => by
      by_cases hj : i = j
      · subst hj; exact ⟨o, h⟩
      · rw [List.getElem?_set_ne hj] at e; exact ⟨x, e⟩
    obtain ⟨y, e1'⟩ := un e1
    obtain ⟨y', e2'⟩ := un e2
    exact R.sep j k b y y' ne e1' e2' e3 e4
end
end DL

set_option Elab.async false
set_option linter.all false
set_option autoImplicit false
set_option maxRecDepth 100000
namespace DL
open PySem PySem.Spec PyProof.Rows L2

inductive Rz where
  | sh (d : Dv) | ow (o : Ob)
def Rz.rv : Rz → Rv
  | .sh d => .sh d
  | .ow o => .ow o
abbrev MA := Rho → Option (List Rv × Rho)
abbrev ML := Rho → Option (List Dv × Rho)
def obD : Ob → Dv
  | .lst ds => .list ds
  | .dct kvs => .dict kvs
  | .dtn kvs => .dict ((.none, .none) :: kvs)
/-- the data that a value stands for -/
def dat (ρ : Rho) : Rv → Option Dv
  | .sh d => some d
  | .ow o => some (obD o)
  | .fd o => some (obD o)
  | .al i => match ρ[i]? with
    | some (.ow o) => some (obD o)
    | _ => none

def VOks (K : PySem.W.Frag) (Fr G H : Hp) (ρ : Rho) (σ : L2.St) : List Rv → List V → Prop
  | [], [] => True
  | r :: rs, v :: vs => VOk K Fr G H ρ σ r v ∧ (∀ (o : Ob) (a : Addr), r = .ow o → v = .ref a → ∀ (j : Nat) (o' : Ob), rs[j]? = some (.ow o') → vs[j]? ≠ some (.ref a)) ∧ VOks K Fr G H ρ σ rs vs
  | _, _ => False

/-! ### canonical readings -/
def TE' (K : PySem.W.Frag) (ix : List Nat) (f : M) : TE := fun σ H Q => ∃ Fr FX G ρ r ρ', RS K ix Fr FX G ρ σ H ∧ f ρ = some (r, ρ') ∧
  ∀ v G' H', Sub G G' → RS K ix Fr FX G' ρ' σ H' → VOk K Fr G' H' ρ' σ r v → Q v H'
def TT' (K : PySem.W.Frag) (ix : List Nat) (f : MB) : TT := fun σ H Q => ∃ Fr FX G ρ b ρ', RS K ix Fr FX G ρ σ H ∧ f ρ = some (b, ρ') ∧
  ∀ G' H', Sub G G' → RS K ix Fr FX G' ρ' σ H' → Q b H'
def TA' (K : PySem.W.Frag) (ix : List Nat) (f : MA) : TA := fun σ H Q => ∃ Fr FX G ρ rs ρ', RS K ix Fr FX G ρ σ H ∧ f ρ = some (rs, ρ') ∧
  ∀ vs G' H', Sub G G' → RS K ix Fr FX G' ρ' σ H' → VOks K Fr G' H' ρ' σ rs vs → Q vs H'
def FlP (K : PySem.W.Frag) (ix : List Nat) (Fr : Hp) (FX : Nat → Option V) (G : Hp) (fl : Fl) (D : Ends) : Prop := match fl with
  | .nx ρ' => ∀ G' σ' H', Sub G G' → RS K ix Fr FX G' ρ' σ' H' → D.nx σ' H'
  | .bk ρ' => ∀ G' σ' H', Sub G G' → RS K ix Fr FX G' ρ' σ' H' → D.bk σ' H'
  | .ct ρ' => ∀ G' σ' H', Sub G G' → RS K ix Fr FX G' ρ' σ' H' → D.ct σ' H'
  | .rt r ρ' => ∀ G' σ' H' v, Sub G G' → RS K ix Fr FX G' ρ' σ' H' → VOk K Fr G' H' ρ' σ' r v → D.rt v H'
theorem FlP.mono {K : PySem.W.Frag} {ix : List Nat} {Fr : Hp} {FX : Nat → Option V} {G G1 : Hp} {fl : Fl} {D : Ends} (h : FlP K ix Fr FX G fl D) (s : Sub G G1) : FlP K ix Fr FX G1 fl D := by
  cases fl with
  | nx ρ => exact fun G' σ' H' s' => h G' σ' H' (s.trans s')
  | bk ρ => exact fun G' σ' H' s' => h G' σ' H' (s.trans s')
  | ct ρ => exact fun G' σ' H' s' => h G' σ' H' (s.trans s')
  | rt r ρ => exact fun G' σ' H' v s' => h G' σ' H' v (s.trans s')
def TS' (K : PySem.W.Frag) (ix : List Nat) (g : MS) : TS := fun D σ H => ∃ Fr FX G ρ fl, RS K ix Fr FX G ρ σ H ∧ g ρ = some fl ∧ FlP K ix Fr FX G fl D
/-- a target takes a shared value; its slots are among tis -/
def TG' (K : PySem.W.Frag) (ix tis : List Nat) (t : Dv → Rho → Option Rho) : TG := fun v σ H Q => ∃ Fr FX G ρ d ρ', RS K ix Fr FX G ρ σ H ∧ Dp K G v d ∧ t d ρ = some ρ' ∧
  ∀ G' σ' H', Sub G G' → (σ'.length = σ.length ∧ ∀ j, j ∉ tis → σ'[j]? = σ[j]?) → RS K ix Fr FX G' ρ' σ' H' → Q σ' H'
/-- an iterator gives just these items -/
def Jok (K : PySem.W.Frag) (G : Hp) (J : It) (ds : List Dv) : Prop := ∀ (i : Nat) (G1 H1 : Hp), Sub G G1 → (∀ a o, G1 a = some o → H1 a = some o) →
  (∀ d, ds[i]? = some d → J.go i H1 ∧ ∀ x H2, J.yld i H1 x H2 → (H2 = H1 ∧ Dp K G1 x d) ∨ ∃ p o, H1 p = none ∧ H2 = upd H1 p o ∧ Dp K (upd G1 p o) x d) ∧ (ds.length ≤ i → J.stop i H1)
def TI' (K : PySem.W.Frag) (ix : List Nat) (f : ML) : TI := fun σ H R => ∃ Fr FX G ρ ds ρ', RS K ix Fr FX G ρ σ H ∧ f ρ = some (ds, ρ') ∧
  ∀ J G' H', Sub G G' → RS K ix Fr FX G' ρ' σ H' → Jok K G' J ds → R J H'

/-! ### weakening -/
section
variable {X : Cx}
theorem pe_imp {e : Expr} {t t' : TE} (h : PE X e t) (k : ∀ σ H Q, t' σ H Q → t σ H Q) : PE X e t' := ⟨fun pins s σ H Q I q => h.run pins s σ H Q I (k _ _ _ q)⟩
theorem pt_imp {e : Expr} {t t' : TT} (h : PT X e t) (k : ∀ σ H Q, t' σ H Q → t σ H Q) : PT X e t' := ⟨fun pins s σ H Q I q => h.run pins s σ H Q I (k _ _ _ q)⟩
theorem pw_imp {e : Expr} {t t' : TT} (h : PW X e t) (k : ∀ σ H Q, t' σ H Q → t σ H Q) : PW X e t' := ⟨fun wh pins s σ H Q I q => h.run wh pins s σ H Q I (k _ _ _ q)⟩
theorem pts_imp {e : List Expr} {t t' : TT} (h : PTs X e t) (k : ∀ σ H Q, t' σ H Q → t σ H Q) : PTs X e t' := ⟨fun pins s σ H Q I q => h.run pins s σ H Q I (k _ _ _ q)⟩
theorem pa_imp {e : List Expr} {t t' : TA} (h : PA X e t) (k : ∀ σ H Q, t' σ H Q → t σ H Q) : PA X e t' := ⟨fun pos pins s σ H Q I q => h.run pos pins s σ H Q I (k _ _ _ q)⟩
theorem ps_imp {e : Stmt} {t t' : TS} (h : PS X e t) (k : ∀ D σ H, t' D σ H → t D σ H) : PS X e t' := ⟨fun pins s σ H D I q => h.run pins s σ H D I (k _ _ _ q)⟩
theorem pss_imp {e : List Stmt} {t t' : TS} (h : PSs X e t) (k : ∀ D σ H, t' D σ H → t D σ H) : PSs X e t' := ⟨fun pins s σ H D I q => h.run pins s σ H D I (k _ _ _ q)⟩
theorem pg_imp {e : Expr} {t t' : TG} (h : PG X e t) (k : ∀ v σ H Q, t' v σ H Q → t v σ H Q) : PG X e t' := ⟨fun pins s σ H v u Q I r q => h.run pins s σ H v u Q I r (k _ _ _ _ q)⟩
theorem pi_imp {tg e : Expr} {t t' : TI} (h : PI X tg e t) (k : ∀ σ H Q, t' σ H Q → t σ H Q) : PI X tg e t' := ⟨fun pins s σ H Q I q => h.run pins s σ H Q I (k _ _ _ q)⟩
theorem op_imp {f : Value → Value → Sem Value} {r r' : R2} (h : OpR X f r) (k : ∀ x y H Q, r' x y H Q → r x y H Q) : OpR X f r' := fun pins s σ H x y v u Q I rx ry q => h pins s σ H x y v u Q I rx ry (k _ _ _ _ q)
end

/-! ### views -/
def VD (K : PySem.W.Frag) (G H : Hp) : Dv → V → Prop
  | .list ds, v => ∃ a vs, v = .ref a ∧ SqL K H a vs ∧ DpAll K G vs ds
  | .dict kvs, v => (∃ a ks, v = .ref a ∧ Rd H a (.dK ks) ∧ DKV K G ks kvs) ∨ ∃ a ps kvs', v = .ref a ∧ Rd H a (tkO a ps) ∧ TKV K G ps kvs' ∧ kvs = (.none, .none) :: kvs'
  | d, v => Dp K G v d
section
variable {K : PySem.W.Frag} {ix : List Nat} {Fr G G' H H' : Hp} {FX : Nat → Option V} {ρ ρ' : Rho} {σ : L2.St}
theorem ct_vd {a : Addr} {o : Ob} (c : Ct K G H a o) : VD K G H (obD o) (.ref a) := by
  cases o with
  | lst ds => obtain ⟨vs, e, q⟩ := c; exact ⟨a, vs, rfl, .inl (.inl e), q⟩
  | dct kvs => obtain ⟨ks, e, q⟩ := c; exact .inl ⟨a, ks, rfl, .inl e, q⟩
  | dtn kvs => obtain ⟨ks, e, q⟩ := c; exact .inr ⟨a, ks, kvs, rfl, .inl e, q, rfl⟩
theorem cf_vd (gh : ∀ a o, G a = some o → H a = some o) {a : Addr} {o : Ob} (c : Cf K G a o) : VD K G H (obD o) (.ref a) := by
  cases o with
  | lst ds => exact False.elim c
  | dct kvs => obtain ⟨o, ks, e, q⟩ := c; exact .inl ⟨a, ks, rfl, .inr ⟨o, gh _ _ e⟩, q⟩
  | dtn kvs => obtain ⟨o, ks, e, q⟩ := c; exact .inr ⟨a, ks, kvs, rfl, .inr ⟨o, gh _ _ e⟩, q, rfl⟩
theorem dp_vd {d : Dv} {v : V} (gh : ∀ a o, G a = some o → H a = some o) (h : Dp K G v d) : VD K G H d v := by
  cases d with
  | list ds => cases h with | lst hs ha => exact ⟨_, _, rfl, (sub_le gh).sqL hs, ha⟩
  | dict kvs => cases h
  | none => exact h
  | bool b => exact h
  | int i => exact h
  | str x => exact h
  | tuple ds => exact h
theorem dat_vd (R : RS K ix Fr FX G ρ σ H) {r : Rv} {v : V} {d : Dv} (h : VOk K Fr G H ρ σ r v) (e : dat ρ r = some d) : VD K G H d v := by
  cases r with
  | sh d' => cases e; exact dp_vd R.gh h
  | ow o =>
    cases e
    obtain ⟨a, rfl, _, _, c, _⟩ := h
    exact ct_vd c
  | fd o =>
    cases e
    obtain ⟨a, rfl, c⟩ := h
    exact cf_vd R.gh c
  | al i =>
    unfold dat at e
    simp only at e
    split at e
    · rename_i o ho
      cases e
      obtain ⟨a, ea, _, _, c⟩ := R.sl i _ ho
      have h' : σ[i]? = some (some v) := h
      rw [ea] at h'
      cases h'
      exact ct_vd c
    · cases e
/-- not one with tuple keys -/
def plD : List (Dv × Dv) → Bool
  | (.none, _) :: _ => false
  | _ => true
theorem vd_dk {kvs : List (Dv × Dv)} {v : V} (h : VD K G H (.dict kvs) v) (hp : plD kvs = true) : ∃ a ks, v = .ref a ∧ Rd H a (.dK ks) ∧ DKV K G ks kvs := by
  rcases h with h | ⟨a, ps, kvs', _, _, _, e⟩
  · exact h
  · subst e
    cases hp
theorem vd_dp {d : Dv} {v : V} (gh : ∀ a o, G a = some o → H a = some o) (h : VD K G H d v) (nd : ∀ kvs, d ≠ .dict kvs) : Dp K H v d := by
  cases d with
  | list ds => obtain ⟨a, vs, rfl, hs, ha⟩ := h; exact .lst hs (dpAll_mono (sub_le gh) _ _ ha)
  | dict kvs => exact absurd rfl (nd kvs)
  | none => exact dp_mono (sub_le gh) _ _ h
  | bool b => exact dp_mono (sub_le gh) _ _ h
  | int i => exact dp_mono (sub_le gh) _ _ h
  | str x => exact dp_mono (sub_le gh) _ _ h
  | tuple ds => exact dp_mono (sub_le gh) _ _ h

/-! ### results of one step -/
inductive Ext (G H : Hp) : Hp → Hp → Prop
  | same : Ext G H G H
  | shr (p : Addr) (o : HO) : H p = none → Ext G H (upd G p o) (upd H p o)
def Res (K : PySem.W.Frag) (G H : Hp) (Q : VK) : Rz → Prop
  | .sh d => ∀ v G' H', Ext G H G' H' → Dp K G' v d → Q v H'
  | .ow o => ∀ p u, H p = none → Ct K G (upd H p u) p o → Q (.ref p) (upd H p u)
theorem res_ok (R : RS K ix Fr FX G ρ σ H) {r : Rz} {Q : VK} (k : ∀ v G' H', Sub G G' → RS K ix Fr FX G' ρ σ H' → VOk K Fr G' H' ρ σ r.rv v → Q v H') : Res K G H Q r := by
  cases r with
  | sh d =>
    intro v G' H' x h
    cases x with
    | same => exact k v G H (Sub.refl _) R h
    | shr p o hp => exact k v _ _ (sub_upd (R.none_of hp).1) (R.newG hp) h
  | ow o =>
    intro p u hp c
    exact k _ G _ (Sub.refl _) (R.newH hp) ⟨p, rfl, (R.none_of hp).1, (R.none_of hp).2, c, R.notIn hp⟩
theorem res_int {Q : VK} {i : Int} (h : Res K G H Q (.sh (.int i))) : Q (.int i) H := h _ _ _ .same (.int i)
theorem res_bl {Q : VK} {i : Bool} (h : Res K G H Q (.sh (.bool i))) : Q (.bl i) H := h _ _ _ .same (.bl i)
theorem res_str {Q : VK} {i : Str} (h : Res K G H Q (.sh (.str i))) : Q (.str i) H := h _ _ _ .same (.str i)
theorem res_non {Q : VK} (h : Res K G H Q (.sh .none)) : Q .non H := h _ _ _ .same .non
theorem res_val {Q : VK} {d : Dv} {v : V} (h : Res K G H Q (.sh d)) (q : Dp K G v d) : Q v H := h _ _ _ .same q
theorem res_tup {Q : VK} {ds : List Dv} {vs : List V} {p : Addr} (h : Res K G H Q (.sh (.tuple ds))) (g : G p = none) (hp : H p = none) (q : DpAll K G vs ds) : Q (.ref p) (upd H p (.tup vs)) :=
  h _ _ _ (.shr p _ hp) (.tup (.inl (.inl upd_same)) (dpAll_mono (sub_upd g) _ _ q))
theorem res_lst {Q : VK} {ds : List Dv} {vs : List V} {p : Addr} (h : Res K G H Q (.ow (.lst ds))) (hp : H p = none) (q : DpAll K G vs ds) : Q (.ref p) (upd H p (.lst vs)) :=
  h p _ hp ⟨vs, upd_same, q⟩
theorem g_none (gh : ∀ a o, G a = some o → H a = some o) {p : Addr} (h : H p = none) : G p = none := by
  cases e : G p with
  | none => rfl
  | some o => have := gh p o e; rw [h] at this; cases this
end

/-! ### values of one, two, several operands, by data -/
/-- a two-place rule by data -/
def R2d (K : PySem.W.Frag) (g : Dv → Dv → Option Rz) : R2 := fun x y H Q => ∃ G d e r, (∀ a o, G a = some o → H a = some o) ∧ VD K G H d x ∧ VD K G H e y ∧ g d e = some r ∧ Res K G H Q r
def OpD (X : Cx) (f : Value → Value → Sem Value) (g : Dv → Dv → Option Rz) : Prop := OpR X f (R2d X.K g)
inductive VDs (K : PySem.W.Frag) (G H : Hp) : List Dv → List V → Prop
  | nil : VDs K G H [] []
  | cons {d : Dv} {v : V} {ds : List Dv} {vs : List V} : VD K G H d v → VDs K G H ds vs → VDs K G H (d :: ds) (v :: vs)
def RCd (K : PySem.W.Frag) (g : List Dv → Option Rz) : List V → Hp → VK → Prop := fun xs H Q => ∃ G ds r, (∀ a o, G a = some o → H a = some o) ∧ VDs K G H ds xs ∧ g ds = some r ∧ Res K G H Q r
def CallD (X : Cx) (f : Value) (g : List Dv → Option Rz) : Prop := CallR X f (RCd X.K g)
def IxD (X : Cx) (g : Dv → Dv → Option Rz) : Prop := IxR X (R2d X.K g)

/-! ### expressions -/
def eVar (i : Nat) : M := fun ρ => match ρ[i]? with
  | some (.sh d) => some (.sh d, ρ)
  | some (.ow _) => some (.al i, ρ)
  | some (.fd o) => some (.fd o, ρ)
  | _ => none
def eC (d : Dv) : M := fun ρ => some (.sh d, ρ)
/-- a new list that nobody holds is shared -/
def pkM (f : M) : M := fun ρ => (f ρ).bind fun x => match x.1 with
  | .ow (.lst ds) => some (.sh (.list ds), x.2)
  | _ => some x
/-- whatever it is, it is shared -/
def frM (f : M) : M := fun ρ => (f ρ).bind fun x => match x.1 with
  | .sh d => some (.sh d, x.2)
  | .ow (.lst ds) => some (.sh (.list ds), x.2)
  | .ow _ => none
  | .al i => match x.2[i]? with
    | some (.ow (.lst ds)) => some (.sh (.list ds), x.2.set i (.sh (.list ds)))
    | _ => none
  | .fd _ => none
def binS (g : Dv → Dv → Option Rz) (fa fb : M) : M := fun ρ => (pkM fa ρ).bind fun x => (pkM fb x.2).bind fun y =>
  (dat y.2 x.1).bind fun d => (dat y.2 y.1).bind fun e => (g d e).bind fun r => some (r.rv, y.2)
def unS (g : Dv → Option Rz) (fa : M) : M := fun ρ => (fa ρ).bind fun x => (dat x.2 x.1).bind fun d => (g d).bind fun r => some (r.rv, x.2)
section
variable {X : Cx} {ix : List Nat} {e a b c : Expr} {f fa fb fc : M} {pos : Pos}
theorem de_var (i : Nat) {x : Str} (hN : X.N[i]? = some x := by rfl) (hv : Vis X.env.scope x := by first | exact Or.inl rfl | exact Or.inr (Or.inl rfl) | exact Or.inr (Or.inr rfl)) (hd : (x == ("__debug__" : Str)) = false := by decide)
    (hcd : (x == ("__classdict__" : Str)) = false := by decide) : PE X (.Name x pos) (TE' X.K ix (eVar i)) := by
  refine pe_imp (pe_var hN hv hd hcd) fun σ H Q ⟨Fr, FX, G, ρ, r, ρ', R, hf, k⟩ => ?_
  unfold eVar at hf
  split at hf
  · rename_i d hd'
    cases hf
    obtain ⟨v, ev, q⟩ := R.sl i _ hd'
    exact ⟨v, ev, k v G H (Sub.refl _) R q⟩
  · rename_i o ho
    cases hf
    obtain ⟨a, ev, _⟩ := R.sl i _ ho
    exact ⟨_, ev, k _ G H (Sub.refl _) R ev⟩
  · rename_i o ho
    cases hf
    obtain ⟨a, ev, c⟩ := R.sl i _ ho
    exact ⟨_, ev, k _ G H (Sub.refl _) R ⟨a, rfl, c⟩⟩
  · cases hf
theorem de_c {v : V} {d : Dv} (h : PE X e (tC v)) (q : ∀ G, Dp X.K G v d) : PE X e (TE' X.K ix (eC d)) :=
  pe_imp h fun σ H Q ⟨Fr, FX, G, ρ, r, ρ', R, hf, k⟩ => by
    unfold eC at hf
    cases hf
    exact k v G H (Sub.refl _) R (q G)
theorem de_int {i : Int} {j} : PE X (.Constant (.int i) j pos) (TE' X.K ix (eC (.int i))) := de_c pe_int fun _ => .int i
theorem de_bl {i : Bool} {j} : PE X (.Constant (.bool i) j pos) (TE' X.K ix (eC (.bool i))) := de_c pe_bl fun _ => .bl i
theorem de_non {j} : PE X (.Constant .none j pos) (TE' X.K ix (eC .none)) := de_c pe_non fun _ => .non
theorem de_str {x : Str} {j} : PE X (.Constant (.str x) j pos) (TE' X.K ix (eC (.str x))) := de_c pe_str fun _ => .str x
theorem vok_share {Fr G H : Hp} {FX : Nat → Option V} {ρ : Rho} {σ : L2.St} {K : PySem.W.Frag} {ds : List Dv} {v : V} (R : RS K ix Fr FX G ρ σ H) (h : VOk K Fr G H ρ σ (.ow (.lst ds)) v) :
    ∃ G', Sub G G' ∧ RS K ix Fr FX G' ρ σ H ∧ Dp K G' v (.list ds) := by
  obtain ⟨a, rfl, g, fr, ⟨vs, hv, q⟩, hn⟩ := h
  exact ⟨upd G a (.lst vs), sub_upd g, R.share hv g fr hn, .lst (.inl (.inl upd_same)) (dpAll_mono (sub_upd g) _ _ q)⟩
theorem pk_ok {σ : L2.St} {H : Hp} {Q : VK} (h : TE' X.K ix (pkM f) σ H Q) : TE' X.K ix f σ H Q := by
  obtain ⟨Fr, FX, G, ρ, r, ρ', R, hf, k⟩ := h
  unfold pkM at hf
  obtain ⟨⟨r0, ρ0⟩, h0, hf⟩ := Option.bind_eq_some_iff.mp hf
  refine ⟨Fr, FX, G, ρ, r0, ρ0, R, h0, fun v G' H' s R' q => ?_⟩
  simp only at hf
  split at hf
  · cases hf
    obtain ⟨G2, s2, R2, q2⟩ := vok_share R' q
    exact k v G2 H' (s.trans s2) R2 q2
  · cases hf
    exact k v G' H' s R' q
theorem de_pk (h : PE X e (TE' X.K ix f)) : PE X e (TE' X.K ix (pkM f)) := pe_imp h fun _ _ _ => pk_ok
theorem fr_ok {σ : L2.St} {H : Hp} {Q : VK} (h : TE' X.K ix (frM f) σ H Q) : TE' X.K ix f σ H Q := by
  obtain ⟨Fr, FX, G, ρ, r, ρ', R, hf, k⟩ := h
  unfold frM at hf
  obtain ⟨⟨r0, ρ0⟩, h0, hf⟩ := Option.bind_eq_some_iff.mp hf
  refine ⟨Fr, FX, G, ρ, r0, ρ0, R, h0, fun v G' H' s R' q => ?_⟩
  simp only at hf
  split at hf
  · cases hf
    exact k v G' H' s R' q
  · cases hf
    obtain ⟨G2, s2, R2, q2⟩ := vok_share R' q
    exact k v G2 H' (s.trans s2) R2 q2
  · cases hf
  · rename_i i
    split at hf
    · rename_i ds hi
      cases hf
      obtain ⟨a, ev, g, fr, ⟨vs, hv, qv⟩⟩ := R'.sl i _ hi
      have e' : σ[i]? = some (some v) := q
      rw [ev] at e'
      cases e'
      have hx : Dp X.K (upd G' a (.lst vs)) (.ref a) (.list ds) := .lst (.inl (.inl upd_same)) (dpAll_mono (sub_upd g) _ _ qv)
      have hl : i < ρ0.length := (List.getElem?_eq_some_iff.mp hi).1
      have W : RS X.K ix Fr FX G' (ρ0.set i .no) σ H' := R'.weak (i := i) (s := .no) trivial (fun o z => nomatch z)
      have S := W.share hv g fr fun j o' e1 e2 => by
        by_cases hj : i = j
        · subst hj
          rw [List.getElem?_set_self hl] at e1
          cases e1
        · rw [List.getElem?_set_ne hj] at e1
          exact R'.sep i j a _ o' hj hi e1 ev e2
      have S2 := S.weak (i := i) (s := .sh (.list ds)) ⟨_, ev, hx⟩ (fun o z => nomatch z)
      rw [List.set_set] at S2
      exact k _ _ H' (s.trans (sub_upd g)) S2 hx
    · cases hf
  · cases hf
theorem de_fr (h : PE X e (TE' X.K ix f)) : PE X e (TE' X.K ix (frM f)) := pe_imp h fun _ _ _ => fr_ok
theorem pk_noow {ρ ρ' : Rho} {r : Rv} (h : pkM f ρ = some (r, ρ')) : ∀ ds, r ≠ .ow (.lst ds) := fun ds e => by
  subst e
  unfold pkM at h
  obtain ⟨⟨r0, ρ0⟩, h0, hf⟩ := Option.bind_eq_some_iff.mp h
  simp only at hf
  split at hf
  · cases hf
  · rename_i hn
    cases hf
    exact hn ds rfl
/-- an operand's view stands while a later one is evaluated -/
theorem vok_keep {K : PySem.W.Frag} {Fr G H G' H' : Hp} {FX : Nat → Option V} {ρ ρ' : Rho} {σ : L2.St} {r : Rv} {v : V} (h : VOk K Fr G H ρ σ r v) (s : Sub G G') (n : ∀ o, r ≠ .ow o) : VOk K Fr G' H' ρ' σ r v := by
  cases r with
  | sh d => exact dp_mono s _ _ h
  | fd o => obtain ⟨a, e, c⟩ := h; exact ⟨a, e, c.mono s⟩
  | al i => exact h
  | ow o => exact absurd rfl (n o)
/-- .. if need be, framed -/
theorem RS.frame {K : PySem.W.Frag} {Fr G H : Hp} {FX : Nat → Option V} {ρ : Rho} {σ : L2.St} {p : Addr} {u : HO} (R : RS K ix Fr FX G ρ σ H) (g : G p = none) (hu : H p = some u) (hn : ∀ (i : Nat) (o' : Ob), ρ[i]? = some (.ow o') → σ[i]? ≠ some (some (.ref p))) :
    RS K ix (upd Fr p u) FX G ρ σ H := by
  refine ⟨R.gh, fun a o e => ?_, fun a n => ?_, R.len, fun i s e => ?_, R.sep, R.fx⟩
  · by_cases ha : a = p
    · subst ha; rw [upd_same] at e; rw [hu]; exact e
    · rw [upd_ne ha] at e; exact R.fh a o e
  · by_cases ha : a = p
    · subst ha; exact g
    · rw [upd_ne ha] at n; exact R.gf a n
  · have h := R.sl i s e
    cases s with
    | no => trivial
    | sh d => exact h
    | fd o => exact h
    | ow o =>
      obtain ⟨a, e1, g1, f1, c1⟩ := h
      have ha : a ≠ p := fun z => by subst z; exact hn i o e e1
      exact ⟨a, e1, g1, by rw [upd_ne ha]; exact f1, c1⟩
theorem RS.unframe {K : PySem.W.Frag} {Fr G H : Hp} {FX : Nat → Option V} {ρ : Rho} {σ : L2.St} {p : Addr} {u : HO} (R : RS K ix (upd Fr p u) FX G ρ σ H) (f0 : Fr p = none) : RS K ix Fr FX G ρ σ H := by
  have le : ∀ a o, Fr a = some o → (upd Fr p u) a = some o := fun a o e => by
    have ha : a ≠ p := fun z => by subst z; rw [f0] at e; cases e
    rw [upd_ne ha]; exact e
  refine ⟨R.gh, fun a o e => R.fh a o (le a o e), fun a n => ?_, R.len, fun i s e => ?_, R.sep, R.fx⟩
  · refine R.gf a fun z => ?_
    cases e : Fr a with
    | none => exact n e
    | some o => rw [le a o e] at z; cases z
  · have h := R.sl i s e
    cases s with
    | no => trivial
    | sh d => exact h
    | fd o => exact h
    | ow o =>
      obtain ⟨a, e1, g1, f1, c1⟩ := h
      refine ⟨a, e1, g1, ?_, c1⟩
      cases e : Fr a with
      | none => rfl
      | some o => rw [le a o e] at f1; cases f1
/-- one operand, then another: an owned new object waits in the frame -/
theorem hold2 {tb : TE} {σ : L2.St} {H : Hp} {K : PySem.W.Frag} {Fr G : Hp} {FX : Nat → Option V} {ρ ρ1 : Rho} {r s : Rv} {x : V} {R : V → Hp → Prop}
    (R1 : RS K ix Fr FX G ρ σ H) (v1 : VOk K Fr G H ρ σ r x) (hb : fb ρ = some (s, ρ1))
    (k : ∀ y G2 H2, Sub G G2 → RS K ix Fr FX G2 ρ1 σ H2 → VOk K Fr G2 H2 ρ1 σ r x → VOk K Fr G2 H2 ρ1 σ s y → (∀ o o' a, r = .ow o → x = .ref a → s = .ow o' → y ≠ .ref a) → R y H2) :
    TE' K ix fb σ H R := by
  cases r with
  | sh d => exact ⟨Fr, FX, G, ρ, s, ρ1, R1, hb, fun y G2 H2 su R2 v2 => k y G2 H2 su R2 (dp_mono su _ _ v1) v2 (fun o o' a z => nomatch z)⟩
  | al i => exact ⟨Fr, FX, G, ρ, s, ρ1, R1, hb, fun y G2 H2 su R2 v2 => k y G2 H2 su R2 v1 v2 (fun o o' a z => nomatch z)⟩
  | fd o => exact ⟨Fr, FX, G, ρ, s, ρ1, R1, hb, fun y G2 H2 su R2 v2 => k y G2 H2 su R2 (let ⟨a, e, c⟩ := v1; ⟨a, e, c.mono su⟩) v2 (fun o o' a z => nomatch z)⟩
  | ow o =>
    obtain ⟨p, rfl, g, f0, c, hn⟩ := v1
    obtain ⟨u, hu⟩ := c.some
    refine ⟨upd Fr p u, FX, G, ρ, s, ρ1, R1.frame g hu hn, hb, fun y G2 H2 su R2 v2 => ?_⟩
    have g2 : G2 p = none := R2.gf p (by rw [upd_same]; simp)
    have h2 : H2 p = H p := (R2.fh p u upd_same).trans hu.symm
    refine k y G2 H2 su (R2.unframe f0) ⟨p, rfl, g2, f0, c.mono su h2, fun i o' e e1 => ?_⟩ ?_ ?_
    · obtain ⟨a, e2, _, f2, _⟩ := R2.sl i _ e
      rw [e1] at e2
      cases e2
      rw [upd_same] at f2
      cases f2
    · cases s with
      | sh d => exact v2
      | fd d => exact v2
      | al i => exact v2
      | ow o' =>
        obtain ⟨q, rfl, g', f', c', hn'⟩ := v2
        have hq : q ≠ p := fun z => by subst z; rw [upd_same] at f'; cases f'
        rw [upd_ne hq] at f'
        exact ⟨q, rfl, g', f', c', hn'⟩
    · intro o1 o2 a e1 e2 e3 e4
      cases e2
      subst e3
      obtain ⟨q, e5, g', f', _⟩ := v2
      rw [e4] at e5
      cases e5
      rw [upd_same] at f'
      cases f'
theorem bin_ok {tr : R2} {g : Dv → Dv → Option Rz} {σ : L2.St} {H : Hp} {Q : VK} (h : TE' X.K ix (binS g fa fb) σ H Q) (k : ∀ x y H2, R2d X.K g x y H2 Q → tr x y H2 Q) :
    tOp tr (TE' X.K ix (pkM fa)) (TE' X.K ix (pkM fb)) σ H Q := by
  obtain ⟨Fr, FX, G, ρ, r, ρ', R, hf, kk⟩ := h
  unfold binS at hf
  obtain ⟨⟨r1, ρ1⟩, h1, hf⟩ := Option.bind_eq_some_iff.mp hf
  obtain ⟨⟨r2, ρ2⟩, h2, hf⟩ := Option.bind_eq_some_iff.mp hf
  obtain ⟨d, h3, hf⟩ := Option.bind_eq_some_iff.mp hf
  obtain ⟨e, h4, hf⟩ := Option.bind_eq_some_iff.mp hf
  obtain ⟨rr, h5, hf⟩ := Option.bind_eq_some_iff.mp hf
  cases hf
  refine ⟨Fr, FX, G, ρ, r1, ρ1, R, h1, fun x G1 H1 s1 R1 v1 => ?_⟩
  refine hold2 (tb := TE' X.K ix (pkM fb)) R1 v1 h2 fun y G2 H2 s2 R2 w1 w2 _ => ?_
  exact k x y H2 ⟨G2, d, e, rr, R2.gh, dat_vd R2 w1 h3, dat_vd R2 w2 h4, h5, res_ok R2 fun v G' H' s3 R3 v3 => kk v G' H' ((s1.trans s2).trans s3) R3 v3⟩
theorem de_bin {op : Operator} {g : Dv → Dv → Option Rz} (ho : OpD X (binaryOp op) g) (ha : PE X a (TE' X.K ix fa)) (hb : PE X b (TE' X.K ix fb)) : PE X (.BinOp a op b pos) (TE' X.K ix (binS g fa fb)) :=
  pe_imp (pe_op ho (de_pk ha) (de_pk hb)) fun σ H Q h => bin_ok h fun _ _ _ q => q
theorem de_cmp {op : CmpOp} {g : Dv → Dv → Option Rz} (ho : OpD X (compareOp op) g) (ha : PE X a (TE' X.K ix fa)) (hb : PE X b (TE' X.K ix fb)) (hm : behindInMarks op b = false := by first | exact nomark _ | rfl) : PE X (.Compare a [op] [b] pos) (TE' X.K ix (binS g fa fb)) :=
  pe_imp (pe_cmpR ho (de_pk ha) (de_pk hb) hm) fun σ H Q h => bin_ok h fun _ _ _ q => q
theorem de_ix {g : Dv → Dv → Option Rz} (hr : IxD X g) (ha : PE X a (TE' X.K ix fa)) (hb : PE X b (TE' X.K ix fb)) (hs : PlainIx b := by exact fun _ _ => rfl) : PE X (.Subscript a b pos) (TE' X.K ix (binS g fa fb)) :=
  pe_imp (pe_ix hr (de_pk ha) (de_pk hb) hs) fun σ H Q h => bin_ok h fun _ _ _ q => q
end
end DL

set_option Elab.async false
set_option linter.all false
set_option autoImplicit false
set_option maxRecDepth 100000
namespace DL
open PySem PySem.Spec PyProof.Rows L2

/-! ### operators by data -/
def addD : Dv → Dv → Option Rz
  | .int i, .int j => some (.sh (.int (i + j)))
  | .str x, .str y => if x.length + y.length ≤ sizeLine then some (.sh (.str (x ++ y))) else none
  | .tuple xs, .tuple ys => if xs.length + ys.length ≤ sizeLine then some (.sh (.tuple (xs ++ ys))) else none
  | .list xs, .list ys => if xs.length + ys.length ≤ sizeLine then some (.ow (.lst (xs ++ ys))) else none
  | _, _ => none
def subD : Dv → Dv → Option Rz
  | .int i, .int j => some (.sh (.int (i - j)))
  | _, _ => none
def mulD : Dv → Dv → Option Rz
  | .int i, .int j => if (-(18446744073709551616) < i ∧ i < 18446744073709551616) ∨ (-(18446744073709551616) < j ∧ j < 18446744073709551616) then some (.sh (.int (i * j))) else none
  | .list xs, .int k => if -(9223372036854775808) ≤ k ∧ k < 9223372036854775808 ∧ xs.length * k.toNat ≤ sizeLine then some (.ow (.lst (List.replicate k.toNat xs).flatten)) else none
  | .tuple xs, .int k => if xs ≠ [] ∧ 2 ≤ k ∧ k ≤ 1000 ∧ xs.length ≤ 1000 then some (.sh (.tuple (List.replicate k.toNat xs).flatten)) else none
  | _, _ => none
def divD : Dv → Dv → Option Rz
  | .int i, .int j => if 0 < j ∧ j < 1073741824 then some (.sh (.int (i / j))) else none
  | _, _ => none
def modD : Dv → Dv → Option Rz
  | .int i, .int j => if 0 < j then some (.sh (.int (i % j))) else none
  | _, _ => none
def powD : Dv → Dv → Option Rz
  | .int i, .int j => if 0 ≤ j ∧ j ≤ 1000000 ∧ i.natAbs < 2 ^ 64 then some (.sh (.int (i ^ j.toNat))) else none
  | _, _ => none
def shlD : Dv → Dv → Option Rz
  | .int i, .int j => if 0 ≤ j ∧ j ≤ 1000000 ∧ i.natAbs < 2 ^ 64 then some (.sh (.int (i * 2 ^ j.toNat))) else none
  | _, _ => none
def shrD : Dv → Dv → Option Rz
  | .int i, .int j => if 0 ≤ j then some (.sh (.int (i / 2 ^ j.toNat))) else none
  | _, _ => none
def bitD (g : Int → Int → Int) : Dv → Dv → Option Rz
  | .int i, .int j => some (.sh (.int (g i j)))
  | _, _ => none
def cmpD (g : Int → Int → Bool) : Dv → Dv → Option Rz
  | .int i, .int j => some (.sh (.bool (g i j)))
  | _, _ => none
def eqD : Dv → Dv → Option Bool
  | .int i, .int j => some (decide (i = j))
  | .str i, .str j => some (decide (i = j))
  | d, e => if SeqAt.shaped d = true ∧ SeqAt.shaped e = true then some (PyData.eqv d e) else none
def eqqD (d e : Dv) : Option Rz := (eqD d e).map fun b => .sh (.bool b)
def neqD (d e : Dv) : Option Rz := (eqD d e).map fun b => .sh (.bool (!b))
def isNone : Dv → Bool
  | .none => true
  | _ => false
def isND (d e : Dv) : Option Rz := if isNone e = true then some (.sh (.bool (isNone d))) else none
def notND (d e : Dv) : Option Rz := if isNone e = true then some (.sh (.bool (!isNone d))) else none
/-- x in c, c a list or a tuple -/
def inSeq (d : Dv) : Dv → Option Bool
  | .list ds => if SeqAt.shaped d = true ∧ SeqAt.shaped (.list ds) = true then some (ds.any fun z => PyData.eqv z d) else none
  | .tuple ds => if SeqAt.shaped d = true ∧ SeqAt.shaped (.tuple ds) = true then some (ds.any fun z => PyData.eqv z d) else none
  | _ => none
def inSD (d e : Dv) : Option Rz := (inSeq d e).map fun b => .sh (.bool b)
def ninSD (d e : Dv) : Option Rz := (inSeq d e).map fun b => .sh (.bool (!b))
def ixD : Dv → Dv → Option Rz
  | .list ds, .int i => (atI ds i).map .sh
  | .tuple ds, .int i => (atI ds i).map .sh
  | .str z, .int i => if z.length ≤ sizeLine then (atI z.cps.toList i).map fun c => .sh (.str ⟨#[c]⟩) else none
  | _, _ => none

section
variable {X : Cx}
theorem vd_int {K : PySem.W.Frag} {G H : Hp} {i : Int} {v : V} (h : VD K G H (.int i) v) : v = .int i := by
  have h' : Dp K G v (.int i) := h
  cases h'
  rfl
theorem vd_bool {K : PySem.W.Frag} {G H : Hp} {i : Bool} {v : V} (h : VD K G H (.bool i) v) : v = .bl i := by
  have h' : Dp K G v (.bool i) := h
  cases h'
  rfl
theorem vd_str {K : PySem.W.Frag} {G H : Hp} {i : Str} {v : V} (h : VD K G H (.str i) v) : v = .str i := by
  have h' : Dp K G v (.str i) := h
  cases h'
  rfl
theorem vd_none {K : PySem.W.Frag} {G H : Hp} {v : V} (h : VD K G H .none v) : v = .non := by
  have h' : Dp K G v .none := h
  cases h'
  rfl
theorem vd_list {K : PySem.W.Frag} {G H : Hp} {ds : List Dv} {v : V} (h : VD K G H (.list ds) v) : ∃ a vs, v = .ref a ∧ SqL K H a vs ∧ DpAll K G vs ds := h
theorem vd_tup {K : PySem.W.Frag} {G H : Hp} {ds : List Dv} {v : V} (gh : ∀ a o, G a = some o → H a = some o) (h : VD K G H (.tuple ds) v) : ∃ a vs, v = .ref a ∧ SqT K G a vs ∧ SqT K H a vs ∧ DpAll K G vs ds := by
  have h' : Dp K G v (.tuple ds) := h
  cases h' with
  | tup hs ha => exact ⟨_, _, rfl, hs, (sub_le gh).sqT hs, ha⟩
/-- ints -/
theorem opd_int {f : Value → Value → Sem Value} {r : R2} {g : Dv → Dv → Option Rz} (ho : OpR X f r) (hg : ∀ d e z, g d e = some z → ∃ i j, d = .int i ∧ e = .int j)
    (k : ∀ i j z G H Q, g (.int i) (.int j) = some z → Res X.K G H Q z → r (.int i) (.int j) H Q) : OpD X f g := by
  refine op_imp ho fun x y H Q ⟨G, d, e, z, gh, vx, vy, hz, q⟩ => ?_
  obtain ⟨i, j, rfl, rfl⟩ := hg d e z hz
  rw [vd_int vx, vd_int vy]
  exact k i j z G H Q hz q
theorem sub_d : OpD X (binaryOp .Sub) subD := opd_int op_sub (fun d e z h => by unfold subD at h; split at h <;> first | exact ⟨_, _, rfl, rfl⟩ | cases h) fun i j z G H Q hz q => by
  simp only [subD, Option.some.injEq] at hz; subst hz; exact ⟨i, j, rfl, rfl, res_int q⟩
theorem isub_d : OpD X (inplaceOp .Sub) subD := opd_int iop_sub (fun d e z h => by unfold subD at h; split at h <;> first | exact ⟨_, _, rfl, rfl⟩ | cases h) fun i j z G H Q hz q => by
  simp only [subD, Option.some.injEq] at hz; subst hz; exact ⟨i, j, rfl, rfl, res_int q⟩
theorem div_d : OpD X (binaryOp .FloorDiv) divD := opd_int op_fdiv (fun d e z h => by unfold divD at h; split at h <;> first | exact ⟨_, _, rfl, rfl⟩ | cases h) fun i j z G H Q hz q => by
  unfold divD at hz
  simp only at hz
  split at hz
  · rename_i hc; cases hz; exact ⟨i, j, rfl, rfl, hc, res_int q⟩
  · cases hz
theorem mod_d : OpD X (binaryOp .Mod) modD := opd_int op_mod (fun d e z h => by unfold modD at h; split at h <;> first | exact ⟨_, _, rfl, rfl⟩ | cases h) fun i j z G H Q hz q => by
  unfold modD at hz
  simp only at hz
  split at hz
  · rename_i hc; cases hz; exact ⟨i, j, rfl, rfl, hc, res_int q⟩
  · cases hz
theorem pow_d : OpD X (binaryOp .Pow) powD := opd_int op_pow (fun d e z h => by unfold powD at h; split at h <;> first | exact ⟨_, _, rfl, rfl⟩ | cases h) fun i j z G H Q hz q => by
  unfold powD at hz
  simp only at hz
  split at hz
  · rename_i hc; cases hz; exact ⟨i, j, rfl, rfl, hc, res_int q⟩
  · cases hz
theorem shl_d : OpD X (binaryOp .LShift) shlD := opd_int op_shl (fun d e z h => by unfold shlD at h; split at h <;> first | exact ⟨_, _, rfl, rfl⟩ | cases h) fun i j z G H Q hz q => by
  unfold shlD at hz
  simp only at hz
  split at hz
  · rename_i hc; cases hz; exact ⟨i, j, rfl, rfl, hc, res_int q⟩
  · cases hz
theorem shr_d : OpD X (binaryOp .RShift) shrD := opd_int op_shr (fun d e z h => by unfold shrD at h; split at h <;> first | exact ⟨_, _, rfl, rfl⟩ | cases h) fun i j z G H Q hz q => by
  unfold shrD at hz
  simp only at hz
  split at hz
  · rename_i hc; cases hz; exact ⟨i, j, rfl, rfl, hc, res_int q⟩
  · cases hz
theorem bitD_inv {g : Int → Int → Int} : ∀ d e z, bitD g d e = some z → ∃ i j, d = .int i ∧ e = .int j := fun d e z h => by unfold bitD at h; split at h <;> first | exact ⟨_, _, rfl, rfl⟩ | cases h
theorem cmpD_inv {g : Int → Int → Bool} : ∀ d e z, cmpD g d e = some z → ∃ i j, d = .int i ∧ e = .int j := fun d e z h => by unfold cmpD at h; split at h <;> first | exact ⟨_, _, rfl, rfl⟩ | cases h
theorem and_d : OpD X (binaryOp .BitAnd) (bitD Builtin.bitAnd) := opd_int op_and bitD_inv fun i j z G H Q hz q => by cases hz; exact ⟨i, j, rfl, rfl, res_int q⟩
theorem or_d : OpD X (binaryOp .BitOr) (bitD Builtin.bitOr) := opd_int op_or bitD_inv fun i j z G H Q hz q => by cases hz; exact ⟨i, j, rfl, rfl, res_int q⟩
theorem xor_d : OpD X (binaryOp .BitXor) (bitD Builtin.bitXor) := opd_int op_xor bitD_inv fun i j z G H Q hz q => by cases hz; exact ⟨i, j, rfl, rfl, res_int q⟩
theorem ior_d : OpD X (inplaceOp .BitOr) (bitD Builtin.bitOr) := opd_int iop_or bitD_inv fun i j z G H Q hz q => by cases hz; exact ⟨i, j, rfl, rfl, res_int q⟩
theorem lt_d : OpD X (compareOp .Lt) (cmpD fun i j => decide (i < j)) := opd_int op_lt cmpD_inv fun i j z G H Q hz q => by cases hz; exact ⟨i, j, rfl, rfl, res_bl q⟩
theorem le_d : OpD X (compareOp .LtE) (cmpD fun i j => decide (i ≤ j)) := opd_int op_le cmpD_inv fun i j z G H Q hz q => by cases hz; exact ⟨i, j, rfl, rfl, res_bl q⟩
theorem gt_d : OpD X (compareOp .Gt) (cmpD fun i j => decide (j < i)) := opd_int op_gt cmpD_inv fun i j z G H Q hz q => by cases hz; exact ⟨i, j, rfl, rfl, res_bl q⟩
theorem ge_d : OpD X (compareOp .GtE) (cmpD fun i j => decide (j ≤ i)) := opd_int op_ge cmpD_inv fun i j z G H Q hz q => by cases hz; exact ⟨i, j, rfl, rfl, res_bl q⟩
/-- list + list, whatever list -/
def rCatS (K : PySem.W.Frag) : R2 := fun x y H Q => ∃ l b xs zs, x = .ref l ∧ y = .ref b ∧ SqL K H l xs ∧ SqL K H b zs ∧ xs.length + zs.length ≤ sizeLine ∧ ∀ p, H p = none → Q (.ref p) (upd H p (.lst (xs ++ zs)))
theorem inv_lst {pins : List (Addr × Obj)} {σ : L2.St} {H : Hp} {s : Shared} {l : Addr} {xs : List V} (I : Inv X pins σ H s) (h : SqL X.K H l xs) :
    ∃ (its : List Value) (n : Nat) (sl : Array (Option Value)), Vals xs its ∧ xs.length = its.length ∧ xs.length ≤ sizeLine ∧ s.heap.get? l = some { cls := .type "list", data := .seq its.toArray n, slots := sl } := by
  obtain ⟨its, r, ⟨o, n, e, hc, hd, hda⟩, hz⟩ := I.list h
  obtain ⟨cls, dd, data, sl⟩ := o
  simp only at hc hd hda
  subst hc hd hda
  exact ⟨its, n, sl, r, r.length, hz, e⟩
end
end DL

set_option Elab.async false
set_option linter.all false
set_option autoImplicit false
set_option maxRecDepth 100000
set_option maxHeartbeats 1000000
namespace DL
open PySem PySem.Spec PyProof.Rows L2

section
variable {X : Cx}
theorem op_catS : OpR X (binaryOp .Add) (rCatS X.K) := by
  intro pins s σ H x y v u Q I rx ry h
  obtain ⟨l, b, xs, zs, rfl, rfl, hH, hB, hz, q⟩ := h
  cases rx
  cases ry
  obtain ⟨its, n, sl, r, hl, z, e⟩ := inv_lst I hH
  obtain ⟨its2, n2, sl2, r2, hl2, z2, e2⟩ := inv_lst I hB
  have fits : (xs ++ zs).length ≤ sizeLine := by rw [List.length_append]; exact hz
  have got : Q (.ref s.heap.objs.size) (upd H s.heap.objs.size (.lst (xs ++ zs))) := q _ I.fresh
  have small : its.toArray.size + its2.toArray.size ≤ sizeLine := by simpa [hl, hl2] using hz
  have fin : EP X pins σ Q (.ref s.heap.objs.size) { s with heap := s.heap.push { cls := Value.type "list", data := Data.seq (its.toArray ++ its2.toArray) } } := by
    rw [show its.toArray ++ its2.toArray = (its ++ its2).toArray from List.append_toArray ..]
    exact ⟨.ref s.heap.objs.size, _, I.lnew (t' := s.toks) (r.append r2) fits, rfl, got⟩
  exact concat_meets ⟨_, e, rfl⟩ ⟨_, e2, rfl⟩ noFill_list_add seq_list_add PySem.F.slot_list_add PySem.F.entry_list_add (PySem.F.args_list_add_2 _ _) (list_addW l b its.toArray its2.toArray n n2 none none sl sl2 small) ⟨e, e2, fin⟩
theorem add_d : OpD X (binaryOp .Add) addD := by
  intro pins s σ H x y v u Q I rx ry h
  obtain ⟨G, d, e, z, gh, vx, vy, hz, q⟩ := h
  unfold addD at hz
  split at hz
  · cases hz
    rw [vd_int vx] at rx
    rw [vd_int vy] at ry
    exact op_add pins s σ H _ _ v u Q I rx ry ⟨_, _, rfl, rfl, res_int q⟩
  · rename_i x' y'
    split at hz
    · rename_i hc
      cases hz
      rw [vd_str vx] at rx
      rw [vd_str vy] at ry
      exact op_add_str pins s σ H _ _ v u Q I rx ry ⟨_, _, rfl, rfl, hc, res_str q⟩
    · cases hz
  · rename_i xs ys
    split at hz
    · rename_i hc
      cases hz
      obtain ⟨a, vs, rfl, g1, h1, p1⟩ := vd_tup gh vx
      obtain ⟨b, ws, rfl, g2, h2, p2⟩ := vd_tup gh vy
      have l1 := dpAll_length p1
      have l2 := dpAll_length p2
      refine op_catA pins s σ H _ _ v u Q I rx ry ⟨a, b, vs, ws, rfl, rfl, h1, h2, by omega, fun e0 => ?_, fun _ e0 => ?_, fun _ _ p hp => ?_⟩
      · subst e0
        have : xs = [] := List.eq_nil_of_length_eq_zero (by simpa using l1.symm)
        subst this
        exact res_val q (.tup g2 p2)
      · subst e0
        have : ys = [] := List.eq_nil_of_length_eq_zero (by simpa using l2.symm)
        subst this
        rw [List.append_nil] at q
        exact res_val q (.tup g1 p1)
      · exact res_tup q (g_none gh hp) hp (dpAll_append p1 p2)
    · cases hz
  · rename_i xs ys
    split at hz
    · rename_i hc
      cases hz
      obtain ⟨a, vs, rfl, h1, p1⟩ := vd_list vx
      obtain ⟨b, ws, rfl, h2, p2⟩ := vd_list vy
      have l1 := dpAll_length p1
      have l2 := dpAll_length p2
      exact op_catS pins s σ H _ _ v u Q I rx ry ⟨a, b, vs, ws, rfl, rfl, h1, h2, by omega, fun p hp => res_lst q hp (dpAll_append p1 p2)⟩
    · cases hz
  · cases hz
def iaddD : Dv → Dv → Option Rz
  | .int i, .int j => some (.sh (.int (i + j)))
  | _, _ => none
theorem iadd_d : OpD X (inplaceOp .Add) iaddD := opd_int iop_add (fun d e z h => by unfold iaddD at h; split at h <;> first | exact ⟨_, _, rfl, rfl⟩ | cases h) fun i j z G H Q hz q => by
  simp only [iaddD, Option.some.injEq] at hz; subst hz; exact ⟨i, j, rfl, rfl, res_int q⟩
def rRepS (K : PySem.W.Frag) : R2 := fun x y H Q => ∃ l k xs, x = .ref l ∧ y = .int k ∧ SqL K H l xs ∧ -(2 ^ 63) ≤ k ∧ k < 2 ^ 63 ∧ xs.length * k.toNat ≤ sizeLine ∧
  ∀ p, H p = none → Q (.ref p) (upd H p (.lst (List.replicate k.toNat xs).flatten))
theorem op_repS : OpR X (binaryOp .Mult) (rRepS X.K) := by
  intro pins s σ H x y v u Q I rx ry h
  obtain ⟨l, k, xs, rfl, rfl, hH, h1, h2, hz, q⟩ := h
  cases rx
  obtain ⟨t, rfl⟩ := ry
  obtain ⟨its, n, sl, r, hl, z, e⟩ := inv_lst I hH
  have cnt : its.toArray.size * k.toNat ≤ sizeLine := by
    rw [List.size_toArray, ← hl]
    exact hz
  have isL : s.TypeIs (.ref l) "list" := ⟨_, e, rfl⟩
  have isI := fun s' : Shared => typeIs_int s' k t
  have fin : EP X pins σ Q (.ref s.heap.objs.size) { s with heap := s.heap.push { cls := Value.type "list", data := Data.seq (List.foldl (fun x1 x2 => x1 ++ x2) #[] (List.replicate (if its.toArray.isEmpty = true then 0 else k.toNat) its.toArray)) }, toks := s.toks } := by
    rw [listMul_foldl_if]
    exact ⟨.ref s.heap.objs.size, _, I.lnew (t' := s.toks) (r.rep k.toNat) (by rw [lm_len_rep_flat, Nat.mul_comm]; exact hz), rfl, q _ I.fresh⟩
  have times := lm_list_mul_any l its.toArray n none sl k t (ne_true_of_eq_false (by rw [fitsIndex_both h1 h2]; rfl)) (Nat.not_lt.mpr (Nat.le_trans cnt (by decide))) (ne_true_of_eq_false (notLongL cnt))
  exact wpAny_binaryOp_repeat_ref (T := "list") (U := "int") (by decide) isL isI noFill_list_mul F.fills_int_mul F.slot_int_rmul repeat_list F.slot_int_index.lookup
    (call_meets F.slot_int_rmul (isI s) F.entry_int_rmul (F.args_int_rmul_2 _ _) (lm_int_rmul_list_any k t l its.toArray n none sl) ⟨e, rfl, isL, call_meets F.slot_list_mul isL F.entry_list_mul (F.args_list_mul_2 _ _) times ⟨e, fin⟩⟩)
theorem dpAll_rep {K : PySem.W.Frag} {G : Hp} {ds : List Dv} {vs : List V} (h : DpAll K G vs ds) : ∀ n : Nat, DpAll K G (List.replicate n vs).flatten (List.replicate n ds).flatten
  | 0 => by simp; exact .nil
  | n + 1 => by
    simp only [List.replicate_succ, List.flatten_cons]
    exact dpAll_append h (dpAll_rep h n)
theorem mul_d : OpD X (binaryOp .Mult) mulD := by
  intro pins s σ H x y v u Q I rx ry h
  obtain ⟨G, d, e, z, gh, vx, vy, hz, q⟩ := h
  unfold mulD at hz
  split at hz
  · split at hz
    · rename_i hc
      cases hz
      rw [vd_int vx] at rx
      rw [vd_int vy] at ry
      exact op_mul pins s σ H _ _ v u Q I rx ry ⟨_, _, rfl, rfl, hc, res_int q⟩
    · cases hz
  · split at hz
    · rename_i hc
      cases hz
      obtain ⟨a, vs, rfl, h1, p1⟩ := vd_list vx
      have l1 := dpAll_length p1
      rw [vd_int vy] at ry
      exact op_repS pins s σ H _ _ v u Q I rx ry ⟨a, _, vs, rfl, rfl, h1, hc.1, hc.2.1, by rw [l1]; exact hc.2.2, fun p hp => res_lst q hp (dpAll_rep p1 _)⟩
    · cases hz
  · split at hz
    · rename_i xs k hc
      cases hz
      obtain ⟨a, vs, rfl, g1, h1, p1⟩ := vd_tup gh vx
      have l1 := dpAll_length p1
      rw [vd_int vy] at ry
      refine op_repT pins s σ H _ _ v u Q I rx ry ⟨a, _, vs, rfl, rfl, h1, fun e0 => hc.1 ?_, hc.2.1, hc.2.2.1, by rw [l1]; exact hc.2.2.2, fun p hp => res_tup q (g_none gh hp) hp (dpAll_rep p1 _)⟩
      subst e0
      exact List.eq_nil_of_length_eq_zero (by simpa using l1.symm)
    · cases hz
  · cases hz
/-! ### == and != -/
theorem eqD_bool {d e : Dv} {b : Bool} (h : eqD d e = some b) : (∃ i j, d = .int i ∧ e = .int j ∧ b = decide (i = j)) ∨ (∃ i j, d = .str i ∧ e = .str j ∧ b = decide (i = j)) ∨ (SeqAt.shaped d = true ∧ SeqAt.shaped e = true ∧ b = PyData.eqv d e) := by
  unfold eqD at h
  split at h
  · exact .inl ⟨_, _, rfl, rfl, (Option.some.inj h).symm⟩
  · exact .inr (.inl ⟨_, _, rfl, rfl, (Option.some.inj h).symm⟩)
  · split at h
    · rename_i hc; exact .inr (.inr ⟨hc.1, hc.2, (Option.some.inj h).symm⟩)
    · cases h
theorem shaped_nodict {kvs : List (PyData × PyData)} : SeqAt.shaped (.dict kvs) = false := by
  unfold SeqAt.shaped
  simp [PyData.canLay0]
theorem nodict_of {d : Dv} (h : SeqAt.shaped d = true) : ∀ kvs, d ≠ .dict kvs := fun kvs e => by
  subst e
  rw [shaped_nodict] at h
  cases h
theorem eq_d (hu : X.A.units + 64 < cLine) : OpD X (compareOp .Eq) eqqD := by
  intro pins s σ H x y v u Q I rx ry h
  obtain ⟨G, d, e, z, gh, vx, vy, hz, q⟩ := h
  obtain ⟨b, hb, rfl⟩ := Option.map_eq_some_iff.mp hz
  rcases eqD_bool hb with ⟨i, j, rfl, rfl, rfl⟩ | ⟨i, j, rfl, rfl, rfl⟩ | ⟨h1, h2, rfl⟩
  · rw [vd_int vx] at rx
    rw [vd_int vy] at ry
    refine op_eq pins s σ H _ _ v u Q I rx ry ⟨rfl, ?_⟩
    have := res_bl q
    rw [dec_int, Bool.beq_eq_decide_eq]
    exact this
  · rw [vd_str vx] at rx
    rw [vd_str vy] at ry
    refine op_eq pins s σ H _ _ v u Q I rx ry ⟨rfl, ?_⟩
    have := res_bl q
    rw [dec_str]
    rw [show (i == j) = decide (i = j) by rw [Bool.eq_iff_iff]; simp]
    exact this
  · exact op_eqD hu pins s σ H _ _ v u Q I rx ry ⟨d, e, vd_dp gh vx (nodict_of h1), vd_dp gh vy (nodict_of h2), h1, h2, res_bl q⟩
theorem ne_d (hu : X.A.units + 64 < cLine) : OpD X (compareOp .NotEq) neqD := by
  intro pins s σ H x y v u Q I rx ry h
  obtain ⟨G, d, e, z, gh, vx, vy, hz, q⟩ := h
  obtain ⟨b, hb, rfl⟩ := Option.map_eq_some_iff.mp hz
  rcases eqD_bool hb with ⟨i, j, rfl, rfl, rfl⟩ | ⟨i, j, rfl, rfl, rfl⟩ | ⟨h1, h2, rfl⟩
  · rw [vd_int vx] at rx
    rw [vd_int vy] at ry
    refine op_ne pins s σ H _ _ v u Q I rx ry ⟨rfl, ?_⟩
    have := res_bl q
    rw [dec_int, Bool.beq_eq_decide_eq]
    exact this
  · rw [vd_str vx] at rx
    rw [vd_str vy] at ry
    refine op_ne pins s σ H _ _ v u Q I rx ry ⟨rfl, ?_⟩
    have := res_bl q
    rw [dec_str]
    rw [show (i == j) = decide (i = j) by rw [Bool.eq_iff_iff]; simp]
    exact this
  · exact op_neD hu pins s σ H _ _ v u Q I rx ry ⟨d, e, vd_dp gh vx (nodict_of h1), vd_dp gh vy (nodict_of h2), h1, h2, res_bl q⟩
theorem non_vd {K : PySem.W.Frag} {G H : Hp} {d : Dv} {v : V} (h : VD K G H d v) : decide (v = .non) = isNone d := by
  cases d with
  | none => rw [vd_none h]; rfl
  | bool b => rw [vd_bool h]; rfl
  | int b => rw [vd_int h]; rfl
  | str b => rw [vd_str h]; rfl
  | list b => obtain ⟨a, vs, rfl, _⟩ := vd_list h; rfl
  | tuple b =>
    have h' : Dp K G v (.tuple b) := h
    cases h' with | tup _ _ => rfl
  | dict b =>
    rcases h with ⟨a, vs, rfl, _⟩ | ⟨a, ps, kvs', rfl, _⟩ <;> rfl
theorem isNone_eq {d : Dv} (h : isNone d = true) : d = .none := by
  cases d <;> first | rfl | cases h
theorem is_d : OpD X (compareOp .Is) isND := by
  refine op_imp op_isN fun x y H Q ⟨G, d, e, z, gh, vx, vy, hz, q⟩ => ?_
  unfold isND at hz
  split at hz
  · rename_i hn
    cases hz
    rw [isNone_eq hn] at vy
    refine ⟨vd_none vy, ?_⟩
    rw [non_vd vx]
    exact res_bl q
  · cases hz
theorem isnot_d : OpD X (compareOp .IsNot) notND := by
  refine op_imp op_notN fun x y H Q ⟨G, d, e, z, gh, vx, vy, hz, q⟩ => ?_
  unfold notND at hz
  split at hz
  · rename_i hn
    cases hz
    rw [isNone_eq hn] at vy
    refine ⟨vd_none vy, ?_⟩
    rw [non_vd vx]
    exact res_bl q
  · cases hz
/-! ### in -/
def rInT (K : PySem.W.Frag) : R2 := fun x y H Q => ∃ d ds, Dp K H x d ∧ Dp K H y (.tuple ds) ∧ SeqAt.shaped d = true ∧ SeqAt.shaped (.tuple ds) = true ∧ Q (.bl (ds.any fun z => PyData.eqv z d)) H
def rNotInT (K : PySem.W.Frag) : R2 := fun x y H Q => ∃ d ds, Dp K H x d ∧ Dp K H y (.tuple ds) ∧ SeqAt.shaped d = true ∧ SeqAt.shaped (.tuple ds) = true ∧ Q (.bl (!ds.any fun z => PyData.eqv z d)) H
theorem op_inT (hu : X.A.units + 65 < cLine) : OpR X (compareOp .In) (rInT X.K) := by
  intro pins s σ H x y v u Q I rx ry h
  obtain ⟨d, ds, hd, he, sd, se, q⟩ := h
  obtain ⟨as, r1⟩ := Dp.reads I d x v hd rx
  obtain ⟨bs, r2⟩ := Dp.reads I (.tuple ds) y u he ry
  exact SeqAt.in_tuple_reads r2 r1 (SeqAt.canLay_of_shaped se) (SeqAt.canLay_of_shaped sd) (room_in_shaped sd hu) ⟨.bl _, H, I, rfl, q⟩
theorem op_notInT (hu : X.A.units + 65 < cLine) : OpR X (compareOp .NotIn) (rNotInT X.K) := by
  intro pins s σ H x y v u Q I rx ry h
  obtain ⟨d, ds, hd, he, sd, se, q⟩ := h
  obtain ⟨as, r1⟩ := Dp.reads I d x v hd rx
  obtain ⟨bs, r2⟩ := Dp.reads I (.tuple ds) y u he ry
  exact SeqAt.notIn_tuple_reads r2 r1 (SeqAt.canLay_of_shaped se) (SeqAt.canLay_of_shaped sd) (room_in_shaped sd hu) ⟨.bl _, H, I, rfl, q⟩
theorem inSeq_inv {d e : Dv} {b : Bool} (h : inSeq d e = some b) : (∃ ds, e = .list ds ∧ SeqAt.shaped d = true ∧ SeqAt.shaped (.list ds) = true ∧ b = ds.any fun z => PyData.eqv z d) ∨ (∃ ds, e = .tuple ds ∧ SeqAt.shaped d = true ∧ SeqAt.shaped (.tuple ds) = true ∧ b = ds.any fun z => PyData.eqv z d) := by
  unfold inSeq at h
  split at h
  · split at h
    · rename_i hc; exact .inl ⟨_, rfl, hc.1, hc.2, (Option.some.inj h).symm⟩
    · cases h
  · split at h
    · rename_i hc; exact .inr ⟨_, rfl, hc.1, hc.2, (Option.some.inj h).symm⟩
    · cases h
  · cases h
theorem in_d (hu : X.A.units + 65 < cLine) : OpD X (compareOp .In) inSD := by
  intro pins s σ H x y v u Q I rx ry h
  obtain ⟨G, d, e, z, gh, vx, vy, hz, q⟩ := h
  obtain ⟨b, hb, rfl⟩ := Option.map_eq_some_iff.mp hz
  rcases inSeq_inv hb with ⟨ds, rfl, h1, h2, rfl⟩ | ⟨ds, rfl, h1, h2, rfl⟩
  · exact op_inD hu pins s σ H _ _ v u Q I rx ry ⟨d, ds, vd_dp gh vx (nodict_of h1), vd_dp gh vy (nodict_of h2), h1, h2, res_bl q⟩
  · exact op_inT hu pins s σ H _ _ v u Q I rx ry ⟨d, ds, vd_dp gh vx (nodict_of h1), vd_dp gh vy (nodict_of h2), h1, h2, res_bl q⟩
theorem nin_d (hu : X.A.units + 65 < cLine) : OpD X (compareOp .NotIn) ninSD := by
  intro pins s σ H x y v u Q I rx ry h
  obtain ⟨G, d, e, z, gh, vx, vy, hz, q⟩ := h
  obtain ⟨b, hb, rfl⟩ := Option.map_eq_some_iff.mp hz
  rcases inSeq_inv hb with ⟨ds, rfl, h1, h2, rfl⟩ | ⟨ds, rfl, h1, h2, rfl⟩
  · exact op_notInD hu pins s σ H _ _ v u Q I rx ry ⟨d, ds, vd_dp gh vx (nodict_of h1), vd_dp gh vy (nodict_of h2), h1, h2, res_bl q⟩
  · exact op_notInT hu pins s σ H _ _ v u Q I rx ry ⟨d, ds, vd_dp gh vx (nodict_of h1), vd_dp gh vy (nodict_of h2), h1, h2, res_bl q⟩
/-! ### subscripts -/
theorem atI_dp {K : PySem.W.Frag} {G : Hp} {ds : List Dv} {vs : List V} {i : Int} {d : Dv} (p : DpAll K G vs ds) (h : atI ds i = some d) : ∃ v, atI vs i = some v ∧ Dp K G v d := by
  unfold atI at h ⊢
  rw [dpAll_length p]
  obtain ⟨j, hj, hd⟩ := Option.bind_eq_some_iff.mp h
  obtain ⟨v, hv, q⟩ := dpAll_get p hd
  exact ⟨v, by rw [hj]; exact hv, q⟩
theorem ix_d : IxD X ixD := by
  intro value slice pins s σ H x y v u Q I rx ry h hs
  obtain ⟨G, d, e, z, gh, vx, vy, hz, q⟩ := h
  unfold ixD at hz
  split at hz
  · obtain ⟨d', hd', rfl⟩ := Option.map_eq_some_iff.mp hz
    obtain ⟨a, vs, rfl, h1, p1⟩ := vd_list vx
    rw [vd_int vy] at ry
    obtain ⟨w, hw, qw⟩ := atI_dp p1 hd'
    exact ix_list value slice pins s σ H _ _ v u Q I rx ry ⟨a, vs, _, w, rfl, rfl, h1, hw, res_val q qw⟩ hs
  · obtain ⟨d', hd', rfl⟩ := Option.map_eq_some_iff.mp hz
    obtain ⟨a, vs, rfl, g1, h1, p1⟩ := vd_tup gh vx
    rw [vd_int vy] at ry
    obtain ⟨w, hw, qw⟩ := atI_dp p1 hd'
    exact ix_tup value slice pins s σ H _ _ v u Q I rx ry ⟨a, vs, _, w, rfl, rfl, h1, hw, res_val q qw⟩ hs
  · split at hz
    · rename_i hc
      obtain ⟨c, hc', rfl⟩ := Option.map_eq_some_iff.mp hz
      rw [vd_str vx] at rx
      rw [vd_int vy] at ry
      exact ix_str value slice pins s σ H _ _ v u Q I rx ry ⟨_, _, c, rfl, rfl, hc, hc', res_str q⟩ hs
    · cases hz
  · cases hz
end
end DL

set_option Elab.async false
set_option linter.all false
set_option autoImplicit false
set_option maxRecDepth 100000
set_option maxHeartbeats 1000000
namespace DL
open PySem PySem.Spec PyProof.Rows L2

/-! ### argument lists, displays -/
def aNil : MA := fun ρ => some ([], ρ)
def aCons (f : M) (g : MA) : MA := fun ρ => (f ρ).bind fun x => (g x.2).bind fun y => some (x.1 :: y.1, y.2)
def shs : List Rv → Option (List Dv)
  | [] => some []
  | .sh d :: rs => (shs rs).map (d :: ·)
  | _ :: _ => none
def eTup (g : MA) : M := fun ρ => (g ρ).bind fun x => (shs x.1).bind fun ds => if ds.length ≤ sizeLine then some (.sh (.tuple ds), x.2) else none
def eLst (g : MA) : M := fun ρ => (g ρ).bind fun x => (shs x.1).bind fun ds => if ds.length ≤ sizeLine then some (.ow (.lst ds), x.2) else none
def eDct : M := fun ρ => some (.ow (.dct []), ρ)
section
variable {X : Cx} {ix : List Nat} {e a b c : Expr} {es : List Expr} {f fa fb fc : M} {g : MA} {pos : Pos}
theorem da_nil : PA X [] (TA' X.K ix aNil) := pa_imp pa_nil fun σ H Q ⟨Fr, FX, G, ρ, rs, ρ', R, hf, k⟩ => by
  cases hf
  exact k [] G H (Sub.refl _) R trivial
theorem hold_list {ta : TA} {σ : L2.St} {H : Hp} {K : PySem.W.Frag} {Fr G : Hp} {FX : Nat → Option V} {ρ ρ1 : Rho} {r : Rv} {ss : List Rv} {x : V} {R : List V → Hp → Prop}
    (R1 : RS K ix Fr FX G ρ σ H) (v1 : VOk K Fr G H ρ σ r x) (hb : g ρ = some (ss, ρ1))
    (k : ∀ ys G2 H2, Sub G G2 → RS K ix Fr FX G2 ρ1 σ H2 → VOks K Fr G2 H2 ρ1 σ (r :: ss) (x :: ys) → R ys H2) :
    TA' K ix g σ H R := by
  cases r with
  | sh d => exact ⟨Fr, FX, G, ρ, ss, ρ1, R1, hb, fun y G2 H2 su R2 v2 => k y G2 H2 su R2 ⟨dp_mono su _ _ v1, (fun o a z => nomatch z), v2⟩⟩
  | al i => exact ⟨Fr, FX, G, ρ, ss, ρ1, R1, hb, fun y G2 H2 su R2 v2 => k y G2 H2 su R2 ⟨v1, (fun o a z => nomatch z), v2⟩⟩
  | fd o => exact ⟨Fr, FX, G, ρ, ss, ρ1, R1, hb, fun y G2 H2 su R2 v2 => k y G2 H2 su R2 ⟨(let ⟨a, e, c⟩ := v1; ⟨a, e, c.mono su⟩), (fun o a z => nomatch z), v2⟩⟩
  | ow o =>
    obtain ⟨p, rfl, g0, f0, c, hn⟩ := v1
    obtain ⟨u, hu⟩ := c.some
    refine ⟨upd Fr p u, FX, G, ρ, ss, ρ1, R1.frame g0 hu hn, hb, fun y G2 H2 su R2 v2 => ?_⟩
    have g2 : G2 p = none := R2.gf p (by rw [upd_same]; simp)
    have h2 : H2 p = H p := (R2.fh p u upd_same).trans hu.symm
    have un : ∀ (rs : List Rv) (vs : List V), VOks K (upd Fr p u) G2 H2 ρ1 σ rs vs → VOks K Fr G2 H2 ρ1 σ rs vs ∧ ∀ (j : Nat) (o' : Ob), rs[j]? = some (.ow o') → vs[j]? ≠ some (.ref p) := by
      intro rs
      induction rs with
      | nil =>
        intro vs h
        cases vs with
        | nil => exact ⟨trivial, fun j o' e => by simp at e⟩
        | cons v vs => exact False.elim h
      | cons r rs ih =>
        intro vs h
        cases vs with
        | nil => exact False.elim h
        | cons v vs =>
          obtain ⟨h1, h2', h3⟩ := h
          obtain ⟨i1, i2⟩ := ih vs h3
          have q1 : VOk K Fr G2 H2 ρ1 σ r v ∧ ∀ o', r = .ow o' → v ≠ .ref p := by
            cases r with
            | sh d => exact ⟨h1, fun o' z => nomatch z⟩
            | al i => exact ⟨h1, fun o' z => nomatch z⟩
            | fd i => exact ⟨h1, fun o' z => nomatch z⟩
            | ow o' =>
              obtain ⟨q, rfl, g', f', c', hn'⟩ := h1
              have hq : q ≠ p := fun z => by subst z; rw [upd_same] at f'; cases f'
              rw [upd_ne hq] at f'
              exact ⟨⟨q, rfl, g', f', c', hn'⟩, fun o2 _ z => hq (V.ref.inj z)⟩
          refine ⟨⟨q1.1, h2', i1⟩, fun j o' e => ?_⟩
          cases j with
          | zero =>
            simp only [List.getElem?_cons_zero, Option.some.injEq] at e ⊢
            exact fun z => q1.2 o' e (Option.some.inj z)
          | succ j =>
            simp only [List.getElem?_cons_succ] at e ⊢
            exact i2 j o' e
    obtain ⟨u1, u2⟩ := un ss y v2
    refine k y G2 H2 su (R2.unframe f0) ⟨⟨p, rfl, g2, f0, c.mono su h2, fun i o' e e1 => ?_⟩, fun o1 a1 _ z j o' e => ?_, u1⟩
    · obtain ⟨a, e2, _, f2, _⟩ := R2.sl i _ e
      rw [e1] at e2
      cases e2
      rw [upd_same] at f2
      cases f2
    · cases z
      exact u2 j o' e
theorem da_cons (ha : PE X e (TE' X.K ix f)) (hr : PA X es (TA' X.K ix g)) (hs : starEach (e :: es) X.env = (false, eval e X.env) :: starEach es X.env := by rfl) : PA X (e :: es) (TA' X.K ix (aCons f g)) :=
  pa_imp (pa_cons ha hr hs) fun σ H Q ⟨Fr, FX, G, ρ, rs, ρ', R, hf, k⟩ => by
    unfold aCons at hf
    obtain ⟨⟨r1, ρ1⟩, h1, hf⟩ := Option.bind_eq_some_iff.mp hf
    obtain ⟨⟨ss, ρ2⟩, h2, hf⟩ := Option.bind_eq_some_iff.mp hf
    cases hf
    refine ⟨Fr, FX, G, ρ, r1, ρ1, R, h1, fun x G1 H1 s1 R1 v1 => ?_⟩
    exact hold_list (ta := TA' X.K ix g) R1 v1 h2 fun ys G2 H2 s2 R2 v2 => k _ G2 H2 (s1.trans s2) R2 v2
theorem shs_dp {K : PySem.W.Frag} {Fr G H : Hp} {ρ : Rho} {σ : L2.St} : ∀ {rs : List Rv} {ds : List Dv} {vs : List V}, VOks K Fr G H ρ σ rs vs → shs rs = some ds → DpAll K G vs ds
  | [], _, [], _, h => by cases h; exact .nil
  | [], _, _ :: _, h, _ => False.elim h
  | .sh d :: rs, _, [], h, _ => False.elim h
  | .sh d :: rs, _, v :: vs, ⟨h1, _, h3⟩, h => by
    obtain ⟨es, he, rfl⟩ := Option.map_eq_some_iff.mp h
    exact .cons h1 (shs_dp h3 he)
  | .ow _ :: rs, _, _, _, h => by cases h
  | .al _ :: rs, _, _, _, h => by cases h
theorem de_tup {x1} (h : PA X es (TA' X.K ix g)) : PE X (.Tuple es x1 pos) (TE' X.K ix (eTup g)) :=
  pe_imp (pe_tup h) fun σ H Q ⟨Fr, FX, G, ρ, r, ρ', R, hf, k⟩ => by
    unfold eTup at hf
    obtain ⟨⟨rs, ρ1⟩, h1, hf⟩ := Option.bind_eq_some_iff.mp hf
    obtain ⟨ds, h2, hf⟩ := Option.bind_eq_some_iff.mp hf
    simp only at hf
    split at hf
    · rename_i hc
      cases hf
      refine ⟨Fr, FX, G, ρ, rs, _, R, h1, fun vs G1 H1 s1 R1 v1 => ?_⟩
      have q := shs_dp v1 h2
      refine ⟨by rw [dpAll_length q]; exact hc, fun p hp => ?_⟩
      have s2 := sub_upd (o := HO.tup vs) (R1.none_of hp).1
      exact k (.ref p) _ _ (s1.trans s2) (R1.newG hp) (Dp.tup (.inl (.inl upd_same)) (dpAll_mono s2 _ _ q))
    · cases hf
theorem de_lst (h : PA X es (TA' X.K ix g)) : PE X (.List es pos) (TE' X.K ix (eLst g)) :=
  pe_imp (pe_lst h) fun σ H Q ⟨Fr, FX, G, ρ, r, ρ', R, hf, k⟩ => by
    unfold eLst at hf
    obtain ⟨⟨rs, ρ1⟩, h1, hf⟩ := Option.bind_eq_some_iff.mp hf
    obtain ⟨ds, h2, hf⟩ := Option.bind_eq_some_iff.mp hf
    simp only at hf
    split at hf
    · rename_i hc
      cases hf
      refine ⟨Fr, FX, G, ρ, rs, _, R, h1, fun vs G1 H1 s1 R1 v1 => ?_⟩
      have q := shs_dp v1 h2
      refine ⟨by rw [dpAll_length q]; exact hc, fun p hp => ?_⟩
      exact k (.ref p) G1 _ s1 (R1.newH hp) ⟨p, rfl, (R1.none_of hp).1, (R1.none_of hp).2, ⟨vs, upd_same, q⟩, R1.notIn hp⟩
    · cases hf
theorem de_dnew : PE X (.Dict [] [] pos) (TE' X.K ix eDct) :=
  pe_imp pe_dnewK fun σ H Q ⟨Fr, FX, G, ρ, r, ρ', R, hf, k⟩ => by
    cases hf
    intro p hp
    exact k (.ref p) G _ (Sub.refl _) (R.newH hp) ⟨p, rfl, (R.none_of hp).1, (R.none_of hp).2, ⟨[], upd_same, .nil⟩, R.notIn hp⟩

/-! ### truth, tests -/
def truD : Dv → Option Bool
  | .none => some false
  | .bool b => some b
  | .int i => some (i != 0)
  | .str y => if y.length ≤ sizeLine then some ((y.length : Int) != 0) else none
  | .list xs => some (!xs.isEmpty)
  | .tuple xs => some (!xs.isEmpty)
  | .dict _ => none
theorem isEmpty_dp {K : PySem.W.Frag} {G : Hp} {ds : List Dv} {vs : List V} (h : DpAll K G vs ds) : vs.isEmpty = ds.isEmpty := by
  cases h <;> rfl
theorem tru_vd {K : PySem.W.Frag} {G H : Hp} {d : Dv} {v : V} {k : Bool} (gh : ∀ a o, G a = some o → H a = some o) (h : VD K G H d v) (e : truD d = some k) : TruV K v H k := by
  cases d with
  | none => rw [vd_none h]; cases e; rfl
  | bool b => rw [vd_bool h]; cases e; rfl
  | int b => rw [vd_int h]; cases e; rfl
  | str b =>
    rw [vd_str h]
    unfold truD at e
    simp only at e
    split at e
    · rename_i hc; cases e; exact ⟨hc, rfl⟩
    · cases e
  | list b =>
    obtain ⟨a, vs, rfl, h1, h2⟩ := vd_list h
    cases e
    exact .inl ⟨vs, h1, by rw [isEmpty_dp h2]⟩
  | tuple b =>
    obtain ⟨a, vs, rfl, _, h1, h2⟩ := vd_tup gh h
    cases e
    exact .inr (.inl ⟨vs, h1, by rw [isEmpty_dp h2]⟩)
  | dict b =>
    cases e
/-- an expression as a test -/
def tV (f : M) : MB := fun ρ => (pkM f ρ).bind fun x => (dat x.2 x.1).bind fun d => (truD d).bind fun k => some (k, x.2)
def tNo (t : MB) : MB := fun ρ => (t ρ).bind fun x => some (!x.1, x.2)
def tAn (t u : MB) : MB := fun ρ => (t ρ).bind fun x => if x.1 = true then u x.2 else some (false, x.2)
def tOr' (t u : MB) : MB := fun ρ => (t ρ).bind fun x => if x.1 = true then some (true, x.2) else u x.2
def eIf (t : MB) (fa fb : M) : M := fun ρ => (t ρ).bind fun x => if x.1 = true then fa x.2 else fb x.2
def eNot (f : M) : M := fun ρ => (tV f ρ).bind fun x => some (.sh (.bool (!x.1)), x.2)
/-- x and y, x or y as values -/
def eAnd (fa fb : M) : M := fun ρ => (pkM fa ρ).bind fun x => (dat x.2 x.1).bind fun d => (truD d).bind fun k => if k = true then fb x.2 else some x
def eOr (fa fb : M) : M := fun ρ => (pkM fa ρ).bind fun x => (dat x.2 x.1).bind fun d => (truD d).bind fun k => if k = true then some x else fb x.2
variable {t u : MB}
theorem dt_truth (ha : PE X a (TE' X.K ix f)) (he : ∀ whole, isTrue a X.env whole = (do let v ← whole; standAt a.pos; holding [v] (truthy v)) := by intro _; rfl) : PT X a (TT' X.K ix (tV f)) :=
  pt_imp (pt_truth (de_pk ha) he) fun σ H Q ⟨Fr, FX, G, ρ, r, ρ', R, hf, k⟩ => by
    unfold tV at hf
    obtain ⟨⟨r1, ρ1⟩, h1, hf⟩ := Option.bind_eq_some_iff.mp hf
    obtain ⟨d, h2, hf⟩ := Option.bind_eq_some_iff.mp hf
    obtain ⟨kk, h3, hf⟩ := Option.bind_eq_some_iff.mp hf
    cases hf
    refine ⟨Fr, FX, G, ρ, r1, _, R, h1, fun x G1 H1 s1 R1 v1 => ?_⟩
    exact ⟨_, tru_vd R1.gh (dat_vd R1 v1 h2) h3, k G1 H1 s1 R1⟩
/-- an expression that is a truth, as a test -/
def tB (f : M) : MB := fun ρ => (f ρ).bind fun x => match x.1 with
  | .sh (.bool k) => some (k, x.2)
  | _ => none
theorem tB_inv {f : M} {ρ ρ' : Rho} {b : Bool} (h : tB f ρ = some (b, ρ')) : f ρ = some (.sh (.bool b), ρ') := by
  unfold tB at h
  obtain ⟨⟨r, ρ1⟩, h1, h⟩ := Option.bind_eq_some_iff.mp h
  simp only at h
  split at h
  · cases h; exact h1
  · cases h
theorem tb_ok {σ : L2.St} {H : Hp} {Q : Bool → Hp → Prop} (h : TT' X.K ix (tB f) σ H Q) : TE' X.K ix f σ H fun x H' => ∃ k, x = .bl k ∧ Q k H' := by
  obtain ⟨Fr, FX, G, ρ, r, ρ', R, hf, k⟩ := h
  refine ⟨Fr, FX, G, ρ, _, _, R, tB_inv hf, fun v G1 H1 s1 R1 v1 => ?_⟩
  have v1' : Dp X.K G1 v (.bool r) := v1
  cases v1'
  exact ⟨r, rfl, k G1 H1 s1 R1⟩
theorem dt_cmp {op : CmpOp} {g : Dv → Dv → Option Rz} (ho : OpD X (compareOp op) g) (ha : PE X a (TE' X.K ix fa)) (hb : PE X b (TE' X.K ix fb)) (hm : behindInMarks op b = false := by first | exact nomark _ | rfl) :
    PT X (.Compare a [op] [b] pos) (TT' X.K ix (tB (binS g fa fb))) :=
  pt_imp (pt_cmpR ho (de_pk ha) (de_pk hb) hm) fun σ H Q h => bin_ok (tb_ok h) fun _ _ _ q => q
theorem dt_not (h : PT X a (TT' X.K ix t)) : PT X (.UnaryOp .Not a pos) (TT' X.K ix (tNo t)) :=
  pt_imp (pt_not h) fun σ H Q ⟨Fr, FX, G, ρ, r, ρ', R, hf, k⟩ => by
    unfold tNo at hf
    obtain ⟨⟨b1, ρ1⟩, h1, hf⟩ := Option.bind_eq_some_iff.mp hf
    cases hf
    exact ⟨Fr, FX, G, ρ, b1, _, R, h1, fun G1 H1 s1 R1 => k G1 H1 s1 R1⟩
variable {rest : List Expr}
theorem dw_and1 (h : PT X a (TT' X.K ix t)) : PW X (.BoolOp .And [a] pos) (TT' X.K ix t) := pw_and1 h
theorem dw_or1 (h : PT X a (TT' X.K ix t)) : PW X (.BoolOp .Or [a] pos) (TT' X.K ix t) := pw_or1 h
theorem dw_and (ha : PT X a (TT' X.K ix t)) (hb : PW X (.BoolOp .And (b :: rest) pos) (TT' X.K ix u)) : PW X (.BoolOp .And (a :: b :: rest) pos) (TT' X.K ix (tAn t u)) :=
  pw_imp (pw_and ha hb) fun σ H Q ⟨Fr, FX, G, ρ, r, ρ', R, hf, k⟩ => by
    unfold tAn at hf
    obtain ⟨⟨b1, ρ1⟩, h1, hf⟩ := Option.bind_eq_some_iff.mp hf
    refine ⟨Fr, FX, G, ρ, b1, ρ1, R, h1, fun G1 H1 s1 R1 => ?_⟩
    cases b1 with
    | true => exact ⟨Fr, FX, G1, ρ1, r, ρ', R1, hf, fun G2 H2 s2 R2 => k G2 H2 (s1.trans s2) R2⟩
    | false => cases hf; exact k G1 H1 s1 R1
theorem dw_or (ha : PT X a (TT' X.K ix t)) (hb : PW X (.BoolOp .Or (b :: rest) pos) (TT' X.K ix u)) : PW X (.BoolOp .Or (a :: b :: rest) pos) (TT' X.K ix (tOr' t u)) :=
  pw_imp (pw_or ha hb) fun σ H Q ⟨Fr, FX, G, ρ, r, ρ', R, hf, k⟩ => by
    unfold tOr' at hf
    obtain ⟨⟨b1, ρ1⟩, h1, hf⟩ := Option.bind_eq_some_iff.mp hf
    refine ⟨Fr, FX, G, ρ, b1, ρ1, R, h1, fun G1 H1 s1 R1 => ?_⟩
    cases b1 with
    | false => exact ⟨Fr, FX, G1, ρ1, r, ρ', R1, hf, fun G2 H2 s2 R2 => k G2 H2 (s1.trans s2) R2⟩
    | true => cases hf; exact k G1 H1 s1 R1
theorem de_ifExp (hc : PT X c (TT' X.K ix t)) (ha : PE X a (TE' X.K ix fa)) (hb : PE X b (TE' X.K ix fb)) : PE X (.IfExp c a b pos) (TE' X.K ix (eIf t fa fb)) :=
  pe_imp (pe_ifExp hc ha hb) fun σ H Q ⟨Fr, FX, G, ρ, r, ρ', R, hf, k⟩ => by
    unfold eIf at hf
    obtain ⟨⟨b1, ρ1⟩, h1, hf⟩ := Option.bind_eq_some_iff.mp hf
    refine ⟨Fr, FX, G, ρ, b1, ρ1, R, h1, fun G1 H1 s1 R1 => ?_⟩
    cases b1 with
    | true => exact ⟨Fr, FX, G1, ρ1, r, ρ', R1, hf, fun v G2 H2 s2 R2 => k v G2 H2 (s1.trans s2) R2⟩
    | false => exact ⟨Fr, FX, G1, ρ1, r, ρ', R1, hf, fun v G2 H2 s2 R2 => k v G2 H2 (s1.trans s2) R2⟩
theorem de_not (ha : PE X a (TE' X.K ix f)) : PE X (.UnaryOp .Not a pos) (TE' X.K ix (eNot f)) :=
  pe_imp (pe_notT (de_pk ha)) fun σ H Q ⟨Fr, FX, G, ρ, r, ρ', R, hf, k⟩ => by
    unfold eNot tV at hf
    obtain ⟨⟨b1, ρ1⟩, h0, hf⟩ := Option.bind_eq_some_iff.mp hf
    cases hf
    obtain ⟨⟨r1, ρ2⟩, h1, h0⟩ := Option.bind_eq_some_iff.mp h0
    obtain ⟨d, h2, h0⟩ := Option.bind_eq_some_iff.mp h0
    obtain ⟨kk, h3, h0⟩ := Option.bind_eq_some_iff.mp h0
    cases h0
    refine ⟨Fr, FX, G, ρ, r1, _, R, h1, fun x G1 H1 s1 R1 v1 => ?_⟩
    exact ⟨_, tru_vd R1.gh (dat_vd R1 v1 h2) h3, k _ G1 H1 s1 R1 (.bl _)⟩
theorem de_one {op} (h : PE X a (TE' X.K ix f)) : PE X (.BoolOp op [a] pos) (TE' X.K ix f) := pe_one h
theorem de_and (ha : PE X a (TE' X.K ix fa)) (hb : PE X (.BoolOp .And (b :: rest) pos) (TE' X.K ix fb)) : PE X (.BoolOp .And (a :: b :: rest) pos) (TE' X.K ix (eAnd fa fb)) :=
  pe_imp (pe_andT (de_pk ha) hb) fun σ H Q ⟨Fr, FX, G, ρ, r, ρ', R, hf, k⟩ => by
    unfold eAnd at hf
    obtain ⟨⟨r1, ρ1⟩, h1, hf⟩ := Option.bind_eq_some_iff.mp hf
    obtain ⟨d, h2, hf⟩ := Option.bind_eq_some_iff.mp hf
    obtain ⟨kk, h3, hf⟩ := Option.bind_eq_some_iff.mp hf
    refine ⟨Fr, FX, G, ρ, r1, ρ1, R, h1, fun x G1 H1 s1 R1 v1 => ⟨kk, tru_vd R1.gh (dat_vd R1 v1 h2) h3, ?_⟩⟩
    cases kk with
    | true => exact ⟨Fr, FX, G1, ρ1, r, ρ', R1, hf, fun v G2 H2 s2 R2 => k v G2 H2 (s1.trans s2) R2⟩
    | false => cases hf; exact k x G1 H1 s1 R1 v1
theorem de_or (ha : PE X a (TE' X.K ix fa)) (hb : PE X (.BoolOp .Or (b :: rest) pos) (TE' X.K ix fb)) : PE X (.BoolOp .Or (a :: b :: rest) pos) (TE' X.K ix (eOr fa fb)) :=
  pe_imp (pe_orT (de_pk ha) hb) fun σ H Q ⟨Fr, FX, G, ρ, r, ρ', R, hf, k⟩ => by
    unfold eOr at hf
    obtain ⟨⟨r1, ρ1⟩, h1, hf⟩ := Option.bind_eq_some_iff.mp hf
    obtain ⟨d, h2, hf⟩ := Option.bind_eq_some_iff.mp hf
    obtain ⟨kk, h3, hf⟩ := Option.bind_eq_some_iff.mp hf
    refine ⟨Fr, FX, G, ρ, r1, ρ1, R, h1, fun x G1 H1 s1 R1 v1 => ⟨kk, tru_vd R1.gh (dat_vd R1 v1 h2) h3, ?_⟩⟩
    cases kk with
    | false => exact ⟨Fr, FX, G1, ρ1, r, ρ', R1, hf, fun v G2 H2 s2 R2 => k v G2 H2 (s1.trans s2) R2⟩
    | true => cases hf; exact k x G1 H1 s1 R1 v1
/-! ### chains: a < b < c -/
def eChain (g g' : Dv → Dv → Option Rz) (fa fb fc : M) : M := fun ρ => (pkM fa ρ).bind fun x => (pkM fb x.2).bind fun y => match y.1 with
  | .sh e => (dat y.2 x.1).bind fun d => (g d e).bind fun r => (match r with
    | .sh (.bool true) => (pkM fc y.2).bind fun z => (dat z.2 z.1).bind fun e2 => (g' e e2).bind fun r' => some (r'.rv, z.2)
    | .sh (.bool false) => some (.sh (.bool false), y.2)
    | _ => none)
  | _ => none
theorem chain_ok {g g' : Dv → Dv → Option Rz} {σ : L2.St} {H : Hp} {Q : VK} (h : TE' X.K ix (eChain g g' fa fb fc) σ H Q) :
    tChain (R2d X.K g) (R2d X.K g') (TE' X.K ix (pkM fa)) (TE' X.K ix (pkM fb)) (TE' X.K ix (pkM fc)) σ H Q := by
  obtain ⟨Fr, FX, G, ρ, r, ρ', R, hf, kk⟩ := h
  unfold eChain at hf
  obtain ⟨⟨r1, ρ1⟩, h1, hf⟩ := Option.bind_eq_some_iff.mp hf
  obtain ⟨⟨r2, ρ2⟩, h2, hf⟩ := Option.bind_eq_some_iff.mp hf
  cases r2 with
  | ow o => cases hf
  | al i => cases hf
  | fd i => cases hf
  | sh e =>
  simp only at hf
  obtain ⟨d, h3, hf⟩ := Option.bind_eq_some_iff.mp hf
  obtain ⟨rr, h5, hf⟩ := Option.bind_eq_some_iff.mp hf
  refine ⟨Fr, FX, G, ρ, r1, ρ1, R, h1, fun x G1 H1 s1 R1 v1 => ?_⟩
  refine hold2 (tb := TE' X.K ix (pkM fb)) R1 v1 h2 fun y G2 H2 s2 R2 w1 w2 _ => ?_
  refine ⟨G2, d, e, rr, R2.gh, dat_vd R2 w1 h3, dp_vd R2.gh w2, h5, ?_⟩
  split at hf
  · obtain ⟨⟨r3, ρ3⟩, h6, hf⟩ := Option.bind_eq_some_iff.mp hf
    obtain ⟨e2, h8, hf⟩ := Option.bind_eq_some_iff.mp hf
    obtain ⟨r', h9, hf⟩ := Option.bind_eq_some_iff.mp hf
    cases hf
    refine res_ok R2 fun v G3 H3 s3 R3 v3 => ?_
    have v3' : Dp X.K G3 v (.bool true) := v3
    cases v3'
    refine ⟨true, rfl, ?_⟩
    rw [if_pos rfl]
    refine ⟨Fr, FX, G3, ρ2, r3, _, R3, h6, fun z G4 H4 s4 R4 u2 => ?_⟩
    exact ⟨G4, e, e2, r', R4.gh, dp_vd R4.gh (dp_mono (s3.trans s4) _ _ w2), dat_vd R4 u2 h8, h9, res_ok R4 fun v G' H' s5 R5 v5 => kk v G' H' ((((s1.trans s2).trans s3).trans s4).trans s5) R5 v5⟩
  · cases hf
    refine res_ok R2 fun v G3 H3 s3 R3 v3 => ?_
    have v3' : Dp X.K G3 v (.bool false) := v3
    cases v3'
    refine ⟨false, rfl, ?_⟩
    rw [if_neg Bool.false_ne_true]
    exact kk _ G3 H3 ((s1.trans s2).trans s3) R3 (.bl false)
  · cases hf
theorem de_chain {op op' : CmpOp} {g g' : Dv → Dv → Option Rz} (ho : OpD X (compareOp op) g) (ho' : OpD X (compareOp op') g') (ha : PE X a (TE' X.K ix fa)) (hb : PE X b (TE' X.K ix fb)) (hc : PE X c (TE' X.K ix fc))
    (hm : lastMarks [op, op'] [b, c] = false := by with_unfolding_all rfl) : PE X (.Compare a [op, op'] [b, c] pos) (TE' X.K ix (eChain g g' fa fb fc)) :=
  pe_imp (pe_chain ho ho' (de_pk ha) (de_pk hb) (de_pk hc) hm) fun _ _ _ h => chain_ok h
theorem dt_chain {op op' : CmpOp} {g g' : Dv → Dv → Option Rz} (ho : OpD X (compareOp op) g) (ho' : OpD X (compareOp op') g') (ha : PE X a (TE' X.K ix fa)) (hb : PE X b (TE' X.K ix fb)) (hc : PE X c (TE' X.K ix fc))
    (hm : lastMarks [op, op'] [b, c] = false := by with_unfolding_all rfl) : PT X (.Compare a [op, op'] [b, c] pos) (TT' X.K ix (tB (eChain g g' fa fb fc))) :=
  pt_imp (pt_chain ho ho' (de_pk ha) (de_pk hb) (de_pk hc) hm) fun _ _ _ h => chain_ok (tb_ok h)
end
end DL

set_option Elab.async false
set_option linter.all false
set_option autoImplicit false
set_option maxRecDepth 100000
set_option maxHeartbeats 1000000
namespace DL
open PySem PySem.Spec PyProof.Rows L2

/-! ### calls of built-ins by data -/
def dats (ρ : Rho) : List Rv → Option (List Dv)
  | [] => some []
  | r :: rs => (dat ρ r).bind fun d => (dats ρ rs).bind fun ds => some (d :: ds)
def eCall (g : List Dv → Option Rz) (fa : MA) : M := fun ρ => (fa ρ).bind fun x => (dats x.2 x.1).bind fun ds => (g ds).bind fun r => some (r.rv, x.2)
section
variable {X : Cx} {ix : List Nat} {e a b c : Expr} {es : List Expr} {f fa fb fc : M} {ga : MA} {pos p : Pos}
theorem dats_vd {K : PySem.W.Frag} {Fr G H : Hp} {FX : Nat → Option V} {ρ : Rho} {σ : L2.St} (R : RS K ix Fr FX G ρ σ H) : ∀ {rs : List Rv} {ds : List Dv} {vs : List V}, VOks K Fr G H ρ σ rs vs → dats ρ rs = some ds → VDs K G H ds vs
  | [], _, [], _, h => by cases h; exact .nil
  | [], _, _ :: _, h, _ => False.elim h
  | _ :: _, _, [], h, _ => False.elim h
  | r :: rs, _, v :: vs, ⟨h1, _, h3⟩, h => by
    obtain ⟨d, h4, h⟩ := Option.bind_eq_some_iff.mp h
    obtain ⟨ds, h5, h⟩ := Option.bind_eq_some_iff.mp h
    cases h
    exact .cons (dat_vd R h1 h4) (dats_vd R h3 h5)
theorem call_ok {g : List Dv → Option Rz} {σ : L2.St} {H : Hp} {Q : VK} (h : TE' X.K ix (eCall g ga) σ H Q) : tCB (RCd X.K g) (TA' X.K ix ga) σ H Q := by
  obtain ⟨Fr, FX, G, ρ, r, ρ', R, hf, k⟩ := h
  unfold eCall at hf
  obtain ⟨⟨rs, ρ1⟩, h1, hf⟩ := Option.bind_eq_some_iff.mp hf
  obtain ⟨ds, h2, hf⟩ := Option.bind_eq_some_iff.mp hf
  obtain ⟨rr, h3, hf⟩ := Option.bind_eq_some_iff.mp hf
  cases hf
  refine ⟨Fr, FX, G, ρ, rs, _, R, h1, fun vs G1 H1 s1 R1 v1 => ?_⟩
  exact ⟨G1, ds, rr, R1.gh, dats_vd R1 v1 h2, h3, res_ok R1 fun v G' H' s2 R2 v2 => k v G' H' (s1.trans s2) R2 v2⟩
theorem de_callB {id : String} {x : Str} {g : List Dv → Option Rz} (hc : CallD X (.builtin id) g) (hg : Gl X x) (hm : X.mg x = none) (hv : bootBuiltins x = some (.builtin id)) (ha : PA X (e :: es) (TA' X.K ix ga)) (hn : x ≠ "__name__" := by decide) (hdb : (x == ("__debug__" : Str)) = false := by decide)
    (he : starEach (e :: es) X.env = (false, eval e X.env) :: starEach es X.env := by rfl) (hpl : (backTo pos (starEach es X.env)).any (·.1) = false := by rfl) : PE X (.Call (.Name x p) (e :: es) [] pos) (TE' X.K ix (eCall g ga)) :=
  pe_imp (pe_callB hc hg hm hv ha hn hdb he hpl) fun _ _ _ h => call_ok h
theorem de_callTy {T : String} {x : Str} {g : List Dv → Option Rz} (hc : CallD X (.type T) g) (hg : Gl X x) (hm : X.mg x = none) (hv : bootBuiltins x = some (.type T)) (ha : PA X (e :: es) (TA' X.K ix ga)) (hn : x ≠ "__name__" := by decide) (hdb : (x == ("__debug__" : Str)) = false := by decide)
    (he : starEach (e :: es) X.env = (false, eval e X.env) :: starEach es X.env := by rfl) (hpl : (backTo pos (starEach es X.env)).any (·.1) = false := by rfl) : PE X (.Call (.Name x p) (e :: es) [] pos) (TE' X.K ix (eCall g ga)) :=
  pe_imp (pe_callTy hc hg hm hv ha hn hdb he hpl) fun _ _ _ h => call_ok h
theorem vds1 {K : PySem.W.Frag} {G H : Hp} {d : Dv} {xs : List V} (h : VDs K G H [d] xs) : ∃ v, xs = [v] ∧ VD K G H d v := by
  cases h with | cons h1 h2 => cases h2; exact ⟨_, rfl, h1⟩
theorem vds2 {K : PySem.W.Frag} {G H : Hp} {d d' : Dv} {xs : List V} (h : VDs K G H [d, d'] xs) : ∃ v v', xs = [v, v'] ∧ VD K G H d v ∧ VD K G H d' v' := by
  cases h with | cons h1 h2 => cases h2 with | cons h3 h4 => cases h4; exact ⟨_, _, rfl, h1, h3⟩
/-! abs, int, len, min, max of two -/
def absG : List Dv → Option Rz
  | [.int i] => some (.sh (.int (if i < 0 then -i else i)))
  | _ => none
def intG : List Dv → Option Rz
  | [.int i] => some (.sh (.int i))
  | [.bool k] => some (.sh (.int (if k then 1 else 0)))
  | _ => none
def lenG : List Dv → Option Rz
  | [.list ds] => some (.sh (.int ds.length))
  | [.tuple ds] => some (.sh (.int ds.length))
  | [.str z] => if z.length ≤ sizeLine then some (.sh (.int z.length)) else none
  | [.dict ds] => if plD ds = true then some (.sh (.int ds.length)) else none
  | _ => none
def max2G : List Dv → Option Rz
  | [.int i, .int j] => some (.sh (.int (if j > i then j else i)))
  | _ => none
def min2G : List Dv → Option Rz
  | [.int i, .int j] => some (.sh (.int (if j < i then j else i)))
  | _ => none
def tupleG : List Dv → Option Rz
  | [.list ds] => some (.sh (.tuple ds))
  | [.tuple ds] => some (.sh (.tuple ds))
  | _ => none
def listG : List Dv → Option Rz
  | [.list ds] => some (.ow (.lst ds))
  | [.tuple ds] => some (.ow (.lst ds))
  | _ => none
theorem abs_d : CallD X (.builtin "abs") absG := by
  intro pins s σ H xs us Q I r h
  obtain ⟨G, ds, z, gh, vd, hz, q⟩ := h
  unfold absG at hz
  split at hz
  · cases hz
    obtain ⟨v, rfl, h1⟩ := vds1 vd
    rw [vd_int h1] at r
    exact call_abs pins s σ H _ us Q I r ⟨_, rfl, res_int q⟩
  · cases hz
theorem int_d : CallD X (.type "int") intG := by
  intro pins s σ H xs us Q I r h
  obtain ⟨G, ds, z, gh, vd, hz, q⟩ := h
  unfold intG at hz
  split at hz
  · cases hz
    obtain ⟨v, rfl, h1⟩ := vds1 vd
    rw [vd_int h1] at r
    exact call_int1 pins s σ H _ us Q I r (.inl ⟨_, rfl, res_int q⟩)
  · cases hz
    obtain ⟨v, rfl, h1⟩ := vds1 vd
    rw [vd_bool h1] at r
    exact call_int1 pins s σ H _ us Q I r (.inr ⟨_, rfl, res_int q⟩)
  · cases hz
theorem dkv_length {K : PySem.W.Frag} {G : Hp} : ∀ {ks : List (Key × V)} {kvs : List (Dv × Dv)}, DKV K G ks kvs → ks.length = kvs.length
  | _, _, .nil => rfl
  | _, _, .cons _ t => by simp [dkv_length t]
theorem len_d : CallD X (.builtin "len") lenG := by
  intro pins s σ H xs us Q I r h
  obtain ⟨G, ds, z, gh, vd, hz, q⟩ := h
  unfold lenG at hz
  split at hz
  · cases hz
    obtain ⟨v, rfl, h1⟩ := vds1 vd
    obtain ⟨a, vs, rfl, h2, p1⟩ := vd_list h1
    have l1 := dpAll_length p1
    rw [← l1] at q
    exact call_len_seq pins s σ H _ us Q I r ⟨a, vs, rfl, .inl h2, res_int q⟩
  · cases hz
    obtain ⟨v, rfl, h1⟩ := vds1 vd
    obtain ⟨a, vs, rfl, _, h2, p1⟩ := vd_tup gh h1
    have l1 := dpAll_length p1
    rw [← l1] at q
    exact call_len_seq pins s σ H _ us Q I r ⟨a, vs, rfl, .inr h2, res_int q⟩
  · split at hz
    · rename_i hc
      cases hz
      obtain ⟨v, rfl, h1⟩ := vds1 vd
      rw [vd_str h1] at r
      exact call_len_str pins s σ H _ us Q I r ⟨_, rfl, hc, res_int q⟩
    · cases hz
  · split at hz
    · rename_i hp
      cases hz
      obtain ⟨v, rfl, h1⟩ := vds1 vd
      obtain ⟨a, ks, rfl, h2, p1⟩ := vd_dk h1 hp
      rw [← dkv_length p1] at q
      rw [Vals.ref1 r]
      exact d_len I h2 fun t s' I' => ⟨.int ks.length, H, I', ⟨t, rfl⟩, res_int q⟩
    · cases hz
  · cases hz
theorem max2_d (hc : X.calm = true) : CallD X (.builtin "max") max2G := by
  intro pins s σ H xs us Q I r h
  obtain ⟨G, ds, z, gh, vd, hz, q⟩ := h
  unfold max2G at hz
  split at hz
  · cases hz
    obtain ⟨v, v', rfl, h1, h2⟩ := vds2 vd
    rw [vd_int h1, vd_int h2] at r
    exact call_max2 hc pins s σ H _ us Q I r ⟨_, _, rfl, res_int q⟩
  · cases hz
theorem min2_d (hc : X.calm = true) : CallD X (.builtin "min") min2G := by
  intro pins s σ H xs us Q I r h
  obtain ⟨G, ds, z, gh, vd, hz, q⟩ := h
  unfold min2G at hz
  split at hz
  · cases hz
    obtain ⟨v, v', rfl, h1, h2⟩ := vds2 vd
    rw [vd_int h1, vd_int h2] at r
    exact call_min2 hc pins s σ H _ us Q I r ⟨_, _, rfl, res_int q⟩
  · cases hz
theorem tuple_d : CallD X (.type "tuple") tupleG := by
  intro pins s σ H xs us Q I r h
  obtain ⟨G, ds, z, gh, vd, hz, q⟩ := h
  unfold tupleG at hz
  split at hz
  · cases hz
    obtain ⟨v, rfl, h1⟩ := vds1 vd
    obtain ⟨a, vs, rfl, h2, p1⟩ := vd_list h1
    exact call_tuple_of pins s σ H _ us Q I r ⟨a, vs, rfl, .inl ⟨h2, fun l hl => res_tup q (g_none gh hl) hl p1⟩⟩
  · cases hz
    obtain ⟨v, rfl, h1⟩ := vds1 vd
    obtain ⟨a, vs, rfl, g1, h2, p1⟩ := vd_tup gh h1
    exact call_tuple_of pins s σ H _ us Q I r ⟨a, vs, rfl, .inr ⟨h2, res_val q (.tup g1 p1)⟩⟩
  · cases hz
theorem list_d : CallD X (.type "list") listG := by
  intro pins s σ H xs us Q I r h
  obtain ⟨G, ds, z, gh, vd, hz, q⟩ := h
  unfold listG at hz
  split at hz
  · cases hz
    obtain ⟨v, rfl, h1⟩ := vds1 vd
    obtain ⟨a, vs, rfl, h2, p1⟩ := vd_list h1
    exact call_list_of pins s σ H _ us Q I r ⟨a, vs, rfl, .inl h2, fun l hl => res_lst q hl p1⟩
  · cases hz
    obtain ⟨v, rfl, h1⟩ := vds1 vd
    obtain ⟨a, vs, rfl, g1, h2, p1⟩ := vd_tup gh h1
    exact call_list_of pins s σ H _ us Q I r ⟨a, vs, rfl, .inr h2, fun l hl => res_lst q hl p1⟩
  · cases hz
/-! min, max of data -/
def okAl (ds : List Dv) : Bool := (ds.all fun d => ds.all fun e => PySem.W.alike d e) && (ds.all fun d => !isNone d) && decide (PyData.depthAll ds ≤ 64)
theorem okAl_all {ds : List Dv} (h : okAl ds = true) : PySem.W.AlikeAll ds ∧ PyData.depthAll ds ≤ 64 := by
  unfold okAl at h
  simp only [Bool.and_eq_true, List.all_eq_true, decide_eq_true_eq] at h
  obtain ⟨⟨h1, h2⟩, h3⟩ := h
  refine ⟨⟨fun x hx y hy => h1 x hx y hy, fun x hx e => ?_⟩, h3⟩
  have := h2 x hx
  subst e
  cases this
def minG : List Dv → Option Rz
  | [.list (x :: xs)] => if okAl (x :: xs) = true then some (.sh (PySem.W.minD x xs)) else none
  | [.tuple (x :: xs)] => if okAl (x :: xs) = true then some (.sh (PySem.W.minD x xs)) else none
  | _ => none
def maxG : List Dv → Option Rz
  | [.list (x :: xs)] => if okAl (x :: xs) = true then some (.sh (PySem.W.maxD x xs)) else none
  | [.tuple (x :: xs)] => if okAl (x :: xs) = true then some (.sh (PySem.W.maxD x xs)) else none
  | _ => none
section
open PySem.W
variable {prog : Program} {w : World} {A : Around} {E : Value → Shared → Prop} {s : Shared}
theorem best_at {f : PyData → PyData → Bool} {x : PyData} {xs : List PyData} {n : Nat} (hn : n = xs.length + 1) :
    (x :: xs)[argBest (fun i j => f ((x :: xs).getD i PyData.none) ((x :: xs).getD j PyData.none)) (n - 1)]? = some (xs.foldl (fun a y => if f y a then y else a) x) := by
  subst hn
  obtain ⟨h1, h2⟩ := argBest_fold f PyData.none x xs xs.length (Nat.le_refl _)
  rw [List.take_length] at h2
  rw [← h2, Nat.add_sub_cancel]
  have hl : argBest (fun i j => f ((x :: xs).getD i PyData.none) ((x :: xs).getD j PyData.none)) xs.length < (x :: xs).length := by
    rw [List.length_cons]; omega
  rw [List.getD_eq_getElem?_getD, List.getElem?_eq_getElem hl]
  rfl
/-- l walks the values vs, one after the other -/
def Walker (prog : Program) (w : World) (A : Around) (s : Shared) (l : Addr) (vs : Array Value) : Prop := ∀ {Q E : Value → Shared → Prop},
  (∀ (s₂ : Shared) (o : Obj) (St : Nat → Shared → Prop), s₂ = { s with heap := s.heap.push o } → WalksS prog w A s.heap.objs.size [s.heap.objs.size, l] [s.heap.objs.size] (fun a b => b = a) vs.size (fun i v => vs[i]? = some v) St → St 0 s₂ →
    (∀ b ∈ [s.heap.objs.size, l], b < s₂.heap.objs.size) → (∀ b o, s.heap.get? b = some o → b ∉ [s.heap.objs.size]) → (∀ b o, s.heap.get? b = some o → s₂.heap.get? b = some o) → Q (.ref s.heap.objs.size) s₂) →
  wpAny (model prog w) A (pyIter (.ref l)) Q E s
theorem rows_list {l : Addr} {vs : Array Value} (hh : A.handled = none) (hl : s.heap.IsList l vs) : Walker prog w A s l vs := fun k => iter_listW hh hl fun s₂ e W st a b c => k s₂ _ _ e W st a b c
theorem rows_tuple {l : Addr} {vs : Array Value} (hh : A.handled = none) (hl : s.heap.IsTuple l vs) : Walker prog w A s l vs := fun k => iter_tupleW hh hl fun s₂ e W st a b c => k s₂ _ _ e W st a b c
/-- the call of id picks what m names -/
def Picks (prog : Program) (w : World) (A : Around) (E : Value → Shared → Prop) (id : String) (m : PyData → List PyData → PyData) : Prop :=
  ∀ {s : Shared} {l : Addr} {vs : Array Value} {x : PyData} {xs : List PyData} {as : List Addr} {Q : Value → Shared → Prop}, Walker prog w A.in1 s l vs → ReadsAll s.heap vs.toList (x :: xs) as → AlikeAll (x :: xs) → A.units + 1 + PyData.depthAll (x :: xs) < cLine →
    (∀ (i : Nat) v h' tk, vs[i]? = some v → (x :: xs)[i]? = some (m x xs) → (∀ b o, s.heap.get? b = some o → h'.get? b = some o) → Q v { s with heap := h', toks := tk }) → wpAny (model prog w) A (call (.builtin id) [.ref l]) Q E s
theorem min_picks : Picks prog w A E "min" minD := fun {s l vs x xs as Q} rw_ hr ha hu k => call_min_walkH (rw_ fun s₂ o St e W st lo nw kp => ⟨_, _, _, _, vs.size, _, _, _, _, rfl, W, st, lo, (by rw [readsAll_len hr]; exact Nat.succ_pos _), nw, kp, cmpIn_lt (A := A.in1) hr ha hu, fun v s' hP m => by
  obtain ⟨h', tk, rfl, old⟩ := moved_old e rfl m
  exact k _ v h' tk hP (best_at (readsAll_len hr)) old⟩)
theorem max_picks : Picks prog w A E "max" maxD := fun {s l vs x xs as Q} rw_ hr ha hu k => call_max_walkH (rw_ fun s₂ o St e W st lo nw kp => ⟨_, _, _, _, vs.size, _, _, _, _, rfl, W, st, lo, (by rw [readsAll_len hr]; exact Nat.succ_pos _), nw, kp, cmpIn_gt (A := A.in1) hr ha hu, fun v s' hP m => by
  obtain ⟨h', tk, rfl, old⟩ := moved_old e rfl m
  exact k _ v h' tk hP (best_at (f := fun y a => dataLt a y) (readsAll_len hr)) old⟩)
end
theorem vals_get' {xs : List V} {us : List Value} (h : Vals xs us) : ∀ {i : Nat} {u : Value}, us[i]? = some u → ∃ x, xs[i]? = some x ∧ RelV x u := by
  induction h with
  | nil => intro i u e; simp at e
  | @cons a b l l' r t ih =>
    intro i u e
    cases i with
    | zero => simp at e; subst e; exact ⟨_, rfl, r⟩
    | succ i =>
      simp at e
      obtain ⟨x, h1, h2⟩ := ih e
      exact ⟨x, by simpa using h1, h2⟩
/-- one argument, a list or a tuple: the call gives one of its items -/
theorem pick_d {id : String} {g : List Dv → Option Rz} {m : PyData → List PyData → PyData} (hc : X.calm = true) (hh : X.A.handled = none) (hu : X.A.units + 200 < cLine)
    (gi : ∀ ds z, g ds = some z → ∃ x xs, (ds = [.list (x :: xs)] ∨ ds = [.tuple (x :: xs)]) ∧ okAl (x :: xs) = true ∧ z = .sh (m x xs))
    (hp : Picks X.prog X.w X.A X.xe id m) :
    CallD X (.builtin id) g := by
  intro pins s σ H xs us Q I r h
  obtain ⟨G, ds, z, gh, vd, hz, q⟩ := h
  obtain ⟨y, ys, hd, hok, rfl⟩ := gi ds z hz
  obtain ⟨hal, hdep⟩ := okAl_all hok
  have fin : ∀ {vs : List V} {its : List Value} {i : Nat} {v : Value} {h' : Heap} {tk : Nat}, DpAll X.K G vs (y :: ys) → Vals vs its → its[i]? = some v → (y :: ys)[i]? = some (m y ys) → (∀ b o, s.heap.get? b = some o → h'.get? b = some o) → EP X pins σ Q v { s with heap := h', toks := tk } := by
    intro vs its i v h' tk p1 rv hv hi hk
    obtain ⟨w1, hw1, rw1⟩ := vals_get' rv hv
    obtain ⟨w2, hw2, d2⟩ := dpAll_get p1 hi
    rw [hw1] at hw2
    cases hw2
    exact ⟨w1, H, I.kept (t' := tk) hk, rw1, res_val q d2⟩
  rcases hd with rfl | rfl
  · obtain ⟨v, rfl, h1⟩ := vds1 vd
    obtain ⟨a, vs, rfl, h2, p1⟩ := vd_list h1
    rw [Vals.ref1 r]
    obtain ⟨its, rv, pl, hz'⟩ := I.list h2
    obtain ⟨as, hr⟩ := Dp.readsAll I (y :: ys) vs its (dpAll_mono (sub_le gh) _ _ p1) rv
    exact hp (rows_list (by simp [hh]) pl.isList) hr hal (by omega) fun i v h' tk hv hi hk => fin p1 rv (by simpa using hv) hi hk
  · obtain ⟨v, rfl, h1⟩ := vds1 vd
    obtain ⟨a, vs, rfl, _, h2, p1⟩ := vd_tup gh h1
    rw [Vals.ref1 r]
    obtain ⟨its, rv, pl, hz'⟩ := I.tuple h2
    obtain ⟨as, hr⟩ := Dp.readsAll I (y :: ys) vs its (dpAll_mono (sub_le gh) _ _ p1) rv
    exact hp (rows_tuple (by simp [hh]) pl) hr hal (by omega) fun i v h' tk hv hi hk => fin p1 rv (by simpa using hv) hi hk
theorem min_d (hc : X.calm = true) (hh : X.A.handled = none) (hu : X.A.units + 200 < cLine) : CallD X (.builtin "min") minG :=
  pick_d hc hh hu (fun ds z h => by
    unfold minG at h
    split at h <;> first
      | (split at h <;> first | (rename_i hk; cases h; first | exact ⟨_, _, .inl rfl, hk, rfl⟩ | exact ⟨_, _, .inr rfl, hk, rfl⟩) | cases h)
      | cases h) min_picks
theorem max_d (hc : X.calm = true) (hh : X.A.handled = none) (hu : X.A.units + 200 < cLine) : CallD X (.builtin "max") maxG :=
  pick_d hc hh hu (fun ds z h => by
    unfold maxG at h
    split at h <;> first
      | (split at h <;> first | (rename_i hk; cases h; first | exact ⟨_, _, .inl rfl, hk, rfl⟩ | exact ⟨_, _, .inr rfl, hk, rfl⟩) | cases h)
      | cases h) max_picks
/-! sum of ints -/
def intsOf : List Dv → Option (List Int)
  | [] => some []
  | .int i :: ds => (intsOf ds).map (i :: ·)
  | _ :: _ => none
theorem intsOf_eq : ∀ {ds : List Dv} {ns : List Int}, intsOf ds = some ns → ds = ns.map PyData.int
  | [], _, h => by cases h; rfl
  | .int i :: ds, _, h => by
    obtain ⟨ms, hm, rfl⟩ := Option.map_eq_some_iff.mp h
    rw [intsOf_eq hm]
    rfl
  | .none :: _, _, h => by cases h
  | .bool _ :: _, _, h => by cases h
  | .str _ :: _, _, h => by cases h
  | .list _ :: _, _, h => by cases h
  | .tuple _ :: _, _, h => by cases h
  | .dict _ :: _, _, h => by cases h
theorem intsOf_map : ∀ ns : List Int, intsOf (ns.map PyData.int) = some ns
  | [] => rfl
  | n :: ns => by simp [intsOf, intsOf_map ns]
def sumG : List Dv → Option Rz
  | [.list ds] => (intsOf ds).map fun ns => .sh (.int ns.sum)
  | [.tuple ds] => (intsOf ds).map fun ns => .sh (.int ns.sum)
  | _ => none
theorem sum_d (hc : X.calm = true) (hh : X.A.handled = none) : CallD X (.builtin "sum") sumG := by
  intro pins s σ H xs us Q I r h
  obtain ⟨G, ds, z, gh, vd, hz, q⟩ := h
  unfold sumG at hz
  split at hz
  · obtain ⟨ns, hn, rfl⟩ := Option.map_eq_some_iff.mp hz
    obtain ⟨v, rfl, h1⟩ := vds1 vd
    rw [intsOf_eq hn] at h1
    obtain ⟨a, vs, rfl, h2, p1⟩ := vd_list h1
    rw [ints_of_dpAll p1] at h2
    exact cr_sum hc pins s σ H _ us Q I r ⟨a, ns, rfl, h2, res_int q⟩
  · obtain ⟨ns, hn, rfl⟩ := Option.map_eq_some_iff.mp hz
    obtain ⟨v, rfl, h1⟩ := vds1 vd
    rw [intsOf_eq hn] at h1
    obtain ⟨a, vs, rfl, _, h2, p1⟩ := vd_tup gh h1
    rw [ints_of_dpAll p1] at h2
    rw [Vals.ref1 r]
    obtain ⟨its, rv, pl, hz'⟩ := I.tuple h2
    have hi : IntsAre its ns := rv.ints
    obtain ⟨ys, e⟩ := hi.allInts.items
    have hnn : numsOf (intItems ys).toList = ns := by rw [← e]; exact hi.numsOf
    rw [nums_intItems] at hnn
    have hl : s.heap.IsTuple a its.toArray := pl
    rw [e] at hl
    refine PySem.W.ktm_sumG hh hl fun h' tk t' hk => ?_
    rw [preSum_eq, List.take_of_length_le (by simp), hnn]
    exact ⟨.int ns.sum, H, I.kept (t' := tk) hk, ⟨t', rfl⟩, res_int q⟩
  · cases hz
end
end DL

set_option Elab.async false
set_option linter.all false
set_option autoImplicit false
set_option maxRecDepth 100000
set_option maxHeartbeats 1000000
namespace DL
open PySem PySem.Spec PyProof.Rows L2

/-! ### what a def does with its arguments' slots -/
abbrev FnS := List Sl → Option (Rv × List Sl)
def spD (K : PySem.W.Frag) (np : Nat) (F : FnS) : Sp := fun vs H Q _ => ∃ Fr G as r as', vs.length = np ∧ RS K [] Fr (fun _ => none) G as (vs.map some) H ∧ F as = some (r, as') ∧
  ∀ v G' H', Sub G G' → RS K [] Fr (fun _ => none) G' as' (vs.map some) H' → VOk K Fr G' H' as' (vs.map some) r v → Q v H'
def toSl (ρ : Rho) : Rv → Option Sl
  | .sh d => some (.sh d)
  | .ow o => some (.ow o)
  | .fd o => some (.fd o)
  | .al i => match ρ[i]? with
    | some (.ow o) => some (.ow o)
    | _ => none
def toSls (ρ : Rho) : List Rv → Option (List Sl)
  | [] => some []
  | r :: rs => (toSl ρ r).bind fun s => (toSls ρ rs).bind fun ss => some (s :: ss)
def wback : Rho → List Rv → List Sl → Rho
  | ρ, .al i :: rs, s :: as => wback (ρ.set i s) rs as
  | ρ, _ :: rs, _ :: as => wback ρ rs as
  | ρ, _, _ => ρ
def als : List Rv → List Nat
  | [] => []
  | .al i :: rs => i :: als rs
  | .sh _ :: rs => als rs
  | .ow _ :: rs => als rs
  | .fd _ :: rs => als rs
def alsOk (rs : List Rv) : Bool := decide (als rs).Nodup
def eFn (F : FnS) (ga : MA) : M := fun ρ => (ga ρ).bind fun x => (toSls x.2 x.1).bind fun as => if alsOk x.1 = true then (F as).bind fun y => (match y.1 with
  | .al _ => none
  | r => some (r, wback x.2 x.1 y.2)) else none

theorem toSls_get {ρ : Rho} : ∀ {rs : List Rv} {as : List Sl}, toSls ρ rs = some as → ∀ {j : Nat} {s : Sl}, as[j]? = some s → ∃ r, rs[j]? = some r ∧ toSl ρ r = some s
  | [], _, h, j, s, e => by cases h; simp at e
  | r :: rs, _, h, j, s, e => by
    obtain ⟨s0, h1, h⟩ := Option.bind_eq_some_iff.mp h
    obtain ⟨ss, h2, h⟩ := Option.bind_eq_some_iff.mp h
    cases h
    cases j with
    | zero => simp at e; subst e; exact ⟨r, rfl, h1⟩
    | succ j =>
      simp at e
      obtain ⟨r', h3, h4⟩ := toSls_get h2 e
      exact ⟨r', by simpa using h3, h4⟩
theorem toSls_of {ρ : Rho} : ∀ {rs : List Rv} {as : List Sl}, toSls ρ rs = some as → ∀ {j : Nat} {r : Rv}, rs[j]? = some r → ∃ s, as[j]? = some s ∧ toSl ρ r = some s
  | [], _, h, j, s, e => by simp at e
  | r :: rs, _, h, j, s, e => by
    obtain ⟨s0, h1, h⟩ := Option.bind_eq_some_iff.mp h
    obtain ⟨ss, h2, h⟩ := Option.bind_eq_some_iff.mp h
    cases h
    cases j with
    | zero => simp at e; subst e; exact ⟨s0, rfl, h1⟩
    | succ j =>
      simp at e
      obtain ⟨r', h3, h4⟩ := toSls_of h2 e
      exact ⟨r', by simpa using h3, h4⟩
theorem toSls_length {ρ : Rho} : ∀ {rs : List Rv} {as : List Sl}, toSls ρ rs = some as → as.length = rs.length
  | [], _, h => by cases h; rfl
  | r :: rs, _, h => by
    obtain ⟨s0, h1, h⟩ := Option.bind_eq_some_iff.mp h
    obtain ⟨ss, h2, h⟩ := Option.bind_eq_some_iff.mp h
    cases h
    simp [toSls_length h2]
section
variable {K : PySem.W.Frag} {ix : List Nat} {Fr G H : Hp} {FX : Nat → Option V} {ρ : Rho} {σ : L2.St}
theorem voks_length : ∀ {rs : List Rv} {vs : List V}, VOks K Fr G H ρ σ rs vs → vs.length = rs.length
  | [], [], _ => rfl
  | [], _ :: _, h => False.elim h
  | _ :: _, [], h => False.elim h
  | _ :: rs, _ :: vs, ⟨_, _, h⟩ => by simp [voks_length h]
theorem voks_get : ∀ {rs : List Rv} {vs : List V}, VOks K Fr G H ρ σ rs vs → ∀ {j : Nat} {r : Rv}, rs[j]? = some r → ∃ v, vs[j]? = some v ∧ VOk K Fr G H ρ σ r v
  | [], [], _, j, r, e => by simp at e
  | [], _ :: _, h, _, _, _ => False.elim h
  | _ :: _, [], h, _, _, _ => False.elim h
  | r0 :: rs, v :: vs, ⟨h1, _, h⟩, j, r, e => by
    cases j with
    | zero => simp at e; subst e; exact ⟨v, rfl, h1⟩
    | succ j =>
      simp at e
      obtain ⟨w, h2, h3⟩ := voks_get h e
      exact ⟨w, by simpa using h2, h3⟩
theorem voks_apart : ∀ {rs : List Rv} {vs : List V}, VOks K Fr G H ρ σ rs vs → ∀ {i j : Nat} {o o' : Ob} {a : Addr}, i < j → rs[i]? = some (.ow o) → rs[j]? = some (.ow o') → vs[i]? = some (.ref a) → vs[j]? ≠ some (.ref a)
  | [], _, _, i, j, o, o', a, l, e, _, _ => by simp at e
  | _ :: _, [], h, _, _, _, _, _, _, _, _, _ => False.elim h
  | r0 :: rs, v :: vs, ⟨_, h2, h⟩, i, j, o, o', a, l, e1, e2, e3 => by
    cases j with
    | zero => omega
    | succ j =>
      simp at e2
      cases i with
      | zero =>
        simp at e1 e3
        simpa using h2 o a e1 e3 j o' e2
      | succ i =>
        simp at e1 e3
        simpa using voks_apart h (by omega) e1 e2 e3
end
theorem wback_length : ∀ (rs : List Rv) (as : List Sl) (ρ : Rho), (wback ρ rs as).length = ρ.length
  | .al i :: rs, s :: as, ρ => by unfold wback; rw [wback_length rs as]; simp
  | .sh _ :: rs, s :: as, ρ => by unfold wback; exact wback_length rs as ρ
  | .ow _ :: rs, s :: as, ρ => by unfold wback; exact wback_length rs as ρ
  | .fd _ :: rs, s :: as, ρ => by unfold wback; exact wback_length rs as ρ
  | [], _, ρ => by unfold wback; rfl
  | .al _ :: _, [], ρ => rfl
  | .sh _ :: _, [], ρ => rfl
  | .ow _ :: _, [], ρ => rfl
  | .fd _ :: _, [], ρ => rfl
theorem wback_get : ∀ (rs : List Rv) (as : List Sl) (ρ : Rho) (k : Nat) (s : Sl), as.length = rs.length → (als rs).Nodup → (wback ρ rs as)[k]? = some s →
    (∃ j : Nat, rs[j]? = some (Rv.al k) ∧ as[j]? = some s) ∨ ((∀ j : Nat, rs[j]? ≠ some (Rv.al k)) ∧ ρ[k]? = some s)
  | [], [], ρ, k, s, _, _, e => .inr ⟨fun j => by simp, by unfold wback at e; exact e⟩
  | r :: rs, [], ρ, k, s, h, _, _ => by simp at h
  | [], a :: as, ρ, k, s, h, _, _ => by simp at h
  | r :: rs, a :: as, ρ, k, s, h, nd, e => by
    have hl : as.length = rs.length := by simpa using h
    cases r with
    | sh d =>
      have e' : (wback ρ rs as)[k]? = some s := e
      rcases wback_get rs as ρ k s hl nd e' with ⟨j, h1, h2⟩ | ⟨h1, h2⟩
      · exact .inl ⟨j + 1, by simpa using h1, by simpa using h2⟩
      · refine .inr ⟨fun j => ?_, h2⟩
        cases j with
        | zero => simp
        | succ j => simpa using h1 j
    | ow d =>
      have e' : (wback ρ rs as)[k]? = some s := e
      rcases wback_get rs as ρ k s hl nd e' with ⟨j, h1, h2⟩ | ⟨h1, h2⟩
      · exact .inl ⟨j + 1, by simpa using h1, by simpa using h2⟩
      · refine .inr ⟨fun j => ?_, h2⟩
        cases j with
        | zero => simp
        | succ j => simpa using h1 j
    | fd d =>
      have e' : (wback ρ rs as)[k]? = some s := e
      rcases wback_get rs as ρ k s hl nd e' with ⟨j, h1, h2⟩ | ⟨h1, h2⟩
      · exact .inl ⟨j + 1, by simpa using h1, by simpa using h2⟩
      · refine .inr ⟨fun j => ?_, h2⟩
        cases j with
        | zero => simp
        | succ j => simpa using h1 j
    | al i =>
      have nd' : i ∉ als rs ∧ (als rs).Nodup := List.nodup_cons.mp nd
      have e' : (wback (ρ.set i a) rs as)[k]? = some s := e
      rcases wback_get rs as (ρ.set i a) k s hl nd'.2 e' with ⟨j, h1, h2⟩ | ⟨h1, h2⟩
      · exact .inl ⟨j + 1, by simpa using h1, by simpa using h2⟩
      · by_cases hk : i = k
        · subst hk
          have hlt : i < ρ.length := by
            have := (List.getElem?_eq_some_iff.mp h2).1
            simpa using this
          rw [List.getElem?_set_self hlt] at h2
          exact .inl ⟨0, rfl, by simpa using h2⟩
        · rw [List.getElem?_set_ne hk] at h2
          refine .inr ⟨fun j => ?_, h2⟩
          cases j with
          | zero => simp; exact hk
          | succ j => simpa using h1 j
theorem mem_als {k : Nat} : ∀ {rs : List Rv} {j : Nat}, rs[j]? = some (.al k) → k ∈ als rs
  | [], j, e => by simp at e
  | .sh _ :: rs, 0, e => by simp at e
  | .ow _ :: rs, 0, e => by simp at e
  | .fd _ :: rs, 0, e => by simp at e
  | .al i :: rs, 0, e => by simp at e; subst e; exact List.mem_cons_self
  | .sh _ :: rs, j + 1, e => mem_als (rs := rs) (j := j) (by simpa using e)
  | .ow _ :: rs, j + 1, e => mem_als (rs := rs) (j := j) (by simpa using e)
  | .fd _ :: rs, j + 1, e => mem_als (rs := rs) (j := j) (by simpa using e)
  | .al i :: rs, j + 1, e => List.mem_cons_of_mem _ (mem_als (rs := rs) (j := j) (by simpa using e))
theorem al_unique {rs : List Rv} (nd : (als rs).Nodup) : ∀ {i j k : Nat}, rs[i]? = some (.al k) → rs[j]? = some (.al k) → i = j := by
  induction rs with
  | nil => intro i j k e; simp at e
  | cons r rs ih =>
    intro i j k e1 e2
    have ndr : (als rs).Nodup := by
      cases r with
      | sh d => exact nd
      | ow d => exact nd
      | fd d => exact nd
      | al i => exact (List.nodup_cons.mp nd).2
    have nin : r = .al k → ∀ j : Nat, rs[j]? ≠ some (.al k) := fun hr j e => by
      subst hr
      exact (List.nodup_cons.mp nd).1 (mem_als e)
    cases i with
    | zero =>
      cases j with
      | zero => rfl
      | succ j =>
        simp at e1 e2
        exact absurd e2 (nin e1 j)
    | succ i =>
      cases j with
      | zero =>
        simp at e1 e2
        exact absurd e1 (nin e2 i)
      | succ j =>
        simp at e1 e2
        rw [ih ndr e1 e2]

section
variable {X : Cx} {ix : List Nat} {e : Expr} {es : List Expr} {ga : MA} {pos p : Pos}
open Classical in
theorem fn_ok {F : FnS} {np : Nat} {σ : L2.St} {H : Hp} {Q : VK} (hnp : ∀ ρ rs ρ', ga ρ = some (rs, ρ') → rs.length = np) (h : TE' X.K ix (eFn F ga) σ H Q) : tCall (spD X.K np F) [] E0 (TA' X.K ix ga) σ H Q := by
  obtain ⟨Fr, FX, G, ρ, r, ρ', R, hf, k⟩ := h
  unfold eFn at hf
  obtain ⟨⟨rs, ρ1⟩, h1, hf⟩ := Option.bind_eq_some_iff.mp hf
  obtain ⟨as, h2, hf⟩ := Option.bind_eq_some_iff.mp hf
  simp only at hf
  split at hf
  rotate_left
  · cases hf
  rename_i hal
  obtain ⟨⟨r0, as'⟩, h3, hf⟩ := Option.bind_eq_some_iff.mp hf
  have nd : (als rs).Nodup := of_decide_eq_true hal
  have hr : r0 = r ∧ ρ' = wback ρ1 rs as' ∧ ∀ i, r0 ≠ .al i := by
    cases r0 with
    | sh d => cases hf; exact ⟨rfl, rfl, fun i z => nomatch z⟩
    | ow d => cases hf; exact ⟨rfl, rfl, fun i z => nomatch z⟩
    | fd d => cases hf; exact ⟨rfl, rfl, fun i z => nomatch z⟩
    | al i => cases hf
  obtain ⟨rfl, rfl, nal⟩ := hr
  refine ⟨Fr, FX, G, ρ, rs, ρ1, R, h1, fun vs G1 H1 s1 R1 v1 => ?_⟩
  show spD X.K np F (vs ++ []) H1 Q E0
  rw [List.append_nil]
  have lv := voks_length v1
  have la := toSls_length h2
  -- where an owned argument stands
  have own : ∀ {j : Nat} {o : Ob}, as[j]? = some (.ow o) → ∃ a, vs[j]? = some (.ref a) ∧ G1 a = none ∧ Fr a = none ∧ Ct X.K G1 H1 a o ∧ (rs[j]? = some (Rv.ow o) ∨ ∃ i : Nat, rs[j]? = some (Rv.al i) ∧ ρ1[i]? = some (Sl.ow o) ∧ σ[i]? = some (some (V.ref a))) := by
    intro j o e
    obtain ⟨r, er, hs⟩ := toSls_get h2 e
    obtain ⟨v, ev, hv⟩ := voks_get v1 er
    cases r with
    | sh d => cases hs
    | fd d => cases hs
    | ow o' =>
      cases hs
      obtain ⟨a, rfl, g, f, c, _⟩ := hv
      exact ⟨a, ev, g, f, c, .inl er⟩
    | al i =>
      unfold toSl at hs
      simp only at hs
      split at hs
      · rename_i o' ho
        cases hs
        obtain ⟨a, ea, g, f, c⟩ := R1.sl i _ ho
        have hv' : σ[i]? = some (some v) := hv
        rw [ea] at hv'
        cases hv'
        exact ⟨a, ev, g, f, c, .inr ⟨i, er, ho, ea⟩⟩
      · cases hs
  let passed : Addr → Prop := fun a => ∃ (j : Nat) (o : Ob), as[j]? = some (.ow o) ∧ vs[j]? = some (.ref a)
  let Fr' : Hp := fun a => if G1 a ≠ none ∨ passed a then none else H1 a
  have frP : ∀ a, passed a → Fr' a = none := fun a hp => if_pos (.inr hp)
  have frN : ∀ a, G1 a = none → ¬ passed a → Fr' a = H1 a := fun a g np => if_neg (fun z => z.elim (fun y => y g) np)
  have pFr : ∀ a, passed a → Fr a = none := fun a ⟨j, o, e1, e2⟩ => by
    obtain ⟨b, eb, _, f, _⟩ := own e1
    rw [e2] at eb
    cases eb
    exact f
  -- two owned arguments stand apart
  have apart : ∀ (i j : Nat) (a : Addr) (o o' : Ob), i ≠ j → as[i]? = some (.ow o) → as[j]? = some (.ow o') → vs[i]? = some (.ref a) → vs[j]? ≠ some (.ref a) := by
    intro i j a o o' ne e1 e2 e3 e4
    obtain ⟨b, eb, _, _, _, c1⟩ := own e1
    obtain ⟨b', eb', _, _, _, c2⟩ := own e2
    rw [e3] at eb; cases eb
    rw [e4] at eb'; cases eb'
    rcases c1 with c1 | ⟨i1, c1, c1', c1''⟩
    · rcases c2 with c2 | ⟨i2, c2, c2', c2''⟩
      · rcases Nat.lt_or_gt_of_ne ne with l | l
        · exact voks_apart v1 l c1 c2 e3 e4
        · exact voks_apart v1 l c2 c1 e4 e3
      · obtain ⟨v, ev, ⟨q, rfl, _, _, _, hn⟩⟩ := voks_get v1 c1
        rw [e3] at ev; cases ev
        exact hn i2 _ c2' c2''
    · rcases c2 with c2 | ⟨i2, c2, c2', c2''⟩
      · obtain ⟨v, ev, ⟨q, rfl, _, _, _, hn⟩⟩ := voks_get v1 c2
        rw [e4] at ev; cases ev
        exact hn i1 _ c1' c1''
      · by_cases hi : i1 = i2
        · subst hi
          exact ne (al_unique nd c1 c2)
        · exact R1.sep i1 i2 a _ _ hi c1' c2' c1'' c2''
  have getv : ∀ (j : Nat) (v : V), (vs.map some)[j]? = some (some v) ↔ vs[j]? = some v := fun j v => by
    rw [List.getElem?_map]
    cases vs[j]? <;> simp
  have RA : RS X.K [] Fr' (fun _ => none) G1 as (vs.map some) H1 := by
    refine ⟨R1.gh, fun a o e => ?_, fun a n => ?_, by rw [List.length_map, lv, la], fun i s e => ?_, fun i j a o o' ne e1 e2 e3 e4 => ?_, fun i v z => nomatch z⟩
    · by_cases hc : G1 a ≠ none ∨ passed a
      · have : Fr' a = none := if_pos hc
        rw [this] at e; cases e
      · have : Fr' a = H1 a := if_neg hc
        rw [this] at e; exact e
    · by_cases hc : G1 a ≠ none ∨ passed a
      · exact absurd (if_pos hc) n
      · exact Classical.not_not.mp fun z => hc (.inl z)
    · cases s with
      | no => trivial
      | sh d =>
        obtain ⟨r, er, hs⟩ := toSls_get h2 e
        obtain ⟨v, ev, hv⟩ := voks_get v1 er
        cases r with
        | sh d' => cases hs; exact ⟨v, (getv i v).mpr ev, hv⟩
        | ow o' => cases hs
        | fd o' => cases hs
        | al i' =>
          unfold toSl at hs
          simp only at hs
          split at hs <;> cases hs
      | fd d =>
        obtain ⟨r, er, hs⟩ := toSls_get h2 e
        obtain ⟨v, ev, hv⟩ := voks_get v1 er
        cases r with
        | fd d' =>
          cases hs
          obtain ⟨a, rfl, c⟩ := hv
          exact ⟨a, (getv i _).mpr ev, c⟩
        | ow o' => cases hs
        | sh o' => cases hs
        | al i' =>
          unfold toSl at hs
          simp only at hs
          split at hs <;> cases hs
      | ow o =>
        obtain ⟨a, ev, g, f, c, _⟩ := own e
        exact ⟨a, (getv i _).mpr ev, g, frP a ⟨i, o, e, ev⟩, c⟩
    · exact apart i j a o o' ne e1 e2 ((getv i _).mp e3) ((getv j _).mp e4)
  refine ⟨Fr', G1, as, r0, as', by rw [lv]; exact hnp _ _ _ h1, RA, h3, fun v G2 H2 s2 R2 v2 => ?_⟩
  have la' : as'.length = rs.length := by rw [R2.len, List.length_map, lv]
  have keepFr : ∀ a o, Fr a = some o → Fr' a = some o := fun a o e => by
    have g : G1 a = none := R1.gf a (by rw [e]; simp)
    have n : ¬ passed a := fun z => by rw [pFr a z] at e; cases e
    rw [frN a g n]; exact R1.fh a o e
  -- a slot that was not handed over
  have other : ∀ {i : Nat} {o : Ob} {a : Addr}, ρ1[i]? = some (.ow o) → (∀ j : Nat, rs[j]? ≠ some (Rv.al i)) → σ[i]? = some (some (.ref a)) → G1 a = none → Fr' a = H1 a := by
    intro i o a e1 e2 e3 g
    refine frN a g fun ⟨j, o', e4, e5⟩ => ?_
    obtain ⟨b, eb, _, _, _, c⟩ := own e4
    rw [e5] at eb; cases eb
    rcases c with c | ⟨i', c, c', c''⟩
    · obtain ⟨v, ev, ⟨q, rfl, _, _, _, hn⟩⟩ := voks_get v1 c
      rw [e5] at ev; cases ev
      exact hn i _ e1 e3
    · by_cases hi : i' = i
      · subst hi; exact e2 j c
      · exact R1.sep i' i _ _ _ hi c' e1 c'' e3
  -- a slot that was handed over
  have given : ∀ {i j : Nat} {s : Sl}, rs[j]? = some (.al i) → as'[j]? = some s → ∃ a, σ[i]? = some (some (.ref a)) ∧ vs[j]? = some (.ref a) ∧ passed a := by
    intro i j s e1 e2
    obtain ⟨s0, es, hs⟩ := toSls_of h2 e1
    unfold toSl at hs
    simp only at hs
    split at hs
    · rename_i o ho
      cases hs
      obtain ⟨a, ev, _, _, _, c⟩ := own es
      rcases c with c | ⟨i', c, c', c''⟩
      · rw [e1] at c; cases c
      · rw [e1] at c; cases c
        exact ⟨a, c'', ev, ⟨j, o, es, ev⟩⟩
    · cases hs
  have RZ : RS X.K ix Fr FX G2 (wback ρ1 rs as') σ H2 := by
    refine ⟨R2.gh, fun a o e => R2.fh a o (keepFr a o e), fun a n => ?_, by rw [wback_length]; exact R1.len, fun i s e => ?_, fun i j a o o' ne e1 e2 e3 e4 => ?_, R1.fx⟩
    · refine R2.gf a fun z => ?_
      cases e : Fr a with
      | none => exact n e
      | some o => rw [keepFr a o e] at z; cases z
    · rcases wback_get rs as' ρ1 i s la' nd e with ⟨j, e1, e2⟩ | ⟨e1, e2⟩
      · obtain ⟨a, ea, ev, pa⟩ := given e1 e2
        have q := R2.sl j s e2
        rw [(getv j _).mpr ev] at q
        rw [ea]
        cases s with
        | no => trivial
        | sh d => exact q
        | fd d => exact q
        | ow o =>
          obtain ⟨b, eb, g, _, c⟩ := q
          cases eb
          exact ⟨a, rfl, g, pFr a pa, c⟩
      · refine (R1.sl i s e2).mono s2 fun a o e3 e4 g f => ?_
        subst e4
        have q := other e2 e1 e3 g
        obtain ⟨b, eb, _, _, c⟩ := R1.sl i _ e2
        rw [e3] at eb; cases eb
        obtain ⟨u, hu⟩ := c.some
        rw [hu] at q
        exact ⟨R2.gf a (by rw [q]; simp), (R2.fh a u q).trans hu.symm⟩
    · rcases wback_get rs as' ρ1 i _ la' nd e1 with ⟨k1, f1, f2⟩ | ⟨f1, f2⟩
      · obtain ⟨b, eb, ev, pb⟩ := given f1 f2
        rw [e3] at eb; cases eb
        rcases wback_get rs as' ρ1 j _ la' nd e2 with ⟨k2, g1, g2⟩ | ⟨g1, g2⟩
        · obtain ⟨b', eb', ev', _⟩ := given g1 g2
          rw [e4] at eb'; cases eb'
          have nk : k1 ≠ k2 := fun z => by
            subst z
            rw [f1] at g1; cases g1
            exact ne rfl
          exact R2.sep k1 k2 _ _ _ nk f2 g2 ((getv _ _).mpr ev) ((getv _ _).mpr ev')
        · obtain ⟨b', eb', g, _, c⟩ := R1.sl j _ g2
          rw [e4] at eb'; cases eb'
          have q := other g2 g1 e4 g
          obtain ⟨u, hu⟩ := c.some
          rw [frP _ pb, hu] at q; cases q
      · rcases wback_get rs as' ρ1 j _ la' nd e2 with ⟨k2, g1, g2⟩ | ⟨g1, g2⟩
        · obtain ⟨b', eb', ev', pb'⟩ := given g1 g2
          rw [e4] at eb'; cases eb'
          obtain ⟨b, eb, g, _, c⟩ := R1.sl i _ f2
          rw [e3] at eb; cases eb
          have q := other f2 f1 e3 g
          obtain ⟨u, hu⟩ := c.some
          rw [frP _ pb', hu] at q; cases q
        · exact R1.sep i j a _ _ ne f2 g2 e3 e4
  refine k v G2 H2 (s1.trans s2) RZ ?_
  cases r0 with
  | sh d => exact v2
  | fd d => exact v2
  | al i => exact absurd rfl (nal i)
  | ow o =>
    obtain ⟨a, rfl, g, f, c, hn⟩ := v2
    refine ⟨a, rfl, g, ?_, c, fun i o' e1 e2 => ?_⟩
    · cases e : Fr a with
      | none => rfl
      | some u => rw [keepFr a u e] at f; cases f
    · rcases wback_get rs as' ρ1 i _ la' nd e1 with ⟨j, f1, f2⟩ | ⟨f1, f2⟩
      · obtain ⟨b, eb, ev, _⟩ := given f1 f2
        rw [e2] at eb; cases eb
        exact hn j _ f2 ((getv _ _).mpr ev)
      · obtain ⟨b, eb, g', _, c'⟩ := R1.sl i _ f2
        rw [e2] at eb; cases eb
        have q := other f2 f1 e2 g'
        obtain ⟨u, hu⟩ := c'.some
        rw [f, hu] at q; cases q
theorem de_fn {k np : Nat} {f : Addr} {fd : FuncData} {ps : List Str} {x : Str} {F : FnS} (G : FnOk X.prog X.w X.K X.mg X.base CX0 k f fd ps (spD X.K np F)) (hr : Room k X.A) (hg : Gl X x) (hm : X.mg x = some (.ref f)) (hk : PySem.W.keepIn X.K (.ref f) = true) (hb : Binds X.K fd ps [])
    (ha : PA X (e :: es) (TA' X.K ix ga)) (hnp : ∀ ρ rs ρ', ga ρ = some (rs, ρ') → rs.length = np) (hdb : (x == ("__debug__" : Str)) = false := by decide) (he : starEach (e :: es) X.env = (false, eval e X.env) :: starEach es X.env := by rfl) (hpl : (backTo pos (starEach es X.env)).any (·.1) = false := by rfl) :
    PE X (.Call (.Name x p) (e :: es) [] pos) (TE' X.K ix (eFn F ga)) :=
  pe_imp (pe_call G hr hg hm hk hb .nil pass0 ha hdb he hpl) fun _ _ _ h => fn_ok hnp h
theorem de_fn0 {k : Nat} {f : Addr} {fd : FuncData} {ps : List Str} {x : Str} {F : FnS} (G : FnOk X.prog X.w X.K X.mg X.base CX0 k f fd ps (spD X.K 0 F)) (hr : Room k X.A) (hg : Gl X x) (hm : X.mg x = some (.ref f)) (hk : PySem.W.keepIn X.K (.ref f) = true) (hb : Binds X.K fd ps [])
    (hdb : (x == ("__debug__" : Str)) = false := by decide) : PE X (.Call (.Name x p) [] [] pos) (TE' X.K ix (eFn F aNil)) :=
  pe_imp (pe_call0 G hr hg hm hk hb .nil pass0 hdb) fun σ H Q h => by
    have q := fn_ok (np := 0) (fun ρ rs ρ' e => by cases e; rfl) h
    obtain ⟨Fr, FX, G, ρ, rs, ρ', R, hf, k⟩ := q
    cases hf
    exact k [] G H (Sub.refl _) R trivial
theorem aLen_nil : ∀ (ρ : Rho) rs ρ', aNil ρ = some (rs, ρ') → rs.length = 0 := fun ρ rs ρ' e => by cases e; rfl
theorem aLen_cons {f : M} {g : MA} {n : Nat} (h : ∀ ρ rs ρ', g ρ = some (rs, ρ') → rs.length = n) : ∀ ρ rs ρ', aCons f g ρ = some (rs, ρ') → rs.length = n + 1 := fun ρ rs ρ' e => by
  unfold aCons at e
  obtain ⟨x, _, e⟩ := Option.bind_eq_some_iff.mp e
  obtain ⟨y, h2, e⟩ := Option.bind_eq_some_iff.mp e
  cases e
  simp [h _ _ _ h2]
end
end DL

set_option Elab.async false
set_option linter.all false
set_option autoImplicit false
set_option maxRecDepth 100000
set_option maxHeartbeats 1000000
namespace DL
open PySem PySem.Spec PyProof.Rows L2

/-! ### statements -/
def sNil : MS := fun ρ => some (.nx ρ)
def sSeq (g h : MS) : MS := fun ρ => (g ρ).bind fun fl => match fl with
  | .nx ρ1 => h ρ1
  | fl => some fl
def sBreak : MS := fun ρ => some (.bk ρ)
def sCont : MS := fun ρ => some (.ct ρ)
/-- a name of a slot as a value: a list is shared from then on, a dict goes over -/
def cpM (f : M) : M := fun ρ => (f ρ).bind fun x => match x.1 with
  | .al i => match x.2[i]? with
    | some (.ow (.lst ds)) => some (.sh (.list ds), x.2.set i (.sh (.list ds)))
    | some (.ow o) => some (.ow o, x.2.set i .no)
    | _ => none
  | _ => some x
def sSet (i : Nat) (f : M) : MS := fun ρ => (f ρ).bind fun x => match x.1 with
  | .sh d => some (.nx (x.2.set i (.sh d)))
  | .ow o => some (.nx (x.2.set i (.ow o)))
  | .al _ => none
  | .fd o => some (.nx (x.2.set i (.fd o)))
def sExpr (f : M) : MS := fun ρ => (f ρ).bind fun x => some (.nx x.2)
def sRet (ix : List Nat) (f : M) : MS := fun ρ => (f ρ).bind fun x => match x.1 with
  | .al i => match x.2[i]? with
    | some (.ow (.lst ds)) => if ix.contains i = true then some (.rt (.sh (.list ds)) (x.2.set i (.sh (.list ds)))) else some (.rt (.ow (.lst ds)) (x.2.set i .no))
    | some (.ow o) => some (.rt (.ow o) (x.2.set i .no))
    | _ => none
  | r => some (.rt r x.2)
def sRetN : MS := fun ρ => some (.rt (.sh .none) ρ)
def sIf (t : MB) (g h : MS) : MS := fun ρ => (t ρ).bind fun x => if x.1 = true then g x.2 else h x.2
def whileS (c : MB) (b : MS) : Nat → MS
  | 0 => fun _ => none
  | n + 1 => fun ρ => (c ρ).bind fun x => if x.1 = true then (b x.2).bind fun fl => (match fl with
    | .nx ρ2 => whileS c b n ρ2
    | .ct ρ2 => whileS c b n ρ2
    | .bk ρ2 => some (.nx ρ2)
    | .rt r ρ2 => some (.rt r ρ2)) else some (.nx x.2)
abbrev MT := Dv → Rho → Option Rho
def forS (t : MT) (b : MS) : List Dv → MS
  | [] => fun ρ => some (.nx ρ)
  | d :: ds => fun ρ => (t d ρ).bind fun ρ1 => (b ρ1).bind fun fl => match fl with
    | .nx ρ2 => forS t b ds ρ2
    | .ct ρ2 => forS t b ds ρ2
    | .bk ρ2 => some (.nx ρ2)
    | .rt r ρ2 => some (.rt r ρ2)
def sFor (f : ML) (t : MT) (b : MS) : MS := fun ρ => (f ρ).bind fun x => forS t b x.1 x.2
def tName (i : Nat) : MT := fun d ρ => some (ρ.set i (.sh d))
/-- several names -/
def tMany : List MT → List Dv → Rho → Option Rho
  | [], [], ρ => some ρ
  | t :: ts, d :: ds, ρ => (t d ρ).bind fun ρ1 => tMany ts ds ρ1
  | _, _, _ => none
def tTupT (ts : List MT) : MT := fun d ρ => match d with
  | .tuple ds => tMany ts ds ρ
  | _ => none
def sAsg (f : M) (t : MT) : MS := fun ρ => (frM f ρ).bind fun x => match x.1 with
  | .sh d => (t d x.2).bind fun ρ1 => some (.nx ρ1)
  | _ => none
def sAug (i : Nat) (g : Dv → Dv → Option Rz) (f : M) : MS := fun ρ => match ρ[i]? with
  | some (.sh d) => (pkM f ρ).bind fun x => (dat x.2 x.1).bind fun e => (g d e).bind fun r => (match r with
    | .sh z => some (.nx (x.2.set i (.sh z)))
    | .ow _ => none)
  | _ => none
section
variable {X : Cx} {ix : List Nat} {e : Expr} {es : List Expr} {f : M} {g h b : MS} {t : MB} {ga : MA} {pos p : Pos} {st : Stmt} {rest : List Stmt}
theorem ds_nil : PSs X [] (TS' X.K ix sNil) := pss_imp pss_nil fun D σ H ⟨Fr, FX, G, ρ, fl, R, hf, k⟩ => by
  cases hf
  exact k G σ H (Sub.refl _) R
theorem ds_pass : PS X (.Pass pos) (TS' X.K ix sNil) := ps_imp ps_pass fun D σ H ⟨Fr, FX, G, ρ, fl, R, hf, k⟩ => by
  cases hf
  exact k G σ H (Sub.refl _) R
theorem ds_break : PS X (.Break pos) (TS' X.K ix sBreak) := ps_imp ps_break fun D σ H ⟨Fr, FX, G, ρ, fl, R, hf, k⟩ => by
  cases hf
  exact k G σ H (Sub.refl _) R
theorem ds_cont : PS X (.Continue pos) (TS' X.K ix sCont) := ps_imp ps_continue fun D σ H ⟨Fr, FX, G, ρ, fl, R, hf, k⟩ => by
  cases hf
  exact k G σ H (Sub.refl _) R
/-- a flow's end behind a statement, D's next being h -/
theorem flp_seq {K : PySem.W.Frag} {Fr G : Hp} {FX : Nat → Option V} {fl : Fl} {D : Ends} {fl' : Fl} (h1 : (match fl with | .nx ρ1 => h ρ1 | fl => some fl) = some fl') (k : FlP K ix Fr FX G fl' D) : FlP K ix Fr FX G fl { D with nx := TS' K ix h D } := by
  cases fl with
  | nx ρ1 => exact fun G' σ' H' s R => ⟨Fr, FX, G', ρ1, fl', R, h1, k.mono s⟩
  | bk ρ1 => cases h1; exact k
  | ct ρ1 => cases h1; exact k
  | rt r ρ1 => cases h1; exact k
theorem ds_cons (h1 : PS X st (TS' X.K ix g)) (h2 : PSs X rest (TS' X.K ix h)) : PSs X (st :: rest) (TS' X.K ix (sSeq g h)) :=
  pss_imp (pss_cons h1 h2) fun D σ H ⟨Fr, FX, G, ρ, fl, R, hf, k⟩ => by
    unfold sSeq at hf
    obtain ⟨fl1, e1, hf⟩ := Option.bind_eq_some_iff.mp hf
    exact ⟨Fr, FX, G, ρ, fl1, R, e1, flp_seq hf k⟩
theorem ds_one (h1 : PS X st (TS' X.K ix g)) : PSs X [st] (TS' X.K ix g) := pss_one h1
theorem cp_ok {σ : L2.St} {H : Hp} {Q : VK} (h : TE' X.K ix (cpM f) σ H Q) : TE' X.K ix f σ H Q := by
  obtain ⟨Fr, FX, G, ρ, r, ρ', R, hf, k⟩ := h
  unfold cpM at hf
  obtain ⟨⟨r0, ρ0⟩, h0, hf⟩ := Option.bind_eq_some_iff.mp hf
  refine ⟨Fr, FX, G, ρ, r0, ρ0, R, h0, fun v G' H' s R' q => ?_⟩
  cases r0 with
  | sh d => cases hf; exact k v G' H' s R' q
  | fd d => cases hf; exact k v G' H' s R' q
  | ow o => cases hf; exact k v G' H' s R' q
  | al i =>
    simp only at hf
    split at hf
    · rename_i ds hi
      cases hf
      obtain ⟨Fr2, FX2, G2, ρ2, r2, ρ3, R2, hf2, k2⟩ := fr_ok (X := X) (ix := ix) (f := f) (Q := Q) ⟨Fr, FX, G, ρ, _, _, R, (show frM f ρ = some (.sh (.list ds), ρ0.set i (.sh (.list ds))) by unfold frM; rw [h0]; simp [hi]), k⟩
      obtain ⟨a, ev, g, fr, ⟨vs, hv, qv⟩⟩ := R'.sl i _ hi
      have e' : σ[i]? = some (some v) := q
      rw [ev] at e'
      cases e'
      have hx : Dp X.K (upd G' a (.lst vs)) (.ref a) (.list ds) := .lst (.inl (.inl upd_same)) (dpAll_mono (sub_upd g) _ _ qv)
      have hl : i < ρ0.length := (List.getElem?_eq_some_iff.mp hi).1
      have W : RS X.K ix Fr FX G' (ρ0.set i .no) σ H' := R'.weak (i := i) (s := .no) trivial (fun o z => nomatch z)
      have S := W.share hv g fr fun j o' e1 e2 => by
        by_cases hj : i = j
        · subst hj
          rw [List.getElem?_set_self hl] at e1
          cases e1
        · rw [List.getElem?_set_ne hj] at e1
          exact R'.sep i j a _ o' hj hi e1 ev e2
      have S2 := S.weak (i := i) (s := .sh (.list ds)) ⟨_, ev, hx⟩ (fun o z => nomatch z)
      rw [List.set_set] at S2
      exact k _ _ H' (s.trans (sub_upd g)) S2 hx
    · rename_i o hn hi
      cases hf
      obtain ⟨a, ev, g, fr, c⟩ := R'.sl i _ hi
      have e' : σ[i]? = some (some v) := q
      rw [ev] at e'
      cases e'
      have hl : i < ρ0.length := (List.getElem?_eq_some_iff.mp hi).1
      have W : RS X.K ix Fr FX G' (ρ0.set i .no) σ H' := R'.weak (i := i) (s := .no) trivial (fun o z => nomatch z)
      refine k _ G' H' s W ⟨a, rfl, g, fr, c, fun j o' e1 e2 => ?_⟩
      by_cases hj : i = j
      · subst hj
        rw [List.getElem?_set_self hl] at e1
        cases e1
      · rw [List.getElem?_set_ne hj] at e1
        exact R'.sep i j a _ o' hj hi e1 ev e2
    · cases hf
theorem de_cp (h : PE X e (TE' X.K ix f)) : PE X e (TE' X.K ix (cpM f)) := pe_imp h fun _ _ _ => cp_ok
theorem asg_ok {D : Ends} {σ : L2.St} {H : Hp} {i : Nat} (hi : i ∉ ix) (h : TS' X.K ix (sSet i f) D σ H) : tAsg (TE' X.K ix f) (gName i) D σ H := by
  obtain ⟨Fr, FX, G, ρ, fl, R, hf, k⟩ := h
  unfold sSet at hf
  obtain ⟨⟨r0, ρ0⟩, h0, hf⟩ := Option.bind_eq_some_iff.mp hf
  refine ⟨Fr, FX, G, ρ, r0, ρ0, R, h0, fun v G' H' s R' q => ?_⟩
  cases r0 with
  | al i => cases hf
  | sh d =>
    cases hf
    exact k G' _ H' s (R'.set hi ⟨v, rfl, q⟩ fun o a z => nomatch z)
  | fd d =>
    cases hf
    obtain ⟨a, rfl, c⟩ := q
    exact k G' _ H' s (R'.set hi ⟨a, rfl, c⟩ fun o a z => nomatch z)
  | ow o =>
    cases hf
    obtain ⟨a, rfl, g, fr, c, hn⟩ := q
    exact k G' _ H' s (R'.set hi ⟨a, rfl, g, fr, c⟩ fun o' a' z1 z2 j o2 e1 => by cases z2; exact hn j o2 e1)
theorem ds_set {i : Nat} {x : Str} {pos' : Pos} (hN : X.N.Nodup) (hi : X.N[i]? = some x) (hx : Loc X.env.scope x) (hix : i ∉ ix) (he : PE X e (TE' X.K ix f)) (hs : swapsWith e (some (.Name x pos')) pos.line X.env = pure false := by rfl) (hf : X.fn x = true ∨ X.env.scope.names.lookup x = some .local := by first | exact .inl rfl | exact .inr rfl | assumption) :
    PS X (.Assign [.Name x pos'] e pos) (TS' X.K ix (sSet i f)) := ps_imp (ps_set hN hi hx he hs hf) fun _ _ _ h => asg_ok hix h
theorem ds_expr (he : PE X e (TE' X.K ix f)) (hs : swapsWith e none pos.line X.env = pure false := by rfl) : PS X (.Expr e pos) (TS' X.K ix (sExpr f)) :=
  ps_imp (ps_expr he hs) fun D σ H ⟨Fr, FX, G, ρ, fl, R, hf, k⟩ => by
    unfold sExpr at hf
    obtain ⟨⟨r0, ρ0⟩, h0, hf⟩ := Option.bind_eq_some_iff.mp hf
    cases hf
    exact ⟨Fr, FX, G, ρ, r0, _, R, h0, fun v G' H' s R' q => k G' σ H' s R'⟩
theorem ds_retN : PS X (.Return none pos) (TS' X.K ix sRetN) := ps_imp ps_retN fun D σ H ⟨Fr, FX, G, ρ, fl, R, hf, k⟩ => by
  cases hf
  exact k G σ H .non (Sub.refl _) R .non
theorem ds_ret (he : PE X e (TE' X.K ix f)) : PS X (.Return (some e) pos) (TS' X.K ix (sRet ix f)) :=
  ps_imp (ps_ret he) fun D σ H ⟨Fr, FX, G, ρ, fl, R, hf, k⟩ => by
    unfold sRet at hf
    obtain ⟨⟨r0, ρ0⟩, h0, hf⟩ := Option.bind_eq_some_iff.mp hf
    refine ⟨Fr, FX, G, ρ, r0, ρ0, R, h0, fun v G' H' s R' q => ?_⟩
    cases r0 with
    | sh d => cases hf; exact k G' σ H' v s R' q
    | fd d => cases hf; exact k G' σ H' v s R' q
    | ow o => cases hf; exact k G' σ H' v s R' q
    | al i =>
      simp only at hf
      have e' : σ[i]? = some (some v) := q
      have move : ∀ {o : Ob}, ρ0[i]? = some (.ow o) → fl = .rt (.ow o) (ρ0.set i .no) → D.rt v H' := by
        intro o hi efl
        subst efl
        obtain ⟨a, ev, g, fr, c⟩ := R'.sl i _ hi
        rw [ev] at e'
        cases e'
        have hl : i < ρ0.length := (List.getElem?_eq_some_iff.mp hi).1
        have W : RS X.K ix Fr FX G' (ρ0.set i .no) σ H' := R'.weak (i := i) (s := .no) trivial (fun o z => nomatch z)
        refine k G' σ H' _ s W ⟨a, rfl, g, fr, c, fun j o' e1 e2 => ?_⟩
        by_cases hj : i = j
        · subst hj
          rw [List.getElem?_set_self hl] at e1
          cases e1
        · rw [List.getElem?_set_ne hj] at e1
          exact R'.sep i j a _ o' hj hi e1 ev e2
      split at hf
      · rename_i ds hi
        split at hf
        · cases hf
          obtain ⟨a, ev, g, fr, ⟨vs, hv, qv⟩⟩ := R'.sl i _ hi
          rw [ev] at e'
          cases e'
          have hx : Dp X.K (upd G' a (.lst vs)) (.ref a) (.list ds) := .lst (.inl (.inl upd_same)) (dpAll_mono (sub_upd g) _ _ qv)
          have hl : i < ρ0.length := (List.getElem?_eq_some_iff.mp hi).1
          have W : RS X.K ix Fr FX G' (ρ0.set i .no) σ H' := R'.weak (i := i) (s := .no) trivial (fun o z => nomatch z)
          have S := W.share hv g fr fun j o' e1 e2 => by
            by_cases hj : i = j
            · subst hj
              rw [List.getElem?_set_self hl] at e1
              cases e1
            · rw [List.getElem?_set_ne hj] at e1
              exact R'.sep i j a _ o' hj hi e1 ev e2
          have S2 := S.weak (i := i) (s := .sh (.list ds)) ⟨_, ev, hx⟩ (fun o z => nomatch z)
          rw [List.set_set] at S2
          exact k _ σ H' _ (s.trans (sub_upd g)) S2 hx
        · cases hf; exact move hi rfl
      · rename_i o hn hi
        cases hf; exact move hi rfl
      · cases hf
theorem ds_if {c : Expr} {b1 b2 : List Stmt} (hc : PT X c (TT' X.K ix t)) (h1 : PSs X b1 (TS' X.K ix g)) (h2 : PSs X b2 (TS' X.K ix h)) : PS X (.If c b1 b2 pos) (TS' X.K ix (sIf t g h)) :=
  ps_imp (ps_if hc h1 h2) fun D σ H ⟨Fr, FX, G, ρ, fl, R, hf, k⟩ => by
    unfold sIf at hf
    obtain ⟨⟨k1, ρ1⟩, e1, hf⟩ := Option.bind_eq_some_iff.mp hf
    refine ⟨Fr, FX, G, ρ, k1, ρ1, R, e1, fun G1 H1 s1 R1 => ?_⟩
    cases k1 with
    | true => exact ⟨Fr, FX, G1, ρ1, fl, R1, hf, k.mono s1⟩
    | false => exact ⟨Fr, FX, G1, ρ1, fl, R1, hf, k.mono s1⟩
/-- a turn's flow, for a loop that goes on by `go` -/
theorem flp_turn {K : PySem.W.Frag} {Fr G : Hp} {FX : Nat → Option V} {fl fl' : Fl} {D : Ends} {go : MS} {N : L2.St → Hp → Prop}
    (h1 : (match fl with | .nx ρ2 => go ρ2 | .ct ρ2 => go ρ2 | .bk ρ2 => some (Fl.nx ρ2) | .rt r ρ2 => some (Fl.rt r ρ2)) = some fl') (k : FlP K ix Fr FX G fl' D)
    (hN : ∀ ρ2 G' σ' H', go ρ2 = some fl' → Sub G G' → RS K ix Fr FX G' ρ2 σ' H' → N σ' H') : FlP K ix Fr FX G fl { D with nx := N, ct := N, bk := D.nx } := by
  cases fl with
  | nx ρ2 => exact fun G' σ' H' s R => hN ρ2 G' σ' H' h1 s R
  | ct ρ2 => exact fun G' σ' H' s R => hN ρ2 G' σ' H' h1 s R
  | bk ρ2 => cases h1; exact k
  | rt r ρ2 => cases h1; exact k
theorem ds_while {c : Expr} {body : List Stmt} (n : Nat) (hp : PassesOwn (model X.prog X.w) X.A X.env X.xe) (hc : PT X c (TT' X.K ix t)) (hb : PSs X body (TS' X.K ix b)) : PS X (.While c body [] pos) (TS' X.K ix (whileS t b n)) :=
  ps_imp (ps_while hp hc hb) fun D σ H ⟨Fr, FX, G, ρ, fl, R, hf, k⟩ => by
    refine ⟨fun m σ H => ∃ G1 ρ1, Sub G G1 ∧ RS X.K ix Fr FX G1 ρ1 σ H ∧ whileS t b m ρ1 = some fl, ⟨n, G, ρ, Sub.refl _, R, hf⟩, ?_⟩
    rintro m σ1 H1 ⟨G1, ρ1, s1, R1, e1⟩
    cases m with
    | zero => cases e1
    | succ m =>
      unfold whileS at e1
      obtain ⟨⟨k1, ρ2⟩, e2, e1⟩ := Option.bind_eq_some_iff.mp e1
      refine ⟨Fr, FX, G1, ρ1, k1, ρ2, R1, e2, fun G2 H2 s2 R2 => ?_⟩
      cases k1 with
      | false =>
        cases e1
        exact k G2 σ1 H2 (s1.trans s2) R2
      | true =>
        obtain ⟨fl1, e3, e1⟩ := Option.bind_eq_some_iff.mp e1
        rw [if_pos rfl]
        refine ⟨fun σ H => ∃ G1 ρ1, Sub G G1 ∧ RS X.K ix Fr FX G1 ρ1 σ H ∧ whileS t b m ρ1 = some fl, fun σ' H' w => ⟨m, Nat.lt_succ_self m, w⟩, ?_⟩
        exact ⟨Fr, FX, G2, ρ2, fl1, R2, e3, flp_turn e1 (k.mono (s1.trans s2)) fun ρ3 G' σ' H' e4 s R => ⟨G', ρ3, (s1.trans s2).trans s, R, e4⟩⟩
theorem ds_for {tg it : Expr} {body : List Stmt} {fi : ML} {tis : List Nat} {tt : MT} (hp : PassesOwn (model X.prog X.w) X.A X.env X.xe) (hc : X.calm = true) (hi : PI X tg it (TI' X.K ix fi)) (hg : PG X tg (TG' X.K ix tis tt)) (hb : PSs X body (TS' X.K ix b))
    (hs : ∀ x, foldedSetIterable it X.env x = pure x := by intro _; rfl) : PS X (.For tg it body [] pos) (TS' X.K ix (sFor fi tt b)) :=
  ps_imp (ps_for hp hc hi hg hb hs) fun D σ H ⟨Fr, FX, G, ρ, fl, R, hf, k⟩ => by
    unfold sFor at hf
    obtain ⟨⟨ds, ρ0⟩, e0, hf⟩ := Option.bind_eq_some_iff.mp hf
    refine ⟨Fr, FX, G, ρ, ds, ρ0, R, e0, fun J G0 H0 s0 R0 jk => ?_⟩
    refine ⟨fun i m σ H => m = ds.length - i ∧ i ≤ ds.length ∧ ∃ G1 ρ1, Sub G0 G1 ∧ RS X.K ix Fr FX G1 ρ1 σ H ∧ forS tt b (ds.drop i) ρ1 = some fl, ⟨ds.length, by simp, Nat.zero_le _, G0, ρ0, Sub.refl _, R0, hf⟩, ?_⟩
    rintro i m σ1 H1 ⟨rfl, hle, G1, ρ1, s1, R1, e1⟩
    obtain ⟨j1, j2⟩ := jk i G1 H1 s1 R1.gh
    by_cases hlt : i < ds.length
    · have hd : ds[i]? = some ds[i] := List.getElem?_eq_getElem hlt
      obtain ⟨j3, j4⟩ := j1 _ hd
      rw [List.drop_eq_getElem_cons hlt] at e1
      unfold forS at e1
      obtain ⟨ρ2, e2, e1⟩ := Option.bind_eq_some_iff.mp e1
      obtain ⟨fl1, e3, e1⟩ := Option.bind_eq_some_iff.mp e1
      refine .inr ⟨j3, fun σ H => ∃ G1 ρ1, Sub G0 G1 ∧ RS X.K ix Fr FX G1 ρ1 σ H ∧ forS tt b (ds.drop (i + 1)) ρ1 = some fl, fun σ' H' w => ⟨ds.length - (i + 1), by omega, rfl, hlt, w⟩, fun x H2 y => ?_⟩
      have key : ∃ G2, Sub G1 G2 ∧ RS X.K ix Fr FX G2 ρ1 σ1 H2 ∧ Dp X.K G2 x ds[i] := by
        rcases j4 x H2 y with ⟨rfl, q⟩ | ⟨p, o, hp, rfl, q⟩
        · exact ⟨G1, Sub.refl _, R1, q⟩
        · exact ⟨_, sub_upd (R1.none_of hp).1, R1.newG hp, q⟩
      obtain ⟨G2, s2, R2, q⟩ := key
      refine ⟨Fr, FX, G2, ρ1, _, ρ2, R2, q, e2, fun G3 σ3 H3 s3 _ R3 => ?_⟩
      refine ⟨Fr, FX, G3, ρ2, fl1, R3, e3, flp_turn e1 (k.mono (((s0.trans s1).trans s2).trans s3)) fun ρ4 G' σ' H' e4 s R => ⟨G', ρ4, ((s1.trans s2).trans s3).trans s, R, e4⟩⟩
    · have hi : i = ds.length := by omega
      subst hi
      rw [List.drop_length] at e1
      cases e1
      exact .inl ⟨j2 (Nat.le_refl _), k G1 σ1 H1 (s0.trans s1) R1⟩
/-! ### targets -/
theorem dg_name {i : Nat} {x : Str} (hN : X.N.Nodup) (hi : X.N[i]? = some x) (hx : Loc X.env.scope x) (hix : i ∉ ix) (hf : X.fn x = true ∨ X.env.scope.names.lookup x = some .local := by first | exact .inl rfl | exact .inr rfl | assumption) : PG X (.Name x pos) (TG' X.K ix [i] (tName i)) :=
  pg_imp (pg_name hN hi hx hf) fun v σ H Q ⟨Fr, FX, G, ρ, d, ρ', R, q, e, k⟩ => by
    cases e
    refine k G _ H (Sub.refl _) ⟨List.length_set, fun j hj => ?_⟩ (R.set hix ⟨v, rfl, q⟩ fun o a z => nomatch z)
    rw [List.getElem?_set_ne (fun z => hj (by rw [z]; exact List.mem_singleton_self _))]
inductive DGs (X : Cx) (ix : List Nat) : List Expr → List Nat → List MT → Prop
  | nil : DGs X ix [] [] []
  | cons {e : Expr} {es : List Expr} {tis tjs : List Nat} {t : MT} {ts : List MT} : PG X e (TG' X.K ix tis t) → DGs X ix es tjs ts → DGs X ix (e :: es) (tis ++ tjs) (t :: ts)
def TGs' (K : PySem.W.Frag) (ix tis : List Nat) (ts : List MT) : TGs := fun vs σ H Q => ∃ Fr FX G ρ ds ρ', RS K ix Fr FX G ρ σ H ∧ DpAll K G vs ds ∧ tMany ts ds ρ = some ρ' ∧
  ∀ G' σ' H', Sub G G' → (σ'.length = σ.length ∧ ∀ j, j ∉ tis → σ'[j]? = σ[j]?) → RS K ix Fr FX G' ρ' σ' H' → Q σ' H'
theorem pgs_imp {es : List Expr} {t t' : TGs} (h : PGs X es t) (k : ∀ v σ H Q, t' v σ H Q → t v σ H Q) : PGs X es t' := ⟨fun pins s σ H v u Q I r q => h.run pins s σ H v u Q I r (k _ _ _ _ q)⟩
theorem dgs_nil : PGs X [] (TGs' X.K ix [] []) := pgs_imp pgs_nil fun vs σ H Q ⟨Fr, FX, G, ρ, ds, ρ', R, q, e, k⟩ => by
  cases q with
  | nil => cases e; exact ⟨rfl, k G σ H (Sub.refl _) ⟨rfl, fun _ _ => rfl⟩ R⟩
  | cons _ _ => cases e
theorem dgs_cons {tis tjs : List Nat} {t : MT} {ts : List MT} (h1 : PG X e (TG' X.K ix tis t)) (h2 : PGs X es (TGs' X.K ix tjs ts)) (hs : (assignEach (e :: es) X.env).map (·.2) = assign e X.env :: (assignEach es X.env).map (·.2) := by rfl) :
    PGs X (e :: es) (TGs' X.K ix (tis ++ tjs) (t :: ts)) := pgs_imp (pgs_cons h1 h2 hs) fun vs σ H Q ⟨Fr, FX, G, ρ, ds, ρ', R, q, e, k⟩ => by
  cases q with
  | nil => cases e
  | @cons v vs d ds q1 q2 =>
    unfold tMany at e
    obtain ⟨ρ1, e1, e⟩ := Option.bind_eq_some_iff.mp e
    refine ⟨v, vs, rfl, Fr, FX, G, ρ, d, ρ1, R, q1, e1, fun G1 σ1 H1 s1 n1 R1 => ?_⟩
    refine ⟨Fr, FX, G1, ρ1, ds, ρ', R1, dpAll_mono s1 _ _ q2, e, fun G2 σ2 H2 s2 n2 R2 => k G2 σ2 H2 (s1.trans s2) ⟨n2.1.trans n1.1, fun j hj => ?_⟩ R2⟩
    rw [List.mem_append, not_or] at hj
    rw [n2.2 j hj.2, n1.2 j hj.1]
theorem tMany_length : ∀ {ts : List MT} {ds : List Dv} {ρ ρ' : Rho}, tMany ts ds ρ = some ρ' → ds.length = ts.length
  | [], [], _, _, _ => rfl
  | t :: ts, d :: ds, ρ, ρ', h => by
    unfold tMany at h
    obtain ⟨ρ1, _, h⟩ := Option.bind_eq_some_iff.mp h
    simp [tMany_length h]
  | [], _ :: _, _, _, h => by cases h
  | _ :: _, [], _, _, h => by cases h
theorem dg_tup {tis : List Nat} {ts : List MT} {k n : Nat} (hc : X.calm = true) (h : PGs X es (TGs' X.K ix tis ts)) (hl : ts.length = n := by rfl) (hn : (assignEach es X.env).length = n := by rfl) (hst : (assignEach es X.env).findIdx? (·.1) = none := by rfl) :
    PG X (.Tuple es k pos) (TG' X.K ix tis (tTupT ts)) := pg_imp (pg_tup hc h hn hst) fun v σ H Q ⟨Fr, FX, G, ρ, d, ρ', R, q, e, kk⟩ => by
  unfold tTupT at e
  split at e
  · rename_i ds
    cases q with
    | tup hs ha => exact ⟨_, _, rfl, R.sub.sqT hs, by rw [dpAll_length ha, tMany_length e]; exact hl, Fr, FX, G, ρ, ds, ρ', R, ha, e, kk⟩
  · cases e
theorem ds_asg {tg : Expr} {tis : List Nat} {tt : MT} (he : PE X e (TE' X.K ix f)) (hg : PG X tg (TG' X.K ix tis tt)) (hs : swapsWithSole [tg] e pos.line X.env = pure false := by rfl) (hw : swappedStores [tg] e X.env = pure none := by rfl)
    (h1 : (assignEach [tg] X.env).map (·.2) = [assign tg X.env] := by rfl) : PS X (.Assign [tg] e pos) (TS' X.K ix (sAsg f tt)) :=
  ps_imp (ps_asg (de_fr he) hg hs hw h1) fun D σ H ⟨Fr, FX, G, ρ, fl, R, hf, k⟩ => by
    unfold sAsg at hf
    obtain ⟨⟨r0, ρ0⟩, h0, hf⟩ := Option.bind_eq_some_iff.mp hf
    refine ⟨Fr, FX, G, ρ, r0, ρ0, R, h0, fun v G' H' s R' q => ?_⟩
    cases r0 with
    | ow o => cases hf
    | fd o => cases hf
    | al i => cases hf
    | sh d =>
      simp only at hf
      obtain ⟨ρ1, e1, hf⟩ := Option.bind_eq_some_iff.mp hf
      cases hf
      exact ⟨Fr, FX, G', ρ0, d, _, R', q, e1, fun G2 σ2 H2 s2 _ R2 => k G2 σ2 H2 (s.trans s2) R2⟩
theorem ds_aug {i : Nat} {x : Str} {op : Operator} {gg : Dv → Dv → Option Rz} {pos' : Pos} (hN : X.N.Nodup) (hi : X.N[i]? = some x) (hx : Loc X.env.scope x) (hix : i ∉ ix) (he : PE X e (TE' X.K ix f)) (ho : OpD X (inplaceOp op) gg) (hf : X.fn x = true ∨ X.env.scope.names.lookup x = some .local := by first | exact .inl rfl | exact .inr rfl | assumption) :
    PS X (.AugAssign (.Name x pos') op e pos) (TS' X.K ix (sAug i gg f)) :=
  ps_imp (ps_aug (ti := R2d X.K gg) hN hi hx (de_pk he) (fun pins s σ H x y v u Q I r1 r2 h => ho pins s σ H x y v u Q I r1 r2 h) hf) fun D σ H ⟨Fr, FX, G, ρ, fl, R, hf, k⟩ => by
    unfold sAug at hf
    split at hf
    · rename_i d hd
      obtain ⟨v, ev, q⟩ := R.sl i _ hd
      obtain ⟨⟨r0, ρ0⟩, h0, hf⟩ := Option.bind_eq_some_iff.mp hf
      obtain ⟨e', h1, hf⟩ := Option.bind_eq_some_iff.mp hf
      obtain ⟨r, h2, hf⟩ := Option.bind_eq_some_iff.mp hf
      cases r with
      | ow o => cases hf
      | sh z =>
        cases hf
        refine ⟨v, ev, Fr, FX, G, ρ, r0, ρ0, R, h0, fun y G1 H1 s1 R1 v1 => ?_⟩
        refine ⟨G1, d, e', .sh z, R1.gh, dp_vd R1.gh (dp_mono s1 _ _ q), dat_vd R1 v1 h1, h2, res_ok R1 fun w G2 H2 s2 R2 v2 => ?_⟩
        exact k G2 _ H2 (s1.trans s2) (R2.set hix ⟨w, rfl, v2⟩ fun o a z => nomatch z)
    · cases hf
end
end DL

set_option Elab.async false
set_option linter.all false
set_option autoImplicit false
set_option maxRecDepth 100000
set_option maxHeartbeats 1000000
namespace DL
open PySem PySem.Spec PyProof.Rows L2

/-! ### what loops walk -/
def itemsOf : Dv → Option (List Dv)
  | .list ds => some ds
  | .tuple ds => some ds
  | _ => none
def iSeq (f : M) : ML := fun ρ => (frM f ρ).bind fun x => match x.1 with
  | .sh d => (itemsOf d).bind fun ds => some (ds, x.2)
  | _ => none
def rangeD (lo : Int) (n : Nat) : List Dv := (List.range n).map fun i => .int (lo + (i : Nat))
def bnd62 (i : Int) : Bool := decide (-(4611686018427387904) ≤ i ∧ i < 4611686018427387904)
def rng1 : List Dv → Option (List Dv)
  | [.int j] => if bnd62 j = true then some (rangeD 0 j.toNat) else none
  | _ => none
def rng2 : List Dv → Option (List Dv)
  | [.int i, .int j] => if bnd62 i = true ∧ bnd62 j = true then some (rangeD i (j - i).toNat) else none
  | _ => none
def rangeDC (lo c : Int) (n : Nat) : List Dv := (List.range n).map fun i => .int (lo + (i : Nat) * c)
def rng3 : List Dv → Option (List Dv)
  | [.int i, .int j, .int c] => if bnd62 i = true ∧ bnd62 j = true ∧ c = -1 then some (rangeDC i (-1) (i - j).toNat) else none
  | _ => none
def iRng (r : List Dv → Option (List Dv)) (ga : MA) : ML := fun ρ => (ga ρ).bind fun x => (dats x.2 x.1).bind fun ds => (r ds).bind fun es => some (es, x.2)
section
variable {X : Cx} {ix : List Nat} {e a b : Expr} {f : M} {ga : MA} {tg : Expr} {pos p : Pos}
def tSeqI (K : PySem.W.Frag) (tl : TE) : TI := fun σ H R => tl σ H fun x H1 => ∃ a, x = .ref a ∧ ((∃ xs, SqL K H1 a xs ∧ R (Itl K a) H1) ∨ ∃ xs, SqT K H1 a xs ∧ R (Itt K a) H1)
theorem fp_new {pins : List (Addr × Obj)} {σ : L2.St} {H : Hp} {s : Shared} (I : Inv X pins σ H s) : ∀ b ∈ [s.heap.objs.size], FpOk X pins H b := fun b hb => by
  obtain rfl : b = s.heap.objs.size := by simpa using hb
  exact I.fpOk (Nat.le_refl _) I.fresh
theorem pi_seqI {tl : TE} (hl : PE X e tl) : PI X tg e (tSeqI X.K tl) := ⟨fun pins s σ H R I h => thn (hl.run pins s σ H _ I h) fun v s1 ⟨x, H1, I1, r1, a, ea, q⟩ => by
  subst ea
  cases r1
  rcases q with ⟨xs, hq, q⟩ | ⟨xs, hq, q⟩
  · obtain ⟨its, rv, pl, hz⟩ := I1.list hq
    exact wpAny_pyIter_list pl.isList ⟨_, [_], _, _, H1, rfl, I1.kept (t' := s1.toks) fun b o e => Heap.get?_push_of_some _ e, turn_list a _, ⟨_, Heap.get?_push_size _ rfl, rfl, rfl⟩, fp_new I1, q⟩
  · obtain ⟨its, rv, pl, hz⟩ := I1.tuple hq
    exact wpAny_pyIter_tuple (show s1.heap.IsTuple a its.toArray from pl) ⟨_, [_], _, _, H1, rfl, I1.kept (t' := s1.toks) fun b o e => Heap.get?_push_of_some _ e, turn_tuple a _, ⟨_, Heap.get?_push_size _ rfl, rfl, rfl⟩, fp_new I1, q⟩⟩
theorem jok_list {K : PySem.W.Frag} {G : Hp} {a : Addr} {ds : List Dv} {vs : List V} (h : SqL K G a vs) (q : DpAll K G vs ds) : Jok K G (Itl K a) ds := fun i G1 H1 s gh => by
  have hs : SqL K H1 a vs := (s.trans (sub_le gh)).sqL h
  have l := dpAll_length q
  refine ⟨fun d hd => ?_, fun hl => ⟨vs, hs, by omega⟩⟩
  obtain ⟨v, hv, qv⟩ := dpAll_get q hd
  refine ⟨⟨vs, v, hs, hv⟩, fun x H2 ⟨e1, e2⟩ => .inl ⟨e1, ?_⟩⟩
  have := e2 vs hs
  rw [hv] at this
  cases this
  exact dp_mono s _ _ qv
theorem jok_tup {K : PySem.W.Frag} {G : Hp} {a : Addr} {ds : List Dv} {vs : List V} (h : SqT K G a vs) (q : DpAll K G vs ds) : Jok K G (Itt K a) ds := fun i G1 H1 s gh => by
  have hs : SqT K H1 a vs := (s.trans (sub_le gh)).sqT h
  have l := dpAll_length q
  refine ⟨fun d hd => ?_, fun hl => ⟨vs, hs, by omega⟩⟩
  obtain ⟨v, hv, qv⟩ := dpAll_get q hd
  refine ⟨⟨vs, v, hs, hv⟩, fun x H2 ⟨e1, e2⟩ => .inl ⟨e1, ?_⟩⟩
  have := e2 vs hs
  rw [hv] at this
  cases this
  exact dp_mono s _ _ qv
theorem di_seq (h : PE X e (TE' X.K ix f)) : PI X tg e (TI' X.K ix (iSeq f)) :=
  pi_imp (pi_seqI (de_fr h)) fun σ H R ⟨Fr, FX, G, ρ, ds, ρ', R0, hf, k⟩ => by
    unfold iSeq at hf
    obtain ⟨⟨r0, ρ0⟩, h0, hf⟩ := Option.bind_eq_some_iff.mp hf
    refine ⟨Fr, FX, G, ρ, r0, ρ0, R0, h0, fun v G1 H1 s1 R1 q => ?_⟩
    cases r0 with
    | ow o => cases hf
    | fd o => cases hf
    | al i => cases hf
    | sh d =>
      simp only at hf
      obtain ⟨es, he, hf⟩ := Option.bind_eq_some_iff.mp hf
      cases hf
      have q' : Dp X.K G1 v d := q
      cases d with
      | list ds =>
        cases he
        cases q' with
        | lst hs ha => exact ⟨_, rfl, .inl ⟨_, R1.sub.sqL hs, k _ G1 H1 s1 R1 (jok_list hs ha)⟩⟩
      | tuple ds =>
        cases he
        cases q' with
        | tup hs ha => exact ⟨_, rfl, .inr ⟨_, R1.sub.sqT hs, k _ G1 H1 s1 R1 (jok_tup hs ha)⟩⟩
      | none => cases he
      | bool b => cases he
      | int b => cases he
      | str b => cases he
      | dict b => cases he
theorem rangeD_get {lo : Int} {n i : Nat} {d : Dv} (h : (rangeD lo n)[i]? = some d) : i < n ∧ d = .int (lo + (i : Nat)) := by
  unfold rangeD at h
  rw [List.getElem?_map] at h
  cases hr : (List.range n)[i]? with
  | none => rw [hr] at h; cases h
  | some j =>
    rw [hr] at h
    obtain ⟨hl, hj⟩ := List.getElem?_eq_some_iff.mp hr
    rw [List.getElem_range] at hj
    subst hj
    cases h
    exact ⟨by simpa using hl, rfl⟩
theorem jok_rng {K : PySem.W.Frag} {G : Hp} {lo : Int} {n : Nat} : Jok K G (Itr lo n) (rangeD lo n) := fun i G1 H1 s gh => by
  refine ⟨fun d hd => ?_, fun hl => (show n ≤ i by simpa [rangeD] using hl)⟩
  obtain ⟨hi, rfl⟩ := rangeD_get hd
  exact ⟨hi, fun x H2 ⟨e1, e2⟩ => .inl ⟨e1, by subst e2; exact .int _⟩⟩
theorem rng_open {r : List Dv → Option (List Dv)} {σ : L2.St} {H : Hp} {R : It → Hp → Prop} {Z : List V → Hp → Prop} (h : TI' X.K ix (iRng r ga) σ H R)
    (k : ∀ G1 H1 (vs : List V) (ds es : List Dv), (∀ a o, G1 a = some o → H1 a = some o) → VDs X.K G1 H1 ds vs → r ds = some es → (∀ J, Jok X.K G1 J es → R J H1) → Z vs H1) : TA' X.K ix ga σ H Z := by
  obtain ⟨Fr, FX, G, ρ, ds, ρ', R0, hf, kk⟩ := h
  unfold iRng at hf
  obtain ⟨⟨rs, ρ0⟩, h0, hf⟩ := Option.bind_eq_some_iff.mp hf
  obtain ⟨es, h1, hf⟩ := Option.bind_eq_some_iff.mp hf
  obtain ⟨fs, h2, hf⟩ := Option.bind_eq_some_iff.mp hf
  cases hf
  exact ⟨Fr, FX, G, ρ, rs, _, R0, h0, fun vs G1 H1 s1 R1 v1 => k G1 H1 vs es _ R1.gh (dats_vd R1 v1 h1) h2 fun J j => kk J G1 H1 s1 R1 j⟩
theorem di_range1 (hg : Gl X "range") (hm : X.mg "range" = none) (ha : PA X [a] (TA' X.K ix ga)) (hs : starEach [a] X.env = [(false, eval a X.env)] := by rfl) : PI X tg (.Call (.Name "range" p) [a] [] pos) (TI' X.K ix (iRng rng1 ga)) :=
  pi_imp (pi_range1 hg hm ha hs) fun σ H R h => rng_open h fun G1 H1 vs ds es gh vd hr k => by
    unfold rng1 at hr
    split at hr
    · split at hr
      · rename_i hb
        cases hr
        obtain ⟨v, rfl, hv⟩ := vds1 vd
        rw [vd_int hv]
        have hb' := of_decide_eq_true hb
        exact ⟨_, rfl, hb'.1, hb'.2, k _ jok_rng⟩
      · cases hr
    · cases hr
theorem di_range2 (hg : Gl X "range") (hm : X.mg "range" = none) (ha : PA X [a, b] (TA' X.K ix ga)) (hs : starEach [a, b] X.env = [(false, eval a X.env), (false, eval b X.env)] := by rfl) (hs2 : starEach [b] X.env = [(false, eval b X.env)] := by rfl) : PI X tg (.Call (.Name "range" p) [a, b] [] pos) (TI' X.K ix (iRng rng2 ga)) :=
  pi_imp (pi_range2 hg hm ha hs hs2) fun σ H R h => rng_open h fun G1 H1 vs ds es gh vd hr k => by
    unfold rng2 at hr
    split at hr
    · split at hr
      · rename_i hb
        cases hr
        obtain ⟨v, v', rfl, hv, hv'⟩ := vds2 vd
        rw [vd_int hv, vd_int hv']
        have h1 := of_decide_eq_true hb.1
        have h2 := of_decide_eq_true hb.2
        exact ⟨_, _, rfl, ⟨h1.1, h1.2, h2.1, h2.2⟩, k _ jok_rng⟩
      · cases hr
    · cases hr
theorem vds3 {K : PySem.W.Frag} {G H : Hp} {d d' d2 : Dv} {xs : List V} (h : VDs K G H [d, d', d2] xs) : ∃ v v' v2, xs = [v, v', v2] ∧ VD K G H d v ∧ VD K G H d' v' ∧ VD K G H d2 v2 := by
  cases h with | cons h1 h2 => cases h2 with | cons h3 h4 => cases h4 with | cons h5 h6 => cases h6; exact ⟨_, _, _, rfl, h1, h3, h5⟩
theorem rangeDC_get {lo c : Int} {n i : Nat} {d : Dv} (h : (rangeDC lo c n)[i]? = some d) : i < n ∧ d = .int (lo + (i : Nat) * c) := by
  unfold rangeDC at h
  rw [List.getElem?_map] at h
  cases hr : (List.range n)[i]? with
  | none => rw [hr] at h; cases h
  | some j =>
    rw [hr] at h
    obtain ⟨hl, hj⟩ := List.getElem?_eq_some_iff.mp hr
    rw [List.getElem_range] at hj
    subst hj
    cases h
    exact ⟨by simpa using hl, rfl⟩
theorem jok_rngC {K : PySem.W.Frag} {G : Hp} {lo c : Int} {n : Nat} : Jok K G (Itc lo c n) (rangeDC lo c n) := fun i G1 H1 s gh => by
  refine ⟨fun d hd => ?_, fun hl => (show n ≤ i by simpa [rangeDC] using hl)⟩
  obtain ⟨hi, rfl⟩ := rangeDC_get hd
  exact ⟨hi, fun x H2 ⟨e1, e2⟩ => .inl ⟨e1, by subst e2; exact .int _⟩⟩
theorem jok_rev {K : PySem.W.Frag} {G : Hp} {a : Addr} {ds : List Dv} {vs : List V} (h : SqL K G a vs) (q : DpAll K G vs ds) : Jok K G (Itv K a vs.length) ds.reverse := fun i G1 H1 s gh => by
  have hs : SqL K H1 a vs := (s.trans (sub_le gh)).sqL h
  have l := dpAll_length q
  refine ⟨fun d hd => ?_, fun hl => ?_⟩
  · have hi : i < ds.length := by have := (List.getElem?_eq_some_iff.mp hd).1; simpa using this
    rw [List.getElem?_reverse hi] at hd
    obtain ⟨v, hv, qv⟩ := dpAll_get q hd
    have hv' : vs[vs.length - 1 - i]? = some v := by rw [l]; exact hv
    refine ⟨?_, fun x H2 y => ?_⟩
    · exact ⟨by omega, vs, v, hs, hv'⟩
    · obtain ⟨e1, e2⟩ := y
      have := e2 vs hs
      rw [hv'] at this
      cases this
      exact .inl ⟨e1, dp_mono s _ _ qv⟩
  · exact (show vs.length ≤ i by simpa [l] using hl)
theorem jok_revT {K : PySem.W.Frag} {G : Hp} {a : Addr} {ds : List Dv} {vs : List V} (h : SqT K G a vs) (q : DpAll K G vs ds) : Jok K G (RT.ItvT K a vs.length) ds.reverse := fun i G1 H1 s gh => by
  have hs : SqT K H1 a vs := (s.trans (sub_le gh)).sqT h
  have l := dpAll_length q
  refine ⟨fun d hd => ?_, fun hl => ?_⟩
  · have hi : i < ds.length := by have := (List.getElem?_eq_some_iff.mp hd).1; simpa using this
    rw [List.getElem?_reverse hi] at hd
    obtain ⟨v, hv, qv⟩ := dpAll_get q hd
    have hv' : vs[vs.length - 1 - i]? = some v := by rw [l]; exact hv
    refine ⟨?_, fun x H2 y => ?_⟩
    · exact ⟨by omega, vs, v, hs, hv'⟩
    · obtain ⟨e1, e2⟩ := y
      have := e2 vs hs
      rw [hv'] at this
      cases this
      exact .inl ⟨e1, dp_mono s _ _ qv⟩
  · exact (show vs.length ≤ i by simpa [l] using hl)
def iRevS (f : M) : ML := fun ρ => (iSeq f ρ).bind fun x => some (x.1.reverse, x.2)
theorem di_rev (hg : Gl X "reversed") (hm : X.mg "reversed" = none) (he : PE X e (TE' X.K ix f)) (hs : starEach [e] X.env = (false, eval e X.env) :: starEach [] X.env := by rfl) : PI X tg (.Call (.Name "reversed" p) [e] [] pos) (TI' X.K ix (iRevS f)) :=
  pi_imp (RT.pi_revA hg hm (de_fr he) hs) fun σ H R ⟨Fr, FX, G, ρ, ds, ρ', R0, hf, k⟩ => by
    unfold iRevS iSeq at hf
    obtain ⟨⟨ds0, ρ1⟩, hq, hf⟩ := Option.bind_eq_some_iff.mp hf
    cases hf
    obtain ⟨⟨r0, ρ0⟩, h0, hq⟩ := Option.bind_eq_some_iff.mp hq
    refine ⟨Fr, FX, G, ρ, r0, ρ0, R0, h0, fun v G1 H1 s1 R1 q => ?_⟩
    cases r0 with
    | ow o => cases hq
    | fd o => cases hq
    | al i => cases hq
    | sh d =>
      simp only at hq
      obtain ⟨es, he, hq⟩ := Option.bind_eq_some_iff.mp hq
      cases hq
      have q' : Dp X.K G1 v d := q
      cases d with
      | list ds =>
        cases he
        cases q' with
        | lst hs ha => exact ⟨_, _, rfl, .inl ⟨R1.sub.sqL hs, k _ G1 H1 s1 R1 (jok_rev hs ha)⟩⟩
      | tuple ds =>
        cases he
        cases q' with
        | tup hs ha => exact ⟨_, _, rfl, .inr ⟨R1.sub.sqT hs, k _ G1 H1 s1 R1 (jok_revT hs ha)⟩⟩
      | none => cases he
      | bool b => cases he
      | int b => cases he
      | str b => cases he
      | dict b => cases he
theorem di_range3 {c : Expr} (hg : Gl X "range") (hm : X.mg "range" = none) (ha : PA X [a, b, c] (TA' X.K ix ga)) (h1 : starEach [a, b, c] X.env = (false, eval a X.env) :: starEach [b, c] X.env := by rfl) (h2 : (backTo pos (starEach [b, c] X.env)).any (·.1) = false := by rfl) :
    PI X tg (.Call (.Name "range" p) [a, b, c] [] pos) (TI' X.K ix (iRng rng3 ga)) :=
  pi_imp (pi_range3 hg hm ha h1 h2) fun σ H R h => rng_open h fun G1 H1 vs ds es gh vd hr k => by
    unfold rng3 at hr
    split at hr
    · split at hr
      · rename_i hb
        cases hr
        obtain ⟨v, v', v2, rfl, hv, hv', hv2⟩ := vds3 vd
        rw [vd_int hv, vd_int hv', vd_int hv2]
        have h1 := of_decide_eq_true hb.1
        have h2 := of_decide_eq_true hb.2.1
        rw [hb.2.2]
        exact ⟨_, _, _, _, rfl, RgC.neg h1.1 h1.2 h2.1 h2.2, k _ jok_rngC⟩
      · cases hr
    · cases hr

/-! ### wiped slots -/
def wipeR : Rho → List Nat → Rho
  | ρ, [] => ρ
  | ρ, i :: is => (wipeR ρ is).set i .no
theorem wipeR_length (ρ : Rho) : ∀ is : List Nat, (wipeR ρ is).length = ρ.length
  | [] => rfl
  | i :: is => by unfold wipeR; rw [List.length_set, wipeR_length ρ is]
theorem wipeR_out {ρ : Rho} {j : Nat} : ∀ {is : List Nat}, j ∉ is → (wipeR ρ is)[j]? = ρ[j]?
  | [], _ => rfl
  | i :: is, h => by
    unfold wipeR
    rw [List.getElem?_set_ne (fun z => h (by rw [z]; exact List.mem_cons_self)), wipeR_out fun z => h (List.mem_cons_of_mem _ z)]
theorem wipeR_in {ρ : Rho} {j : Nat} {s : Sl} : ∀ {is : List Nat}, j ∈ is → (wipeR ρ is)[j]? = some s → s = .no
  | i :: is, h, e => by
    unfold wipeR at e
    by_cases hj : i = j
    · subst hj
      have hl : i < (wipeR ρ is).length := by
        have := (List.getElem?_eq_some_iff.mp e).1
        simpa using this
      rw [List.getElem?_set_self hl] at e
      exact (Option.some.inj e).symm
    · rw [List.getElem?_set_ne hj] at e
      exact wipeR_in (List.mem_of_ne_of_mem (fun z => hj z.symm) h) e
theorem wipe_in {σ : L2.St} {j : Nat} {s : Option V} : ∀ {is : List Nat}, j ∈ is → (wipe σ is)[j]? = some s → s = none
  | i :: is, h, e => by
    unfold wipe at e
    by_cases hj : i = j
    · subst hj
      have hl : i < (wipe σ is).length := by
        have := (List.getElem?_eq_some_iff.mp e).1
        simpa using this
      rw [List.getElem?_set_self hl] at e
      exact (Option.some.inj e).symm
    · rw [List.getElem?_set_ne hj] at e
      exact wipe_in (List.mem_of_ne_of_mem (fun z => hj z.symm) h) e
theorem wipe_eq {σ τ : L2.St} {is : List Nat} (hl : σ.length = τ.length) (h : ∀ j, j ∉ is → σ[j]? = τ[j]?) : wipe σ is = wipe τ is := by
  refine List.ext_getElem? fun j => ?_
  by_cases hj : j ∈ is
  · by_cases hlt : j < σ.length
    · have h1 : j < (wipe σ is).length := by rw [wipe_length]; exact hlt
      have h2 : j < (wipe τ is).length := by rw [wipe_length]; omega
      have e1 := List.getElem?_eq_getElem h1
      have e2 := List.getElem?_eq_getElem h2
      rw [e1, e2, wipe_in hj e1, wipe_in hj e2]
    · rw [List.getElem?_eq_none (by rw [wipe_length]; omega), List.getElem?_eq_none (by rw [wipe_length]; omega)]
  · rw [wipe_out hj, wipe_out hj]
    exact h j hj
theorem wipe_wipe {σ : L2.St} {is : List Nat} : wipe (wipe σ is) is = wipe σ is := wipe_eq (wipe_length _ _) fun j hj => wipe_out hj
theorem RS.wiped {K : PySem.W.Frag} {Fr G H : Hp} {FX : Nat → Option V} {ρ : Rho} {σ : L2.St} {own : List Nat} (R : RS K ix Fr FX G ρ σ H) (ho : ∀ i ∈ own, i ∉ ix) : RS K ix Fr FX G (wipeR ρ own) (wipe σ own) H := by
  refine ⟨R.gh, R.fh, R.gf, by rw [wipeR_length, wipe_length]; exact R.len, fun i s e => ?_, fun i j a o o' ne e1 e2 e3 e4 => ?_, fun i v e => ?_⟩
  · by_cases hi : i ∈ own
    · rw [wipeR_in hi e]; trivial
    · rw [wipeR_out hi] at e
      rw [wipe_out hi]
      exact R.sl i s e
  · by_cases hi : i ∈ own
    · cases wipeR_in hi e1
    · by_cases hj : j ∈ own
      · cases wipeR_in hj e2
      · rw [wipeR_out hi] at e1
        rw [wipeR_out hj] at e2
        rw [wipe_out hi] at e3
        rw [wipe_out hj] at e4
        exact R.sep i j a o o' ne e1 e2 e3 e4
  · obtain ⟨h1, h2⟩ := R.fx i v e
    have hi : i ∉ own := fun z => ho i z h1
    exact ⟨h1, by rw [wipe_out hi]; exact h2⟩
/-- an object outside changes -/
theorem RS.out {K : PySem.W.Frag} {Fr G H : Hp} {FX : Nat → Option V} {ρ : Rho} {σ : L2.St} {p : Addr} {u : HO} (R : RS K ix Fr FX G ρ σ H) (g : G p = none) (f0 : Fr p = none) (hn : ∀ (i : Nat) (o' : Ob), ρ[i]? = some (.ow o') → σ[i]? ≠ some (some (.ref p))) : RS K ix Fr FX G ρ σ (upd H p u) := by
  refine ⟨fun a o e => ?_, fun a o e => ?_, R.gf, R.len, fun i s e => ?_, R.sep, R.fx⟩
  · have ha : a ≠ p := fun z => by subst z; rw [g] at e; cases e
    rw [upd_ne ha]; exact R.gh a o e
  · have ha : a ≠ p := fun z => by subst z; rw [f0] at e; cases e
    rw [upd_ne ha]; exact R.fh a o e
  · refine (R.sl i s e).mono (Sub.refl _) fun a o' e1 e2 g' f' => ?_
    have ha : a ≠ p := fun z => by subst z; subst e2; exact hn i _ e e1
    rw [upd_ne ha]
    exact ⟨g', rfl⟩

/-! ### comprehensions over one source -/
def cYes : MB := fun ρ => some (true, ρ)
def lcS (own : List Nat) (t : MT) (c : MB) (fe : M) : List Dv → List Dv → Rho → Option (List Dv × Rho)
  | [], acc, ρ => some (acc, ρ)
  | d :: ds, acc, ρ => (t d (wipeR ρ own)).bind fun ρ1 => (c ρ1).bind fun x => if x.1 = true then (frM fe x.2).bind fun y => (match y.1 with
      | .sh e => if acc.length < sizeLine then lcS own t c fe ds (acc ++ [e]) y.2 else none
      | _ => none) else lcS own t c fe ds acc x.2
/-- own slots as they were -/
def putB (ρ ρ0 : Rho) : List Nat → Rho
  | [] => ρ
  | i :: is => match ρ0[i]? with
    | some s => (putB ρ ρ0 is).set i s
    | none => putB ρ ρ0 is
def noOw (ρ : Rho) (own : List Nat) : Bool := own.all fun i => match ρ[i]? with
  | some (.ow _) => false
  | _ => true
def eLc (own : List Nat) (fi : ML) (t : MT) (c : MB) (fe : M) : M := fun ρ => (fi ρ).bind fun x => if noOw x.2 own = true then (lcS own t c fe x.1 [] x.2).bind fun y => some (.ow (.lst y.1), putB y.2 x.2 own) else none
theorem putB_length (ρ ρ0 : Rho) : ∀ is : List Nat, (putB ρ ρ0 is).length = ρ.length
  | [] => rfl
  | i :: is => by
    unfold putB
    split
    · rw [List.length_set, putB_length ρ ρ0 is]
    · exact putB_length ρ ρ0 is
theorem putB_out {ρ ρ0 : Rho} {j : Nat} : ∀ {is : List Nat}, j ∉ is → (putB ρ ρ0 is)[j]? = ρ[j]?
  | [], _ => rfl
  | i :: is, h => by
    unfold putB
    split
    · rw [List.getElem?_set_ne (fun z => h (by rw [z]; exact List.mem_cons_self)), putB_out fun z => h (List.mem_cons_of_mem _ z)]
    · exact putB_out fun z => h (List.mem_cons_of_mem _ z)
theorem putB_in {ρ ρ0 : Rho} {j : Nat} {s : Sl} (hl : ρ0.length = ρ.length) : ∀ {is : List Nat}, j ∈ is → (putB ρ ρ0 is)[j]? = some s → ρ0[j]? = some s
  | i :: is, h, e => by
    unfold putB at e
    by_cases hj : i = j
    · subst hj
      split at e
      · rename_i s' hs'
        have hlt : i < (putB ρ ρ0 is).length := by
          have := (List.getElem?_eq_some_iff.mp e).1
          simpa using this
        rw [List.getElem?_set_self hlt] at e
        rw [hs']; exact e
      · rename_i hs'
        have h1 : i < ρ.length := by
          have := (List.getElem?_eq_some_iff.mp e).1
          rw [putB_length] at this
          exact this
        rw [List.getElem?_eq_getElem (by omega)] at hs'
        cases hs'
    · have h' : j ∈ is := List.mem_of_ne_of_mem (fun z => hj z.symm) h
      split at e
      · rw [List.getElem?_set_ne hj] at e
        exact putB_in hl h' e
      · exact putB_in hl h' e
theorem RS.unwiped {K : PySem.W.Frag} {Fr G0 H0 G H : Hp} {FX : Nat → Option V} {ρ ρ0 : Rho} {σ : L2.St} {own : List Nat} (R0 : RS K ix Fr FX G0 ρ0 σ H0) (R : RS K ix Fr FX G (wipeR ρ own) (wipe σ own) H) (s : Sub G0 G) (hn : noOw ρ0 own = true) :
    RS K ix Fr FX G (putB ρ ρ0 own) σ H := by
  have hlen : ρ.length = σ.length := by have := R.len; rw [wipeR_length, wipe_length] at this; exact this
  have hlen0 : ρ0.length = ρ.length := by rw [R0.len, hlen]
  have nw : ∀ {i : Nat} {o : Ob}, i ∈ own → ρ0[i]? ≠ some (.ow o) := fun {i o} hi e => by
    have := List.all_eq_true.mp hn i hi
    rw [e] at this
    cases this
  refine ⟨R.gh, R.fh, R.gf, by rw [putB_length]; exact hlen, fun i s' e => ?_, fun i j a o o' ne e1 e2 e3 e4 => ?_, R0.fx⟩
  · by_cases hi : i ∈ own
    · have e' := putB_in hlen0 hi e
      refine (R0.sl i s' e').mono s fun a o e1 e2 => ?_
      subst e2
      exact absurd e' (nw hi)
    · rw [putB_out hi] at e
      have := R.sl i s' (by rw [wipeR_out hi]; exact e)
      rw [wipe_out hi] at this
      exact this
  · by_cases hi : i ∈ own
    · exact absurd (putB_in hlen0 hi e1) (nw hi)
    · by_cases hj : j ∈ own
      · exact absurd (putB_in hlen0 hj e2) (nw hj)
      · rw [putB_out hi] at e1
        rw [putB_out hj] at e2
        exact R.sep i j a o o' ne (by rw [wipeR_out hi]; exact e1) (by rw [wipeR_out hj]; exact e2) (by rw [wipe_out hi]; exact e3) (by rw [wipe_out hj]; exact e4)
theorem wipeR_wipeR (ρ : Rho) (is : List Nat) : wipeR (wipeR ρ is) is = wipeR ρ is := by
  refine List.ext_getElem? fun j => ?_
  by_cases hj : j ∈ is
  · by_cases hlt : j < ρ.length
    · have h1 : j < (wipeR (wipeR ρ is) is).length := by rw [wipeR_length, wipeR_length]; exact hlt
      have h2 : j < (wipeR ρ is).length := by rw [wipeR_length]; exact hlt
      have e1 := List.getElem?_eq_getElem h1
      have e2 := List.getElem?_eq_getElem h2
      rw [e1, e2, wipeR_in hj e1, wipeR_in hj e2]
    · rw [List.getElem?_eq_none (by rw [wipeR_length, wipeR_length]; omega), List.getElem?_eq_none (by rw [wipeR_length]; omega)]
  · rw [wipeR_out hj]
variable {own tis : List Nat} {fi : ML} {t : MT} {c : MB} {fe : M}
theorem lc_ok {σ : L2.St} {H : Hp} {Q : VK} (ho : ∀ i ∈ own, i ∉ ix) (ht : ∀ i ∈ tis, i ∈ own) (h : TE' X.K ix (eLc own fi t c fe) σ H Q) :
    tLc (TI' X.K ix fi) (TG' X.K ix tis t) (TT' X.K ix c) (TE' X.K ix (frM fe)) own σ H Q := by
  obtain ⟨Fr, FX, G, ρ, r, ρ', R, hf, k⟩ := h
  unfold eLc at hf
  obtain ⟨⟨ds, ρ0⟩, h0, hf⟩ := Option.bind_eq_some_iff.mp hf
  simp only at hf
  split at hf
  rotate_left
  · cases hf
  rename_i hno
  obtain ⟨⟨accF, ρF⟩, h1, hf⟩ := Option.bind_eq_some_iff.mp hf
  cases hf
  refine ⟨Fr, FX, G, ρ, ds, ρ0, R, h0, fun J G0 H0 s0 R0 jk D hD => ?_⟩
  have gD := (R0.none_of hD).1
  have fD := (R0.none_of hD).2
  refine ⟨fun i m H => m = ds.length - i ∧ i ≤ ds.length ∧ ∃ G1 ρ1 acc accv, Sub G0 G1 ∧ H D = some (.lst accv) ∧ DpAll X.K G1 accv acc ∧ RS X.K ix (upd Fr D (.lst accv)) FX G1 (wipeR ρ1 own) (wipe σ own) H ∧ lcS own t c fe (ds.drop i) acc ρ1 = some (accF, ρF),
    ⟨ds.length, by simp, Nat.zero_le _, G0, ρ0, [], [], Sub.refl _, upd_same, .nil, ?_, h1⟩, ?_⟩
  · exact ((R0.wiped ho).newH hD).frame gD upd_same ((R0.wiped ho).notIn hD)
  rintro i m H1 ⟨rfl, hle, G1, ρ1, acc, accv, s1, hv, qa, R1, e1⟩
  have gD1 : G1 D = none := R1.gf D (by rw [upd_same]; simp)
  obtain ⟨j1, j2⟩ := jk i G1 H1 s1 R1.gh
  by_cases hlt : i < ds.length
  · have hd : ds[i]? = some ds[i] := List.getElem?_eq_getElem hlt
    obtain ⟨j3, j4⟩ := j1 _ hd
    rw [List.drop_eq_getElem_cons hlt] at e1
    unfold lcS at e1
    obtain ⟨ρ2, e2, e1⟩ := Option.bind_eq_some_iff.mp e1
    obtain ⟨⟨kb, ρ3⟩, e3, e1⟩ := Option.bind_eq_some_iff.mp e1
    refine .inr ⟨j3, fun H => ∃ G1 ρ1 acc accv, Sub G0 G1 ∧ H D = some (.lst accv) ∧ DpAll X.K G1 accv acc ∧ RS X.K ix (upd Fr D (.lst accv)) FX G1 (wipeR ρ1 own) (wipe σ own) H ∧ lcS own t c fe (ds.drop (i + 1)) acc ρ1 = some (accF, ρF), fun H' w => ⟨ds.length - (i + 1), by omega, rfl, hlt, w⟩, fun x H2 y => ?_⟩
    have key : ∃ G2, Sub G1 G2 ∧ RS X.K ix (upd Fr D (.lst accv)) FX G2 (wipeR ρ1 own) (wipe σ own) H2 ∧ Dp X.K G2 x ds[i] := by
      rcases j4 x H2 y with ⟨rfl, q⟩ | ⟨p, o, hp, rfl, q⟩
      · exact ⟨G1, Sub.refl _, R1, q⟩
      · exact ⟨_, sub_upd (R1.none_of hp).1, R1.newG hp, q⟩
    obtain ⟨G2, s2, R2, q⟩ := key
    refine ⟨_, FX, G2, _, _, ρ2, R2, q, e2, fun G3 σ3 H3 s3 n3 R3 => ?_⟩
    have hw : wipe σ3 own = wipe σ own := by
      have := wipe_eq (is := own) n3.1 fun j hj => n3.2 j fun z => hj (ht j z)
      rw [this, wipe_wipe]
    refine ⟨hw, _, FX, G3, ρ2, kb, ρ3, R3, e3, fun G4 H4 s4 R4 => ?_⟩
    cases kb with
    | false =>
      rw [if_neg Bool.false_ne_true]
      simp only [Bool.false_eq_true, if_false] at e1
      have W4 := R4.wiped (own := own) ho
      rw [hw] at W4
      exact ⟨G4, ρ3, acc, accv, ((s1.trans s2).trans s3).trans s4, R4.fh D _ upd_same, dpAll_mono ((s2.trans s3).trans s4) _ _ qa, W4, e1⟩
    | true =>
      rw [if_pos rfl]
      simp only [if_true] at e1
      obtain ⟨⟨r5, ρ5⟩, e5, e1⟩ := Option.bind_eq_some_iff.mp e1
      refine ⟨_, FX, G4, ρ3, r5, ρ5, R4, e5, fun z G5 H5 s5 R5 v5 => ?_⟩
      cases r5 with
      | ow o => cases e1
      | fd o => cases e1
      | al o => cases e1
      | sh d5 =>
        simp only at e1
        split at e1
        · rename_i hz
          have hD5 : H5 D = some (.lst accv) := R5.fh D _ upd_same
          have gD5 : G5 D = none := R5.gf D (by rw [upd_same]; simp)
          refine ⟨accv, hD5, by rw [dpAll_length qa]; exact hz, ?_⟩
          have W5 := R5.wiped (own := own) ho
          rw [hw] at W5
          have nD : ∀ (i : Nat) (o' : Ob), (wipeR ρ5 own)[i]? = some (.ow o') → (wipe σ own)[i]? ≠ some (some (.ref D)) := fun i o' z1 z2 => by
            obtain ⟨a, ea, _, fa, _⟩ := W5.sl i _ z1
            rw [z2] at ea
            cases ea
            rw [upd_same] at fa
            cases fa
          have W6 := (W5.unframe fD).out (u := .lst (accv ++ [z])) gD5 fD nD
          have s6 : Sub G1 G5 := ((s2.trans s3).trans s4).trans s5
          exact ⟨G5, ρ5, acc ++ [d5], accv ++ [z], s1.trans s6, upd_same, dpAll_append (dpAll_mono s6 _ _ qa) (.cons v5 .nil), W6.frame gD5 upd_same nD, e1⟩
        · cases e1
  · have hi : i = ds.length := by omega
    subst hi
    rw [List.drop_length] at e1
    unfold lcS at e1
    cases e1
    refine .inl ⟨j2 (Nat.le_refl _), ?_⟩
    have nD : ∀ (i : Nat) (o' : Ob), (wipeR ρF own)[i]? = some (.ow o') → (wipe σ own)[i]? ≠ some (some (.ref D)) := fun i o' z1 z2 => by
      obtain ⟨a, ea, _, fa, _⟩ := R1.sl i _ z1
      rw [z2] at ea
      cases ea
      rw [upd_same] at fa
      cases fa
    have RZ := RS.unwiped R0 (R1.unframe fD) s1 hno
    refine k _ G1 H1 (s0.trans s1) RZ ⟨D, rfl, gD1, fD, ⟨accv, hv, qa⟩, fun i o' z1 z2 => ?_⟩
    by_cases hi : i ∈ own
    · have hl : ρ0.length = ρF.length := by
        have l1 := R0.len
        have l2 := R1.len
        rw [wipeR_length, wipe_length] at l2
        omega
      have e' := putB_in hl hi z1
      have := List.all_eq_true.mp hno i hi
      rw [e'] at this
      cases this
    · rw [putB_out hi] at z1
      exact nD i o' (by rw [wipeR_out hi]; exact z1) (by rw [wipe_out hi]; exact z2)
theorem dp_nil : PTs X [] (TT' X.K ix cYes) := pts_imp pts_nil fun σ H Q ⟨Fr, FX, G, ρ, b, ρ', R, hf, k⟩ => by
  cases hf
  exact k G H (Sub.refl _) R
theorem dp_one {e : Expr} (h : PT X e (TT' X.K ix c)) : PTs X [e] (TT' X.K ix c) := pts_one h
end
end DL

set_option Elab.async false
set_option linter.all false
set_option autoImplicit false
set_option maxRecDepth 100000
set_option maxHeartbeats 1000000
namespace DL
open PySem PySem.Spec PyProof.Rows L2

section
variable {X : Cx} {ix : List Nat} {e a b : Expr} {es : List Expr} {f fa fb fc : M} {ga : MA} {g : MS} {pos p : Pos}
variable {tis : List Nat} {fi : ML} {t : MT} {c : MB} {fe : M}
theorem de_lc {elt tg iter : Expr} {ifs : List Expr} {scope : Scope} {own : List (Str × Nat)} (hc : X.calm = true) (hN : X.N.Nodup) (hi : PI X tg iter (TI' X.K ix fi)) (ok : BlkOk X.N X.env.scope scope own)
    (hg : ∀ (s : Shared) (H : Hp) (C : Addr) (cl : List (Str × Addr)) (fp : List Addr), PG (X.blk s H scope (compEnvC scope cl C X.env) fp) tg (TG' X.K ix tis t))
    (ht : ∀ (s : Shared) (H : Hp) (C : Addr) (cl : List (Str × Addr)) (fp : List Addr), PTs (X.blk s H scope (compEnvC scope cl C X.env) fp) ifs (TT' X.K ix c))
    (he : ∀ (s : Shared) (H : Hp) (C : Addr) (cl : List (Str × Addr)) (fp : List Addr), PE (X.blk s H scope (compEnvC scope cl C X.env) fp) elt (TE' X.K ix fe))
    (ho : ∀ i ∈ own.map (·.2), i ∉ ix := by decide) (hti : ∀ i ∈ tis, i ∈ own.map (·.2) := by decide) (hs : ∀ x, foldedSetIterable iter X.env x = pure x := by intro _; rfl) :
    PE X (.ListComp elt [⟨tg, iter, ifs, 0⟩] scope pos) (TE' X.K ix (eLc (own.map (·.2)) fi t c fe)) :=
  pe_imp (pe_lc hc hN hi ok hg ht (fun s H C cl fp => de_fr (he s H C cl fp)) hs) fun _ _ _ h => lc_ok ho hti h
theorem ds_setLc {i : Nat} {y : Str} {py spos : Pos} {elt tg iter : Expr} {ifs : List Expr} {scope : Scope} {own : List (Str × Nat)} (hc : X.calm = true) (hN : X.N.Nodup) (hy : X.N[i]? = some y) (hyl : X.env.scope.names.lookup y = some .local) (hix : i ∉ ix)
    (hsw : swapsWith (.ListComp elt [⟨tg, iter, ifs, 0⟩] scope pos) (some (.Name y py)) spos.line X.env = pure true) (hi : PI X tg iter (TI' X.K ix fi)) (ok : BlkOk X.N X.env.scope scope own)
    (hg : ∀ (s : Shared) (H : Hp) (C : Addr) (cl : List (Str × Addr)) (fp : List Addr), PG (X.blk s H scope (compEnvC scope cl C X.env) fp) tg (TG' X.K ix tis t))
    (ht : ∀ (s : Shared) (H : Hp) (C : Addr) (cl : List (Str × Addr)) (fp : List Addr), PTs (X.blk s H scope (compEnvC scope cl C X.env) fp) ifs (TT' X.K ix c))
    (he : ∀ (s : Shared) (H : Hp) (C : Addr) (cl : List (Str × Addr)) (fp : List Addr), PE (X.blk s H scope (compEnvC scope cl C X.env) fp) elt (TE' X.K ix fe))
    (ho : ∀ i ∈ own.map (·.2), i ∉ ix := by decide) (hti : ∀ i ∈ tis, i ∈ own.map (·.2) := by decide) (hs : ∀ x, foldedSetIterable iter X.env x = pure x := by intro _; rfl) :
    PS X (.Assign [.Name y py] (.ListComp elt [⟨tg, iter, ifs, 0⟩] scope pos) spos) (TS' X.K ix (sSet i (eLc (own.map (·.2)) fi t c fe))) :=
  ps_imp (ps_setLc hc hN hy hyl hsw hi ok hg ht (fun s H C cl fp => de_fr (he s H C cl fp)) hs) fun _ _ _ h => lc_ok ho hti (asg_ok hix h)

/-! ### a def -/
def okA : Nat → List Nat → List Sl → Bool
  | _, _, [] => true
  | n, ix, .ow _ :: as => ix.contains n && okA (n + 1) ix as
  | n, ix, _ :: as => okA (n + 1) ix as
def outA : Nat → List Nat → List Sl → Rho → List Sl
  | n, ix, s :: as, r :: ρ => (if ix.contains n = true then r else s) :: outA (n + 1) ix as ρ
  | n, ix, _ :: as, [] => .no :: outA (n + 1) ix as []
  | _, _, [], _ => []
def runF (np N : Nat) (ix : List Nat) (g : MS) : FnS := fun as => if okA 0 ix as = true then (g (as ++ List.replicate (N - np) .no)).bind fun fl => (match fl with
  | .nx ρ => some (.sh .none, outA 0 ix as ρ)
  | .rt (.sh d) ρ => some (.sh d, outA 0 ix as ρ)
  | .rt (.ow o) ρ => some (.ow o, outA 0 ix as ρ)
  | .rt (.fd o) ρ => some (.fd o, outA 0 ix as ρ)
  | _ => none) else none
theorem okA_get : ∀ {as : List Sl} {n i : Nat} {o : Ob}, okA n ix as = true → as[i]? = some (.ow o) → n + i ∈ ix
  | [], n, i, o, h, e => by simp at e
  | .ow o' :: as, n, 0, o, h, e => by
    unfold okA at h
    rw [Bool.and_eq_true] at h
    simpa using h.1
  | .ow o' :: as, n, i + 1, o, h, e => by
    unfold okA at h
    rw [Bool.and_eq_true] at h
    have := okA_get h.2 (i := i) (by simpa using e)
    rw [show n + (i + 1) = n + 1 + i by omega]
    exact this
  | .no :: as, n, 0, o, h, e => by simp at e
  | .sh d :: as, n, 0, o, h, e => by simp at e
  | .fd d :: as, n, 0, o, h, e => by simp at e
  | .fd d :: as, n, i + 1, o, h, e => by
    have h' : okA (n + 1) ix as = true := h
    have := okA_get h' (i := i) (by simpa using e)
    rw [show n + (i + 1) = n + 1 + i by omega]
    exact this
  | .no :: as, n, i + 1, o, h, e => by
    have h' : okA (n + 1) ix as = true := h
    have := okA_get h' (i := i) (by simpa using e)
    rw [show n + (i + 1) = n + 1 + i by omega]
    exact this
  | .sh d :: as, n, i + 1, o, h, e => by
    have h' : okA (n + 1) ix as = true := h
    have := okA_get h' (i := i) (by simpa using e)
    rw [show n + (i + 1) = n + 1 + i by omega]
    exact this
theorem outA_get : ∀ {as : List Sl} {ρ : Rho} {n i : Nat} {s : Sl}, (outA n ix as ρ)[i]? = some s → (n + i ∈ ix ∧ ρ[i]? = some s) ∨ (n + i ∉ ix ∧ as[i]? = some s) ∨ s = .no
  | [], [], n, i, s, e => by unfold outA at e; simp at e
  | [], _ :: _, n, i, s, e => by unfold outA at e; simp at e
  | s0 :: as, [], n, 0, s, e => by
    unfold outA at e
    simp only [List.getElem?_cons_zero, Option.some.injEq] at e
    exact .inr (.inr e.symm)
  | s0 :: as, [], n, i + 1, s, e => by
    unfold outA at e
    simp only [List.getElem?_cons_succ] at e
    rw [show n + (i + 1) = n + 1 + i by omega]
    simp only [List.getElem?_cons_succ]
    rcases outA_get e with ⟨_, h⟩ | h | h
    · simp at h
    · exact .inr (.inl h)
    · exact .inr (.inr h)
  | s0 :: as, r :: ρ, n, 0, s, e => by
    unfold outA at e
    simp only [List.getElem?_cons_zero, Option.some.injEq] at e
    by_cases h : n ∈ ix
    · rw [if_pos (by simpa using h)] at e
      exact .inl ⟨by simpa using h, by simp [e]⟩
    · rw [if_neg (by simpa using h)] at e
      exact .inr (.inl ⟨by simpa using h, by simp [e]⟩)
  | s0 :: as, r :: ρ, n, i + 1, s, e => by
    unfold outA at e
    simp only [List.getElem?_cons_succ] at e
    rw [show n + (i + 1) = n + 1 + i by omega]
    simp only [List.getElem?_cons_succ]
    exact outA_get e
theorem outA_length : ∀ {as : List Sl} {ρ : Rho} {n : Nat}, (outA n ix as ρ).length = as.length
  | [], [], n => by unfold outA; rfl
  | [], _ :: _, n => by unfold outA; rfl
  | s0 :: as, [], n => by
    unfold outA
    simp only [List.length_cons]
    rw [outA_length]
  | s0 :: as, r :: ρ, n => by
    unfold outA
    simp only [List.length_cons]
    rw [outA_length]
theorem fn_d {P : Program} {w : World} {K : PySem.W.Frag} {mg : Str → Option Value} {base : Heap} {x qual : Str} {st : Stmt} {fA : Addr} {fd : FuncData} {N ps : List Str} {k : Nat} (F : Fun K x qual st fA fd) (S : FnScope N ps (defScope st)) (ix : List Nat) (g : MS)
    (hN : ps.length ≤ N.length := by decide)
    (hb : ∀ (cdv : Value) (A : Around) (outer : List Env) (s : Shared) (H : Hp) (E : XK), Room k (A.deeper (envOfC qual (defScope st) s.heap.objs.size fA cdv)) →
      PSs (cxOf CX0 P w K mg base N qual (defScope st) fA cdv A outer s H E).nox (defBody st) (TS' K ix g)) : FnOk P w K mg base CX0 (k + 1) fA fd ps (spD K ps.length (runF ps.length N.length ix g)) := by
  refine F.ok S (fun vs H Q E h => ?_) (fun cdv A outer s H vs Q E hr h => ⟨_, hb cdv A outer s H E hr, ?_⟩)
  · obtain ⟨_, _, _, _, _, h, _⟩ := h
    exact h
  · obtain ⟨Fr, G, as, r, as', hl, R, hF, kk⟩ := h
    unfold runF at hF
    split at hF
    rotate_left
    · cases hF
    rename_i hok
    obtain ⟨fl, hg, hF⟩ := Option.bind_eq_some_iff.mp hF
    have la : as.length = vs.length := by have := R.len; simpa using this
    have sget : ∀ {i : Nat}, i < vs.length → (L2.start N vs)[i]? = (vs.map some)[i]? := fun {i} h => by
      unfold L2.start
      rw [List.getElem?_append_left (by simpa using h)]
    have gget : ∀ {i : Nat} {v : V}, vs[i]? = some v → (L2.start N vs)[i]? = some (some v) := fun {i v} e => by
      rw [sget (List.getElem?_eq_some_iff.mp e).1, List.getElem?_map, e]
      rfl
    have R0 : RS K ix Fr (fun i => if i ∈ ix then vs[i]? else none) G (as ++ List.replicate (N.length - ps.length) .no) (L2.start N vs) H := by
      refine ⟨R.gh, R.fh, R.gf, ?_, fun i s' e => ?_, fun i j a o o' ne e1 e2 e3 e4 => ?_, fun i v e => ?_⟩
      · unfold L2.start
        simp [la, hl]
      · by_cases hi : i < as.length
        · rw [List.getElem?_append_left hi] at e
          rw [sget (by omega)]
          exact R.sl i s' e
        · rw [List.getElem?_append_right (by omega)] at e
          have := List.eq_of_mem_replicate (List.mem_of_getElem? e)
          subst this
          trivial
      · have lt : ∀ {i : Nat} {o : Ob}, (as ++ List.replicate (N.length - ps.length) Sl.no)[i]? = some (.ow o) → i < as.length ∧ as[i]? = some (.ow o) := fun {i o} e => by
          by_cases hi : i < as.length
          · rw [List.getElem?_append_left hi] at e
            exact ⟨hi, e⟩
          · rw [List.getElem?_append_right (by omega)] at e
            have := List.eq_of_mem_replicate (List.mem_of_getElem? e)
            cases this
        obtain ⟨l1, f1⟩ := lt e1
        obtain ⟨l2, f2⟩ := lt e2
        rw [sget (by omega)] at e3 e4
        exact R.sep i j a o o' ne f1 f2 e3 e4
      · by_cases hi : i ∈ ix
        · rw [if_pos hi] at e
          exact ⟨hi, gget e⟩
        · rw [if_neg hi] at e
          cases e
    -- the arguments' slots behind the body
    have fin : ∀ {G' : Hp} {ρ : Rho} {σ' : L2.St} {H' : Hp}, Sub G G' → RS K ix Fr (fun i => if i ∈ ix then vs[i]? else none) G' ρ σ' H' → RS K [] Fr (fun _ => none) G' (outA 0 ix as ρ) (vs.map some) H' := by
      intro G' ρ σ' H' su R'
      have at' : ∀ {i : Nat}, i ∈ ix → i < vs.length → σ'[i]? = (vs.map some)[i]? := fun {i} hi hlt => by
        have e : vs[i]? = some vs[i] := List.getElem?_eq_getElem hlt
        obtain ⟨_, h2⟩ := R'.fx i vs[i] (by rw [if_pos hi]; exact e)
        rw [h2, List.getElem?_map, e]
        rfl
      have lt' : ∀ {i : Nat} {s : Sl}, (outA 0 ix as ρ)[i]? = some s → i < vs.length := fun {i s} e => by
        have := (List.getElem?_eq_some_iff.mp e).1
        rw [outA_length] at this
        omega
      have owix : ∀ {i : Nat} {o : Ob}, (outA 0 ix as ρ)[i]? = some (.ow o) → i ∈ ix ∧ ρ[i]? = some (.ow o) := fun {i o} e => by
        rcases outA_get e with ⟨h1, h2⟩ | ⟨h1, h2⟩ | h
        · exact ⟨by simpa using h1, h2⟩
        · exact absurd (okA_get hok h2) h1
        · cases h
      refine ⟨R'.gh, R'.fh, R'.gf, by rw [outA_length, la, List.length_map], fun i s' e => ?_, fun i j a o o' ne e1 e2 e3 e4 => ?_, fun i v z => nomatch z⟩
      · rcases outA_get e with ⟨h1, h2⟩ | ⟨h1, h2⟩ | h
        · rw [← at' (by simpa using h1) (lt' e)]
          exact R'.sl i s' h2
        · refine (R.sl i s' h2).mono su fun a o e1 e2 => ?_
          subst e2
          exact absurd (okA_get hok h2) h1
        · subst h; trivial
      · obtain ⟨h1, h2⟩ := owix e1
        obtain ⟨h3, h4⟩ := owix e2
        rw [← at' h1 (lt' e1)] at e3
        rw [← at' h3 (lt' e2)] at e4
        exact R'.sep i j a o o' ne h2 h4 e3 e4
    -- what the body gives is what the caller gets
    have out : ∀ {G' : Hp} {ρ : Rho} {σ' : L2.St} {H' : Hp} {o : Ob} {v : V}, RS K ix Fr (fun i => if i ∈ ix then vs[i]? else none) G' ρ σ' H' → VOk K Fr G' H' ρ σ' (.ow o) v → VOk K Fr G' H' (outA 0 ix as ρ) (vs.map some) (.ow o) v := by
      intro G' ρ σ' H' o v R' hv
      obtain ⟨a, rfl, g, f, c, hn⟩ := hv
      refine ⟨a, rfl, g, f, c, fun i o' e1 e2 => ?_⟩
      rcases outA_get e1 with ⟨h1, h2⟩ | ⟨h1, h2⟩ | h
      · have hi : i ∈ ix := by simpa using h1
        rw [List.getElem?_map] at e2
        cases ev : vs[i]? with
        | none => rw [ev] at e2; cases e2
        | some u =>
          rw [ev] at e2
          obtain ⟨_, h3⟩ := R'.fx i u (by rw [if_pos hi]; exact ev)
          exact hn i o' h2 (h3.trans e2)
      · exact absurd (okA_get hok h2) h1
      · cases h
    refine ⟨Fr, _, G, _, fl, R0, hg, ?_⟩
    cases fl with
    | bk ρ => cases hF
    | ct ρ => cases hF
    | nx ρ =>
      cases hF
      exact fun G' σ' H' s R' => kk .non G' H' s (fin s R') .non
    | rt r' ρ =>
      cases r' with
      | al i => cases hF
      | sh d =>
        cases hF
        exact fun G' σ' H' v s R' hv => kk v G' H' s (fin s R') hv
      | fd d =>
        cases hF
        exact fun G' σ' H' v s R' hv => kk v G' H' s (fin s R') hv
      | ow o =>
        cases hF
        exact fun G' σ' H' v s R' hv => kk v G' H' s (fin s R') (out R' hv)
end
end DL

set_option Elab.async false
set_option linter.all false
set_option autoImplicit false
set_option maxRecDepth 100000
set_option maxHeartbeats 1000000
namespace DL
open PySem PySem.Spec PyProof.Rows L2
/-! ### dicts whose keys are (nested) tuples of ints -/
mutual
theorem hash_same (w w' : World) : ∀ (d : Dv) (k : NestedKey), keyN d = some k → k.hash w = k.hash w'
  | .none, k, h => by simp only [keyN, Option.some.injEq] at h; subst h; rfl
  | .int i, k, h => by simp only [keyN, Option.some.injEq] at h; subst h; rfl
  | .tuple ds, k, h => by
    simp only [keyN, Option.map_eq_some_iff] at h
    obtain ⟨ks, h1, rfl⟩ := h
    have := hashes_same w w' ds ks h1
    simp only [NestedKey.hash, this]
  | .bool _, k, h => by simp [keyN] at h
  | .str _, k, h => by simp [keyN] at h
  | .list _, k, h => by simp [keyN] at h
  | .dict _, k, h => by simp [keyN] at h
theorem hashes_same (w w' : World) : ∀ (ds : List Dv) (ks : List NestedKey), keyNs ds = some ks → NestedKey.hashes w ks = NestedKey.hashes w' ks
  | [], ks, h => by simp only [keyNs, Option.some.injEq] at h; subst h; rfl
  | d :: ds, ks, h => by
    simp only [keyNs, Option.bind_eq_some_iff, Option.map_eq_some_iff] at h
    obtain ⟨k, h1, ks', h2, rfl⟩ := h
    simp only [NestedKey.hashes, hash_same w w' d k h1, hashes_same w w' ds ks' h2]
end
section
variable {X : Cx} {pins : List (Addr × Obj)} {σ : L2.St} {H : Hp} {s : Shared}
mutual
theorem nestedIs_of (I : Inv X pins σ H s) : ∀ (d : Dv) (v : V) (u : Value) (k : NestedKey), Dp X.K H v d → RelV v u → keyN d = some k → NestedIs s.heap k u
  | .none, v, u, k, h, r, e => by
    cases h
    simp only [keyN, Option.some.injEq] at e
    subst e
    obtain rfl : u = Value.none := r
    exact .none
  | .int i, v, u, k, h, r, e => by
    cases h
    simp only [keyN, Option.some.injEq] at e
    subst e
    obtain ⟨t, rfl⟩ := r
    exact .int i t
  | .tuple ds, v, u, k, h, r, e => by
    simp only [keyN, Option.map_eq_some_iff] at e
    obtain ⟨ks, h1, rfl⟩ := e
    cases h with
    | tup hs ha =>
      obtain rfl : u = Value.ref _ := r
      obtain ⟨its, rv, ⟨o, e1, e2, n, e3⟩, _⟩ := I.tuple hs
      exact .tup e1 e2 e3 (nestedAll_of I ds _ its ks ha rv h1)
  | .bool _, v, u, k, h, r, e => by simp [keyN] at e
  | .str _, v, u, k, h, r, e => by simp [keyN] at e
  | .list _, v, u, k, h, r, e => by simp [keyN] at e
  | .dict _, v, u, k, h, r, e => by simp [keyN] at e
theorem nestedAll_of (I : Inv X pins σ H s) : ∀ (ds : List Dv) (vs : List V) (us : List Value) (ks : List NestedKey), DpAll X.K H vs ds → Vals vs us → keyNs ds = some ks → NestedAll s.heap ks us
  | [], vs, us, ks, h, r, e => by
    cases h
    cases r
    simp only [keyNs, Option.some.injEq] at e
    subst e
    exact .nil
  | d :: ds, vs, us, ks, h, r, e => by
    simp only [keyNs, Option.bind_eq_some_iff, Option.map_eq_some_iff] at e
    obtain ⟨k, h1, ks', h2, rfl⟩ := e
    cases h with
    | cons a1 a2 =>
      cases r with
      | cons r1 r2 => exact .cons (nestedIs_of I d _ _ k a1 r1 h1) (nestedAll_of I ds _ _ ks' a2 r2 h2)
end
/-! what stands there -/
theorem pr_is (I : Inv X pins σ H s) : ∀ {ps : List (NestedKey × Addr × V)} {xs : List (NestedKey × Addr × Value)} {kvs : List (Dv × Dv)}, PR ps xs → TKV X.K H ps kvs → ∀ x ∈ xs, (nestedKind X.prog X.w).is s.heap x.1 x.2.1
  | _, _, _, .nil, _ => fun x hx => by cases hx
  | _, _, _, .cons r t, .cons h1 h2 h3 h4 q => fun x hx => by
    rcases List.mem_cons.mp hx with rfl | hx
    · exact ⟨nestedIs_of I _ _ _ _ h3 rfl h1, h2⟩
    · exact pr_is I t q x hx
theorem tk_of (I : Inv X pins σ H s) {a : Addr} {ps : List (NestedKey × Addr × V)} {kvs : List (Dv × Dv)} (e : Rd H a (tkO a ps)) (q : TKV X.K H ps kvs) : ∃ xs, PR ps xs ∧ s.heap.DictOfH (nestedKind X.prog X.w) a xs ∧ (a == sysModules) = false := by
  obtain ⟨⟨hd, xs, o, es, ep, p, e1, e2, e3, e4, e5⟩, _, _⟩ := Rd.ok e I.hok
  exact ⟨xs, p, ⟨o, es, ep, e1, e2, e3, e4 X.w, pr_is I p q, e5⟩, hd⟩
theorem tk_new {H' : Hp} {h' : Heap} {a : Addr} {P : Program} {w : World} {ps : List (NestedKey × Addr × V)} {xs : List (NestedKey × Addr × Value)} (hd : (a == sysModules) = false) (p : PR ps xs) (d : h'.DictOfH (nestedKind P w) a xs) (hs : ∀ x ∈ xs, ∀ w' : World, x.1.hash w = x.1.hash w') : ObjOk P w H' h' a (tkO a ps) := by
  obtain ⟨o, es, ep, e1, e2, e3, e4, e5, e6⟩ := d
  refine ⟨⟨hd, xs, o, es, ep, p, e1, e2, e3, fun w' => ?_, e6⟩, ⟨o, e1⟩, fun h1 h2 f k => ?_⟩
  · rw [e4]
    refine List.map_congr_left fun x hx => ?_
    show (⟨x.1.hash w, .ref x.2.1, x.2.2⟩ : DictEntry) = _
    rw [hs x hx w']
  · obtain ⟨hd, xs, o, es, ep, p, e1, r⟩ := f
    exact ⟨hd, xs, o, es, ep, p, k _ e1, r⟩
def eDctN : M := fun ρ => some (.ow (.dtn []), ρ)
theorem de_dnewN {ix : List Nat} {pos : Pos} : PE X (.Dict [] [] pos) (TE' X.K ix eDctN) := ⟨fun pins s σ H Q I ⟨Fr, FX, G, ρ, r, ρ', R, hf, k⟩ => by
  cases hf
  refine wpAny_Dict_empty ⟨.ref s.heap.objs.size, upd H s.heap.objs.size (tkO s.heap.objs.size []), I.laid (a := s.heap.objs.size) (t' := s.toks) (fun _ _ q => Heap.get?_push_of_some _ q) (Nat.le_refl _) ?_, rfl, ?_⟩
  · refine tk_new (xs := []) ?_ .nil (Heap.DictOfH.new s.heap) (fun x hx => by cases hx)
    have := I.big
    exact beq_false_of_ne fun z => by rw [z] at this; exact Nat.lt_irrefl _ this
  · have hp := I.hok.fresh (Nat.le_refl s.heap.objs.size)
    exact k _ G _ (Sub.refl _) (R.newH hp) ⟨_, rfl, (R.none_of hp).1, (R.none_of hp).2, ⟨[], upd_same, .nil⟩, R.notIn hp⟩⟩
/-! in -/
def getN : List (Dv × Dv) → Dv → Option Dv
  | [], _ => none
  | p :: r, k => if keyN p.1 = keyN k then some p.2 else getN r k
def okN (k : Dv) : Bool := match keyN k with
  | some n => decide (n.depth ≤ 8)
  | none => false
theorem getN_at {K : PySem.W.Frag} {G : Hp} {k : Dv} {n : NestedKey} (hk : keyN k = some n) : ∀ {ps : List (NestedKey × Addr × V)} {xs : List (NestedKey × Addr × Value)} {kvs : List (Dv × Dv)}, PR ps xs → TKV K G ps kvs →
    (atKey xs n = none ∧ getN kvs k = none) ∨ ∃ b u v d, atKey xs n = some (b, u) ∧ RelV v u ∧ Dp K G v d ∧ getN kvs k = some d
  | _, _, _, .nil, .nil => .inl ⟨rfl, rfl⟩
  | _, _, _, .cons (k := n0) (b := b0) (v := v0) (u := u0) r t, .cons (d := d0) h1 h2 h3 h4 q => by
    by_cases e : n0 = n
    · subst e
      refine .inr ⟨b0, u0, v0, d0, ?_, r, h4, ?_⟩
      · simp [atKey]
      · unfold getN
        rw [if_pos (by rw [h1, hk])]
    · rw [show ∀ (l : List (NestedKey × Addr × Value)), atKey ((n0, b0, u0) :: l) n = atKey l n from fun l => by unfold atKey; rw [List.find?_cons_of_neg (by simpa using e)]]
      rcases getN_at hk t q with ⟨a1, a2⟩ | ⟨b, u, v, d, a1, a2, a3, a4⟩
      · refine .inl ⟨a1, ?_⟩
        unfold getN
        rw [if_neg (by rw [h1, hk]; simpa using e), a2]
      · refine .inr ⟨b, u, v, d, a1, a2, a3, ?_⟩
        unfold getN
        rw [if_neg (by rw [h1, hk]; simpa using e), a4]
def okT (k : Dv) : Bool := match k with
  | .tuple _ => okN k
  | _ => false
def putN (kvs : List (Dv × Dv)) (k d : Dv) : List (Dv × Dv) := if kvs.any (fun p => decide (keyN p.1 = keyN k)) = true then kvs.map (fun p => if keyN p.1 = keyN k then (p.1, d) else p) else kvs ++ [(k, d)]
theorem tkv_mapN {K : PySem.W.Frag} {G : Hp} {k : Dv} {n : NestedKey} {v : V} {u : Value} {d : Dv} (hk : keyN k = some n) (r0 : RelV v u) (q0 : Dp K G v d) : ∀ {ps : List (NestedKey × Addr × V)} {xs : List (NestedKey × Addr × Value)} {kvs : List (Dv × Dv)}, PR ps xs → TKV K G ps kvs →
    PR (ps.map fun p => if p.1 = n then (p.1, p.2.1, v) else p) (xs.map (putAt n u)) ∧ TKV K G (ps.map fun p => if p.1 = n then (p.1, p.2.1, v) else p) (kvs.map fun p => if keyN p.1 = keyN k then (p.1, d) else p)
  | _, _, _, .nil, .nil => ⟨.nil, .nil⟩
  | _, _, _, .cons (k := n0) r t, .cons h1 h2 h3 h4 q => by
    obtain ⟨a, b⟩ := tkv_mapN hk r0 q0 t q
    rw [List.map_cons, List.map_cons, List.map_cons]
    by_cases e : n0 = n
    · subst e
      rw [if_pos rfl, if_pos (show keyN (_, _).1 = keyN k by rw [h1, hk])]
      refine ⟨?_, .cons h1 h2 h3 q0 b⟩
      unfold putAt
      rw [if_pos rfl]
      exact .cons r0 a
    · rw [if_neg e, if_neg (show ¬ keyN (_, _).1 = keyN k by rw [h1, hk]; simpa using e)]
      refine ⟨?_, .cons h1 h2 h3 h4 b⟩
      unfold putAt
      rw [if_neg e]
      exact .cons r a
theorem tkv_append {K : PySem.W.Frag} {G : Hp} {k : Dv} {n : NestedKey} {v : V} {u : Value} {d : Dv} {b : Addr} (hk : keyN k = some n) (h2 : n.depth ≤ 8) (h3 : Dp K G (.ref b) k) (r0 : RelV v u) (q0 : Dp K G v d) : ∀ {ps : List (NestedKey × Addr × V)} {xs : List (NestedKey × Addr × Value)} {kvs : List (Dv × Dv)}, PR ps xs → TKV K G ps kvs →
    PR (ps ++ [(n, b, v)]) (xs ++ [(n, b, u)]) ∧ TKV K G (ps ++ [(n, b, v)]) (kvs ++ [(k, d)])
  | _, _, _, .nil, .nil => ⟨.cons r0 .nil, .cons hk h2 h3 q0 .nil⟩
  | _, _, _, .cons r t, .cons a1 a2 a3 a4 q => by
    obtain ⟨a, b⟩ := tkv_append hk h2 h3 r0 q0 t q
    exact ⟨.cons r a, .cons a1 a2 a3 a4 b⟩
theorem anyN {K : PySem.W.Frag} {G : Hp} {k : Dv} {n : NestedKey} (hk : keyN k = some n) : ∀ {ps : List (NestedKey × Addr × V)} {xs : List (NestedKey × Addr × Value)} {kvs : List (Dv × Dv)}, PR ps xs → TKV K G ps kvs → (atKey xs n).isSome = kvs.any fun p => decide (keyN p.1 = keyN k)
  | _, _, _, .nil, .nil => rfl
  | _, _, _, .cons (k := n0) (b := b0) (u := u0) r t, .cons h1 h2 h3 h4 q => by
    rw [List.any_cons, ← anyN hk t q]
    by_cases e : n0 = n
    · subst e
      simp [atKey, h1, hk]
    · rw [show ∀ (l : List (NestedKey × Addr × Value)), atKey ((n0, b0, u0) :: l) n = atKey l n from fun l => by unfold atKey; rw [List.find?_cons_of_neg (by simpa using e)]]
      rw [h1, hk]
      simp [e]
theorem tkv_put {K : PySem.W.Frag} {G : Hp} {k : Dv} {n : NestedKey} {v : V} {u : Value} {d : Dv} {b : Addr} (hk : keyN k = some n) (h2 : n.depth ≤ 8) (h3 : Dp K G (.ref b) k) (r0 : RelV v u) (q0 : Dp K G v d) {ps : List (NestedKey × Addr × V)} {xs : List (NestedKey × Addr × Value)} {kvs : List (Dv × Dv)} (p : PR ps xs) (t : TKV K G ps kvs) :
    ∃ ps', PR ps' (storedH xs n b u) ∧ TKV K G ps' (putN kvs k d) := by
  unfold storedH putN
  rw [anyN hk p t]
  split
  · exact ⟨_, tkv_mapN hk r0 q0 p t⟩
  · exact ⟨_, tkv_append hk h2 h3 r0 q0 p t⟩
theorem pr_len : ∀ {ps : List (NestedKey × Addr × V)} {xs : List (NestedKey × Addr × Value)}, PR ps xs → xs.length = ps.length
  | _, _, .nil => rfl
  | _, _, .cons _ t => by simp [pr_len t]
theorem tkv_len {K : PySem.W.Frag} {G : Hp} : ∀ {ps : List (NestedKey × Addr × V)} {kvs : List (Dv × Dv)}, TKV K G ps kvs → ps.length = kvs.length
  | _, _, .nil => rfl
  | _, _, .cons _ _ _ _ t => by simp [tkv_len t]
/-- all the keys hash alike in any world -/
theorem tkv_hash {K : PySem.W.Frag} {G : Hp} (w w' : World) : ∀ {ps : List (NestedKey × Addr × V)} {xs : List (NestedKey × Addr × Value)} {kvs : List (Dv × Dv)}, PR ps xs → TKV K G ps kvs → ∀ x ∈ xs, x.1.hash w = x.1.hash w'
  | _, _, _, .nil, _ => fun x hx => by cases hx
  | _, _, _, .cons r t, .cons h1 h2 h3 h4 q => fun x hx => by
    rcases List.mem_cons.mp hx with rfl | hx
    · exact hash_same w w' _ _ h1
    · exact tkv_hash w w' t q x hx
end
end DL

set_option Elab.async false
set_option linter.all false
set_option autoImplicit false
set_option maxRecDepth 100000
set_option maxHeartbeats 1000000
namespace DL
open PySem PySem.Spec PyProof.Rows L2

section
variable {X : Cx} {ix : List Nat} {e a b o : Expr} {es : List Expr} {f fa fb fc fo : M} {ga : MA} {g : MS} {pos p : Pos}
/-! ### one operand -/
theorem de_un {op : UnaryOp} {r : V → Hp → VK → Prop} {gg : Dv → Option Rz} (ho : UnR X (unaryOp op) r) (hr : ∀ G H d z v Q, (∀ a o, G a = some o → H a = some o) → VD X.K G H d v → gg d = some z → Res X.K G H Q z → r v H Q) (ha : PE X a (TE' X.K ix fa)) : PE X (.UnaryOp op a pos) (TE' X.K ix (unS gg fa)) :=
  pe_imp (pe_un ho ha) fun σ H Q ⟨Fr, FX, G, ρ, r, ρ', R, hf, k⟩ => by
    unfold unS at hf
    obtain ⟨⟨r1, ρ1⟩, h1, hf⟩ := Option.bind_eq_some_iff.mp hf
    obtain ⟨d, h2, hf⟩ := Option.bind_eq_some_iff.mp hf
    obtain ⟨z, h3, hf⟩ := Option.bind_eq_some_iff.mp hf
    cases hf
    exact ⟨Fr, FX, G, ρ, r1, _, R, h1, fun v G1 H1 s1 R1 v1 => hr G1 H1 d z v Q R1.gh (dat_vd R1 v1 h2) h3 (res_ok R1 fun w G2 H2 s2 R2 w2 => k w G2 H2 (s1.trans s2) R2 w2)⟩
def negD : Dv → Option Rz
  | .int i => some (.sh (.int (-i)))
  | _ => none
theorem de_neg (ha : PE X a (TE' X.K ix fa)) : PE X (.UnaryOp .USub a pos) (TE' X.K ix (unS negD fa)) := de_un un_neg (fun G H d z v Q gh hv hz q => by
  unfold negD at hz
  split at hz
  · cases hz
    rw [vd_int hv]
    exact ⟨_, rfl, res_int q⟩
  · cases hz) ha
/-! ### isinstance(x, T), T a built-in class -/
def tyName : Dv → String
  | .none => "NoneType"
  | .bool _ => "bool"
  | .int _ => "int"
  | .str _ => "str"
  | .list _ => "list"
  | .tuple _ => "tuple"
  | .dict _ => "dict"
def isT (T : String) (d : Dv) : Bool := match T with
  | "int" => (match d with | .int _ => true | .bool _ => true | _ => false)
  | "bool" => (match d with | .bool _ => true | _ => false)
  | "tuple" => (match d with | .tuple _ => true | _ => false)
  | "list" => (match d with | .list _ => true | _ => false)
  | "str" => (match d with | .str _ => true | _ => false)
  | "dict" => (match d with | .dict _ => true | _ => false)
  | _ => false
theorem kit_int : ∀ n, n = "NoneType" ∨ n = "bool" ∨ n = "int" ∨ n = "str" ∨ n = "list" ∨ n = "tuple" ∨ n = "dict" → kitB n "int" = some (n == "int" || n == "bool") := by
  rintro n (rfl | rfl | rfl | rfl | rfl | rfl | rfl) <;> decide +kernel
theorem kit_one (T : String) (hT : T = "bool" ∨ T = "tuple" ∨ T = "list" ∨ T = "str" ∨ T = "dict") : ∀ n, n = "NoneType" ∨ n = "bool" ∨ n = "int" ∨ n = "str" ∨ n = "list" ∨ n = "tuple" ∨ n = "dict" → kitB n T = some (n == T) := by
  rcases hT with rfl | rfl | rfl | rfl | rfl <;> (rintro n (rfl | rfl | rfl | rfl | rfl | rfl | rfl) <;> decide +kernel)
theorem tyName_in (d : Dv) : tyName d = "NoneType" ∨ tyName d = "bool" ∨ tyName d = "int" ∨ tyName d = "str" ∨ tyName d = "list" ∨ tyName d = "tuple" ∨ tyName d = "dict" := by
  cases d <;> simp [tyName]
theorem isT_kit {T : String} (hT : T = "int" ∨ T = "bool" ∨ T = "tuple" ∨ T = "list" ∨ T = "str" ∨ T = "dict") (d : Dv) : kitB (tyName d) T = some (isT T d) := by
  rcases hT with rfl | hT
  · rw [kit_int _ (tyName_in d)]; cases d <;> rfl
  · rw [kit_one T hT _ (tyName_in d)]; rcases hT with rfl | rfl | rfl | rfl | rfl <;> cases d <;> rfl
theorem ty_sqL {K : PySem.W.Frag} {H : Hp} {a : Addr} {xs : List V} (h : SqL K H a xs) : TyX K H (.ref a) (.type "list") := by
  rcases h with (h | ⟨o, h⟩) | ⟨o, its, n, h, hc, _⟩
  · exact .base (.lst h)
  · exact .base (.frz h)
  · exact .kList h hc
theorem ty_sqT {K : PySem.W.Frag} {H : Hp} {a : Addr} {xs : List V} (h : SqT K H a xs) : TyX K H (.ref a) (.type "tuple") := by
  rcases h with (h | ⟨o, h⟩) | ⟨o, its, n, h, hc, _⟩
  · exact .base (.tup h)
  · exact .fTuple h
  · exact .kTuple h hc
/-- a dict with tuple keys -/
def tagD : Dv → Bool
  | .dict _ => true
  | _ => false
theorem ty_vd {K : PySem.W.Frag} {G H : Hp} {d : Dv} {v : V} (gh : ∀ a o, G a = some o → H a = some o) (h : VD K G H d v) (ht : tagD d = false) : TyX K H v (.type (tyName d)) := by
  cases d with
  | none => rw [vd_none h]; exact .base .non
  | bool b => rw [vd_bool h]; exact .base (.bl b)
  | int b => rw [vd_int h]; exact .base (.int b)
  | str b => rw [vd_str h]; exact .base (.str b)
  | list b => obtain ⟨a, vs, rfl, h1, _⟩ := vd_list h; exact ty_sqL h1
  | tuple b => obtain ⟨a, vs, rfl, _, h1, _⟩ := vd_tup gh h; exact ty_sqT h1
  | dict b => cases ht
def isiD (T : String) (d : Dv) : Option Rz := if tagD d = true then none else some (.sh (.bool (isT T d)))
theorem de_isi {T : String} {x : Str} {pT : Pos} (hT : T = "int" ∨ T = "bool" ∨ T = "tuple" ∨ T = "list" ∨ T = "str" ∨ T = "dict") (hg : Gl X "isinstance") (hm : X.mg "isinstance" = none) (hgT : Gl X x) (hmT : X.mg x = none) (hbT : bootBuiltins x = some (.type T)) (ha : PE X a (TE' X.K ix fa))
    (hn : x ≠ "__name__" := by decide) (hd : (x == ("__debug__" : Str)) = false := by decide) (he : starEach [a, .Name x pT] X.env = (false, eval a X.env) :: starEach [.Name x pT] X.env := by rfl) (he2 : starEach [Expr.Name x pT] X.env = (false, eval (.Name x pT) X.env) :: starEach [] X.env := by rfl)
    (hpl : (backTo pos (starEach [Expr.Name x pT] X.env)).any (·.1) = false := by rfl) : PE X (.Call (.Name "isinstance" p) [a, .Name x pT] [] pos) (TE' X.K ix (unS (isiD T) fa)) :=
  pe_imp (pe_callB call_isi hg hm PyProof.Rows.boot_isinstance (pa_cons ha (pa_cons (pe_bltn (v := .ty T) hgT hmT hbT rfl hn hd) pa_nil he2) he) (by decide) (by decide) he hpl) fun σ H Q ⟨Fr, FX, G, ρ, r, ρ', R, hf, k⟩ => by
    unfold unS at hf
    obtain ⟨⟨r1, ρ1⟩, h1, hf⟩ := Option.bind_eq_some_iff.mp hf
    obtain ⟨d, h2, hf⟩ := Option.bind_eq_some_iff.mp hf
    unfold isiD at hf
    by_cases htg : tagD d = true
    · rw [if_pos htg] at hf
      cases hf
    rw [if_neg htg] at hf
    cases hf
    refine ⟨Fr, FX, G, ρ, r1, _, R, h1, fun v G1 H1 s1 R1 v1 => ?_⟩
    exact ⟨v, _, _, _, _, rfl, .ty T, ty_vd R1.gh (dat_vd R1 v1 h2) (by simpa using htg), kit_ty (isT_kit hT d), k _ G1 H1 s1 R1 (.bl _)⟩

/-! ### methods that change an owned object -/
def obT : Ob → String
  | .lst _ => "list"
  | .dct _ => "dict"
  | .dtn _ => ""
def isDtn : Ob → Bool
  | .dtn _ => true
  | _ => false
def isOb (T : String) : Option Sl → Bool
  | some (.ow ob) => (obT ob == T) && !isDtn ob
  | _ => false
def mutM (T : String) (gg : Ob → List Dv → Option (Ob × Dv)) (fo : M) (ga : MA) : M := fun ρ => (fo ρ).bind fun x => match x.1 with
  | .al i => if isOb T x.2[i]? = true then (ga x.2).bind fun y => (shs y.1).bind fun ds => (match y.2[i]? with
    | some (.ow ob) => (gg ob ds).bind fun z => some (.sh z.2, y.2.set i (.ow z.1))
    | _ => none) else none
  | _ => none
def RMd (K : PySem.W.Frag) (gg : Ob → List Dv → Option (Ob × Dv)) : V → List V → Hp → VK → Prop := fun x vs H Q => ∃ G a ob ds ob' d, x = .ref a ∧ (∀ a o, G a = some o → H a = some o) ∧ G a = none ∧ Ct K G H a ob ∧ DpAll K G vs ds ∧ gg ob ds = some (ob', d) ∧
  ∀ v u', Ct K G (upd H a u') a ob' → Dp K G v d → Q v (upd H a u')
def MutD (X : Cx) (id : String) (gg : Ob → List Dv → Option (Ob × Dv)) : Prop := MtR X id (RMd X.K gg)
def appG : Ob → List Dv → Option (Ob × Dv)
  | .lst xs, [d] => if xs.length < sizeLine then some (.lst (xs ++ [d]), .none) else none
  | _, _ => none
def popG : Ob → List Dv → Option (Ob × Dv)
  | .lst xs, [] => (xs[xs.length - 1]?).map fun d => (.lst xs.dropLast, d)
  | _, _ => none
def popAtG : Ob → List Dv → Option (Ob × Dv)
  | .lst xs, [.int i] => if 0 ≤ i ∧ i < 2 ^ 62 then (xs[i.toNat]?).map fun d => (.lst (xs.eraseIdx i.toNat), d) else none
  | _, _ => none
theorem dpAll_dropLast {K : PySem.W.Frag} {G : Hp} {ds : List Dv} {vs : List V} (h : DpAll K G vs ds) : DpAll K G vs.dropLast ds.dropLast := by
  rw [List.dropLast_eq_take, List.dropLast_eq_take, dpAll_length h]
  exact dpAll_take _ h
theorem dpAll_erase {K : PySem.W.Frag} {G : Hp} : ∀ {ds : List Dv} {vs : List V} (n : Nat), DpAll K G vs ds → DpAll K G (vs.eraseIdx n) (ds.eraseIdx n)
  | [], _, n, h => by cases h; simp; exact .nil
  | d :: ds, _, 0, h => by cases h with | cons h1 h2 => exact h2
  | d :: ds, _, n + 1, h => by cases h with | cons h1 h2 => exact .cons h1 (dpAll_erase n h2)
theorem app_m : MutD X "list.append" appG := by
  intro pins s σ H x xs v us Q I rx rv h
  obtain ⟨G, a, ob, ds, ob', d, rfl, gh, g0, c, qa, hg, k⟩ := h
  unfold appG at hg
  split at hg
  · split at hg
    · rename_i hz
      cases hg
      obtain ⟨vs, hv, qv⟩ := c
      cases qa with
      | cons q1 q2 =>
        cases q2
        exact mt_append pins s σ H _ _ v us Q I rx rv ⟨a, vs, _, rfl, rfl, hv, by rw [dpAll_length qv]; exact hz, k .non _ ⟨_, upd_same, dpAll_append qv (.cons q1 .nil)⟩ .non⟩
    · cases hg
  · cases hg
theorem pop_m : MutD X "list.pop" popG := by
  intro pins s σ H x xs v us Q I rx rv h
  obtain ⟨G, a, ob, ds, ob', d, rfl, gh, g0, c, qa, hg, k⟩ := h
  unfold popG at hg
  split at hg
  · obtain ⟨d', hd, hg⟩ := Option.map_eq_some_iff.mp hg
    cases hg
    obtain ⟨vs, hv, qv⟩ := c
    cases qa
    obtain ⟨w, hw, qw⟩ := dpAll_get qv hd
    exact mt_pop pins s σ H _ _ v us Q I rx rv ⟨a, vs, w, rfl, rfl, hv, by rw [dpAll_length qv]; exact hw, k w _ ⟨_, upd_same, dpAll_dropLast qv⟩ qw⟩
  · cases hg
theorem popAt_m : MutD X "list.pop" popAtG := by
  intro pins s σ H x xs v us Q I rx rv h
  obtain ⟨G, a, ob, ds, ob', d, rfl, gh, g0, c, qa, hg, k⟩ := h
  unfold popAtG at hg
  split at hg
  · rename_i ys i
    split at hg
    · rename_i hc
      obtain ⟨d', hd, hg⟩ := Option.map_eq_some_iff.mp hg
      cases hg
      obtain ⟨vs, hv, qv⟩ := c
      cases qa with
      | cons q1 q2 =>
        cases q2
        cases q1
        obtain ⟨w, hw, qw⟩ := dpAll_get qv hd
        have hl : i.toNat < vs.length := (List.getElem?_eq_some_iff.mp hw).1
        exact mt_popAt pins s σ H _ _ v us Q I rx rv ⟨a, vs, i, i.toNat, w, rfl, rfl, hv, by omega, by omega, seqIndex_of hc.1 (by omega), hw, k w _ ⟨_, upd_same, dpAll_erase _ qv⟩ qw⟩
    · cases hg
  · cases hg
theorem tyV_ct {K : PySem.W.Frag} {G H : Hp} {a : Addr} {ob : Ob} (c : Ct K G H a ob) (hn : ∀ kvs, ob ≠ .dtn kvs) : tyV K (obT ob) (.ref a) H := by
  cases ob with
  | lst ds => obtain ⟨vs, hv, _⟩ := c; exact .inl ⟨rfl, _, .inl (.inl hv)⟩
  | dct ds => obtain ⟨vs, hv, _⟩ := c; exact .inr (.inr (.inl ⟨rfl, .inl ⟨_, hv⟩⟩))
  | dtn ds => exact absurd rfl (hn ds)
theorem mt_ok {T : String} {gg : Ob → List Dv → Option (Ob × Dv)} {σ : L2.St} {H : Hp} {Q : VK} (h : TE' X.K ix (mutM T gg fo ga) σ H Q) : tBM X.K T (RMd X.K gg) (TE' X.K ix fo) (TA' X.K ix ga) σ H Q := by
  obtain ⟨Fr, FX, G, ρ, r, ρ', R, hf, k⟩ := h
  unfold mutM at hf
  obtain ⟨⟨r0, ρ0⟩, h0, hf⟩ := Option.bind_eq_some_iff.mp hf
  cases r0 with
  | sh d => cases hf
  | ow d => cases hf
  | fd d => cases hf
  | al i =>
    simp only at hf
    split at hf
    rotate_left
    · cases hf
    rename_i hT
    obtain ⟨⟨rs, ρ1⟩, h1, hf⟩ := Option.bind_eq_some_iff.mp hf
    obtain ⟨ds, h2, hf⟩ := Option.bind_eq_some_iff.mp hf
    split at hf
    · rename_i ob hob
      obtain ⟨⟨ob', d⟩, h3, hf⟩ := Option.bind_eq_some_iff.mp hf
      cases hf
      refine ⟨Fr, FX, G, ρ, _, ρ0, R, h0, fun v G1 H1 s1 R1 v1 => ?_⟩
      have ev : σ[i]? = some (some v) := v1
      unfold isOb at hT
      split at hT
      · rename_i ob0 hob0
        rw [Bool.and_eq_true] at hT
        have eT : obT ob0 = T := eq_of_beq hT.1
        have nT : ∀ kvs, ob0 ≠ .dtn kvs := fun kvs z => by subst z; cases hT.2
        obtain ⟨a, ea, g, f, c⟩ := R1.sl i _ hob0
        rw [ev] at ea
        cases ea
        refine ⟨eT ▸ tyV_ct c nT, Fr, FX, G1, ρ0, rs, _, R1, h1, fun vs G2 H2 s2 R2 v2 => ?_⟩
        obtain ⟨b, eb, g2, f2, c2⟩ := R2.sl i _ hob
        rw [ev] at eb
        cases eb
        refine ⟨G2, a, ob, ds, ob', d, rfl, R2.gh, g2, c2, shs_dp v2 h2, h3, fun v' u' c' q' => ?_⟩
        exact k v' G2 _ (s1.trans s2) (R2.mut hob ev c') q'
      · cases hT
    · cases hf
theorem de_mt {T id : String} {name : Str} {gg : Ob → List Dv → Option (Ob × Dv)} {apos cpos : Pos} (pa : PlainAttrs T) (slot : Slot T name id) (hty : typeOf (.builtin id) = pure (.type "method_descriptor")) (hm : MutD X id gg) (ho : PE X o (TE' X.K ix fo)) (ha : PA X (e :: es) (TA' X.K ix ga))
    (hbase : attributeBase o name X.env (eval o X.env) = eval o X.env := by rfl)
    (hfew : ((backTo cpos (starEach (e :: es) X.env)).all (fun x => !x.1) && (backToKw cpos (keywordEach [] X.env)).all (fun x => x.1.isSome) && decide ((e :: es).length + ([] : List Keyword).length + (if ([] : List Keyword).isEmpty then 0 else 1) < 30)) = true := by rfl)
    (hline : (apos.endLine == cpos.line) = true := by rfl) (hs : starEach (e :: es) X.env = (false, eval e X.env) :: starEach es X.env := by rfl) (hplain : (backTo cpos (starEach es X.env)).any (·.1) = false := by rfl) :
    PE X (.Call (.Attribute o name apos) (e :: es) [] cpos) (TE' X.K ix (mutM T gg fo ga)) :=
  pe_imp (pe_bm pa slot hty hm ho ha hbase hfew hline hs hplain) fun _ _ _ h => mt_ok h
theorem de_mt0 {T id : String} {name : Str} {gg : Ob → List Dv → Option (Ob × Dv)} {apos cpos : Pos} (pa : PlainAttrs T) (slot : Slot T name id) (hty : typeOf (.builtin id) = pure (.type "method_descriptor")) (hm : MutD X id gg) (ho : PE X o (TE' X.K ix fo))
    (hbase : attributeBase o name X.env (eval o X.env) = eval o X.env := by rfl) (hline : (apos.endLine == cpos.line) = true := by rfl) : PE X (.Call (.Attribute o name apos) [] [] cpos) (TE' X.K ix (mutM T gg fo aNil)) :=
  pe_imp (pe_bm0 pa slot hty hm ho hbase hline) fun σ H Q h => by
    obtain ⟨Fr, FX, G, ρ, r, ρ', R, hf, k⟩ := mt_ok h
    refine ⟨Fr, FX, G, ρ, r, ρ', R, hf, fun v G1 H1 s1 R1 v1 => ?_⟩
    obtain ⟨hT, Fr2, FX2, G2, ρ2, rs, ρ3, R2, hf2, k2⟩ := k v G1 H1 s1 R1 v1
    cases hf2
    exact ⟨hT, k2 [] G2 H1 (Sub.refl _) R2 trivial⟩
theorem de_app {apos cpos : Pos} (ho : PE X o (TE' X.K ix fo)) (ha : PA X [e] (TA' X.K ix ga)) (hbase : attributeBase o "append" X.env (eval o X.env) = eval o X.env := by rfl)
    (hfew : ((backTo cpos (starEach [e] X.env)).all (fun x => !x.1) && (backToKw cpos (keywordEach [] X.env)).all (fun x => x.1.isSome) && decide ([e].length + ([] : List Keyword).length + (if ([] : List Keyword).isEmpty then 0 else 1) < 30)) = true := by rfl)
    (hline : (apos.endLine == cpos.line) = true := by rfl) (hs : starEach [e] X.env = (false, eval e X.env) :: starEach [] X.env := by rfl) (hplain : (backTo cpos (starEach [] X.env)).any (·.1) = false := by rfl) :
    PE X (.Call (.Attribute o "append" apos) [e] [] cpos) (TE' X.K ix (mutM "list" appG fo ga)) :=
  de_mt PySem.F.plainAttrs_list PySem.F.slot_list_append PySem.F.type_list_append app_m ho ha hbase hfew hline hs hplain
/-! ### o[i] = v -/
def eqKey : Dv → Dv → Bool
  | .int i, .int j => decide (i = j)
  | .str x, .str y => decide (x = y)
  | _, _ => false
def isKey : Dv → Bool
  | .int _ => true
  | .str _ => true
  | _ => false
def putD (kvs : List (Dv × Dv)) (k d : Dv) : List (Dv × Dv) := if kvs.any (fun p => eqKey p.1 k) = true then kvs.map (fun p => if eqKey p.1 k = true then (p.1, d) else p) else kvs ++ [(k, d)]
def getD : List (Dv × Dv) → Dv → Option Dv
  | [], _ => none
  | p :: r, k => if eqKey p.1 k = true then some p.2 else getD r k
def setOb : Ob → Dv → Dv → Option Ob
  | .lst xs, .int k, d => (ixN xs.length k).map fun j => .lst (xs.set j d)
  | .dct kvs, k, d => if isKey k = true ∧ kvs.length < sizeLine then some (.dct (putD kvs k d)) else none
  | .dtn kvs, k, d => if okT k = true ∧ kvs.length < sizeLine then some (.dtn (putN kvs k d)) else none
  | _, _, _ => none
theorem eqKey_keyD (k k' : Key) : eqKey (keyD k) (keyD k') = decide (k = k') := by
  cases k <;> cases k' <;> simp [keyD, eqKey]
theorem isKey_of {d : Dv} (h : isKey d = true) : ∃ k, d = keyD k := by
  cases d <;> first | exact ⟨.inl _, rfl⟩ | exact ⟨.inr _, rfl⟩ | cases h
theorem vd_key {K : PySem.W.Frag} {G H : Hp} {k : Key} {v : V} (h : VD K G H (keyD k) v) : v = kV k := by
  cases k with
  | inl i => exact vd_int h
  | inr x => exact vd_str h
theorem dkv_get {K : PySem.W.Frag} {G : Hp} {k : Key} : ∀ {ks : List (Key × V)} {kvs : List (Dv × Dv)}, DKV K G ks kvs → (∃ d v, getD kvs (keyD k) = some d ∧ valV ks k = some v ∧ Dp K G v d) ∨ (getD kvs (keyD k) = none ∧ valV ks k = none)
  | _, _, .nil => .inr ⟨rfl, rfl⟩
  | _, _, .cons (k := k0) (v := v) (d := d) h t => by
    by_cases e : k0 = k
    · subst e
      refine .inl ⟨d, v, ?_, valV_pos rfl, h⟩
      unfold getD
      rw [eqKey_keyD, if_pos (by simp)]
    · rcases dkv_get (k := k) t with ⟨d', v', h1, h2, h3⟩ | ⟨h1, h2⟩
      · refine .inl ⟨d', v', ?_, by rw [valV_neg e]; exact h2, h3⟩
        unfold getD
        rw [eqKey_keyD, if_neg (by simp [e])]
        exact h1
      · refine .inr ⟨?_, by rw [valV_neg e]; exact h2⟩
        unfold getD
        rw [eqKey_keyD, if_neg (by simp [e])]
        exact h1
theorem dkv_any {K : PySem.W.Frag} {G : Hp} {k : Key} : ∀ {ks : List (Key × V)} {kvs : List (Dv × Dv)}, DKV K G ks kvs → (kvs.any fun p => eqKey p.1 (keyD k)) = ks.any fun p => decide (p.1 = k)
  | _, _, .nil => rfl
  | _, _, .cons h t => by
    simp only [List.any_cons]
    rw [eqKey_keyD, dkv_any t]
theorem dkv_map {K : PySem.W.Frag} {G : Hp} {k : Key} {v : V} {d : Dv} (q : Dp K G v d) : ∀ {ks : List (Key × V)} {kvs : List (Dv × Dv)}, DKV K G ks kvs → DKV K G (ks.map fun p => if p.1 = k then (p.1, v) else p) (kvs.map fun p => if eqKey p.1 (keyD k) = true then (p.1, d) else p)
  | _, _, .nil => .nil
  | _, _, .cons (k := k0) h t => by
    simp only [List.map_cons]
    rw [eqKey_keyD]
    by_cases e : k0 = k
    · rw [if_pos e, if_pos (by simp [e])]
      exact .cons q (dkv_map q t)
    · rw [if_neg e, if_neg (by simp [e])]
      exact .cons h (dkv_map q t)
theorem dkv_append {K : PySem.W.Frag} {G : Hp} {k : Key} {v : V} {d : Dv} (q : Dp K G v d) : ∀ {ks : List (Key × V)} {kvs : List (Dv × Dv)}, DKV K G ks kvs → DKV K G (ks ++ [(k, v)]) (kvs ++ [(keyD k, d)])
  | _, _, .nil => .cons q .nil
  | _, _, .cons h t => .cons h (dkv_append q t)
theorem dkv_put {K : PySem.W.Frag} {G : Hp} {k : Key} {v : V} {d : Dv} {ks : List (Key × V)} {kvs : List (Dv × Dv)} (q : Dp K G v d) (h : DKV K G ks kvs) : DKV K G (putK ks k v) (putD kvs (keyD k) d) := by
  unfold putK putD
  rw [dkv_any h]
  by_cases e : (ks.any fun p => decide (p.1 = k)) = true
  · rw [if_pos e, if_pos e]
    exact dkv_map q h
  · rw [if_neg e, if_neg e]
    exact dkv_append q h
def RSet (K : PySem.W.Frag) : TSet := fun ov i v H Q => ∃ G a ob ob' k d, ov = .ref a ∧ (∀ a o, G a = some o → H a = some o) ∧ G a = none ∧ Ct K G H a ob ∧ VD K G H k i ∧ Dp K G v d ∧ setOb ob k d = some ob' ∧ ∀ u', Ct K G (upd H a u') a ob' → Q (upd H a u')
theorem okT_of {k : Dv} (h : okT k = true) : ∃ ds n, k = .tuple ds ∧ keyN k = some n ∧ n.depth ≤ 8 := by
  unfold okT at h
  split at h
  · unfold okN at h
    split at h
    · rename_i ds n hn
      exact ⟨_, n, rfl, hn, of_decide_eq_true h⟩
    · cases h
  · cases h
theorem set_d (hu : X.A.units + 200 < cLine) : PSet X (RSet X.K) := by
  intro pins s σ H ov i v ovv iv u Q I ro ri rv h
  obtain ⟨G, a, ob, ob', k, d, rfl, gh, g0, c, vk, qv, hs, kk⟩ := h
  unfold setOb at hs
  split at hs
  · obtain ⟨j, hj, hs⟩ := Option.map_eq_some_iff.mp hs
    cases hs
    obtain ⟨vs, hv, qs⟩ := c
    rw [vd_int vk] at ri
    exact set_list pins s σ H _ _ v ovv iv u Q I ro ri rv ⟨a, vs, _, j, rfl, rfl, hv, by rw [dpAll_length qs]; exact hj, kk _ ⟨_, upd_same, dpAll_set qv j qs⟩⟩
  · split at hs
    · rename_i hc
      cases hs
      obtain ⟨ks, hv, qs⟩ := c
      obtain ⟨k', rfl⟩ := isKey_of hc.1
      rw [vd_key vk] at ri
      cases (show ovv = Value.ref a from ro)
      exact d_setItem (by omega) I (DPut.k (k := k') hv (by rw [dkv_length qs]; exact hc.2)) ri rv fun s' I' => ⟨_, I', kk _ ⟨_, upd_same, dkv_put qv qs⟩⟩
    · cases hs
  · split at hs
    · rename_i hc
      cases hs
      obtain ⟨ps, hv, qs⟩ := c
      obtain ⟨ds, n, rfl, hn, h8⟩ := okT_of hc.1
      obtain ⟨b, vs, rfl, _⟩ := vd_tup gh vk
      have pk : Dp X.K G (.ref b) (.tuple ds) := vk
      cases (show ovv = Value.ref a from ro)
      cases (show iv = Value.ref b from ri)
      obtain ⟨xs, hp, hdk, hsys⟩ := tk_of I (.inl hv) (qs.mono (sub_le gh))
      have pkH := dp_mono (sub_le gh) _ _ pk
      have hl : xs.length ≤ sizeLine := by rw [pr_len hp, tkv_len qs]; exact Nat.le_of_lt hc.2
      refine wpAny_setItem_heap (hsz := hl) (show (nestedKind X.prog X.w).room X.A.in1 from ?_) (show (nestedKind X.prog X.w).is s.heap n b from ⟨nestedIs_of I _ _ _ _ pkH rfl hn, h8⟩) hdk fun h' hm' hs' => ?_
      · show X.A.units + 1 + 8 < cLine
        omega
      · obtain ⟨ps', hp', hq'⟩ := tkv_put hn h8 pk rv qv hp qs
        refine ⟨_, d_write I (by rw [hv]; exact True.intro) hs' ?_ (tk_new hsys hp' hm' (fun x hx w' => tkv_hash X.w w' hp' hq' x hx)), kk _ ⟨ps', upd_same, hq'⟩⟩
        obtain ⟨o, _, _, e, _⟩ := hm'
        exact ⟨o, e⟩
    · cases hs
  · cases hs
def tSub (fo fi : M) : MT := fun d ρ => (fo ρ).bind fun x => match x.1 with
  | .al i => (pkM fi x.2).bind fun y => (dat y.2 y.1).bind fun k => (match y.2[i]? with
    | some (.ow ob) => (setOb ob k d).bind fun ob' => some (y.2.set i (.ow ob'))
    | _ => none)
  | _ => none
theorem dg_sub {i : Expr} {fi : M} (hu : X.A.units + 200 < cLine) (ho : PE X o (TE' X.K ix fo)) (hi : PE X i (TE' X.K ix fi)) (hg : ∀ (to ti : TE) (t : TSet), PE X o to → PE X i ti → PSet X t → PG X (.Subscript o i pos) (gSub to ti t) := by exact fun _ _ _ h1 h2 h3 => pg_sub h1 h2 h3) : PG X (.Subscript o i pos) (TG' X.K ix [] (tSub fo fi)) :=
  pg_imp (hg _ _ _ ho (de_pk hi) (set_d hu)) fun v σ H Q ⟨Fr, FX, G, ρ, d, ρ', R, q, hf, k⟩ => by
    unfold tSub at hf
    obtain ⟨⟨r0, ρ0⟩, h0, hf⟩ := Option.bind_eq_some_iff.mp hf
    refine ⟨Fr, FX, G, ρ, r0, ρ0, R, h0, fun x G1 H1 s1 R1 v1 => ?_⟩
    cases r0 with
    | sh d => cases hf
    | ow d => cases hf
    | fd d => cases hf
    | al j =>
      simp only at hf
      obtain ⟨⟨r1, ρ1⟩, h1, hf⟩ := Option.bind_eq_some_iff.mp hf
      obtain ⟨kd, h2, hf⟩ := Option.bind_eq_some_iff.mp hf
      split at hf
      · rename_i ob hob
        obtain ⟨ob', h3, hf⟩ := Option.bind_eq_some_iff.mp hf
        cases hf
        have ev : σ[j]? = some (some x) := v1
        refine ⟨Fr, FX, G1, ρ0, r1, ρ1, R1, h1, fun y G2 H2 s2 R2 v2 => ?_⟩
        obtain ⟨a, ea, g2, f2, c2⟩ := R2.sl j _ hob
        rw [ev] at ea
        cases ea
        refine ⟨G2, a, ob, ob', kd, d, rfl, R2.gh, g2, c2, dat_vd R2 v2 h2, dp_mono (s1.trans s2) _ _ q, h3, fun u' c' => ?_⟩
        exact k G2 σ _ (s1.trans s2) ⟨rfl, fun _ _ => rfl⟩ (R2.mut hob ev c')
      · cases hf
end
end DL

set_option Elab.async false
set_option linter.all false
set_option autoImplicit false
set_option maxRecDepth 100000
set_option maxHeartbeats 1000000
namespace DL
open PySem PySem.Spec PyProof.Rows L2

section
variable {X : Cx} {ix : List Nat} {e a b o : Expr} {es : List Expr} {f fa fb fc fo : M} {ga : MA} {g : MS} {pos p : Pos}
/-! ### items of dicts -/
/-- what can be read of an object -/
def CR (K : PySem.W.Frag) (G H : Hp) (a : Addr) : Ob → Prop
  | .lst ds => ∃ vs, SqL K H a vs ∧ DpAll K G vs ds
  | .dct kvs => ∃ ks, Rd H a (.dK ks) ∧ DKV K G ks kvs
  | .dtn kvs => ∃ ps, Rd H a (tkO a ps) ∧ TKV K G ps kvs
theorem Ct.cr {K : PySem.W.Frag} {G H : Hp} {a : Addr} {o : Ob} (c : Ct K G H a o) : CR K G H a o := by
  cases o with
  | lst ds => obtain ⟨vs, e, q⟩ := c; exact ⟨vs, .of e, q⟩
  | dct kvs => obtain ⟨vs, e, q⟩ := c; exact ⟨vs, .inl e, q⟩
  | dtn kvs => obtain ⟨vs, e, q⟩ := c; exact ⟨vs, .inl e, q⟩
theorem Cf.cr {K : PySem.W.Frag} {G H : Hp} (gh : ∀ a o, G a = some o → H a = some o) {a : Addr} {o : Ob} (c : Cf K G a o) : CR K G H a o := by
  cases o with
  | lst ds => exact False.elim c
  | dct kvs => obtain ⟨o, vs, e, q⟩ := c; exact ⟨vs, .inr ⟨o, gh _ _ e⟩, q⟩
  | dtn kvs => obtain ⟨o, vs, e, q⟩ := c; exact ⟨vs, .inr ⟨o, gh _ _ e⟩, q⟩
def getOb : Ob → Dv → Option Dv
  | .lst xs, .int k => atI xs k
  | .dct kvs, k => if isKey k = true then getD kvs k else none
  | .dtn kvs, k => if okT k = true then getN kvs k else none
  | _, _ => none
theorem getN_okT {K : PySem.W.Frag} {X : Cx} {pins : List (Addr × Obj)} {s : Shared} {σ : L2.St} {H G : Hp} {ad : Addr} {kvs : List (Dv × Dv)} {k d : Dv} {iv : Value} {i : V} {Q : VK} (hu : X.A.units + 10 < cLine) (I : Inv X pins σ H s) (gh : ∀ a o, G a = some o → H a = some o) (c : CR X.K G H ad (.dtn kvs)) (hk : okT k = true) (vk : VD X.K G H k i) (ri : RelV i iv) (hg : getN kvs k = some d)
    (q : ∀ v, Dp X.K G v d → Q v H) : wpAny (model X.prog X.w) X.A (getItem (.ref ad) iv) (EP X pins σ Q) X.xe s := by
  obtain ⟨ps, h1, h2⟩ := c
  obtain ⟨ds, n, rfl, hn, h8⟩ := okT_of hk
  obtain ⟨b, vs, rfl, _⟩ := vd_tup gh vk
  have pk : Dp X.K G (.ref b) (.tuple ds) := vk
  cases (show iv = Value.ref b from ri)
  obtain ⟨xs, hp, hdk, hsys⟩ := tk_of I h1 (h2.mono (sub_le gh))
  rcases getN_at hn hp h2 with ⟨a1, a2⟩ | ⟨b', u, v, d', a1, a2, a3, a4⟩
  · rw [hg] at a2; cases a2
  · rw [hg] at a4
    cases a4
    exact wpAny_getItem_heap (show X.A.units + 1 + 8 < cLine by omega) (show (nestedKind X.prog X.w).is s.heap n b from ⟨nestedIs_of I _ _ _ _ (dp_mono (sub_le gh) _ _ pk) rfl hn, h8⟩) hdk a1 ⟨v, H, I.tok _, a2, q v a3⟩
theorem getItem_ok {pins : List (Addr × Obj)} {s : Shared} {σ : L2.St} {H G : Hp} {ad : Addr} {ob : Ob} {k d : Dv} {iv : Value} {i : V} {Q : VK} (hu : X.A.units + 10 < cLine) (I : Inv X pins σ H s) (gh : ∀ a o, G a = some o → H a = some o) (c : CR X.K G H ad ob) (vk : VD X.K G H k i) (ri : RelV i iv) (hg : getOb ob k = some d)
    (q : ∀ v, Dp X.K G v d → Q v H) : wpAny (model X.prog X.w) X.A (getItem (.ref ad) iv) (EP X pins σ Q) X.xe s := by
  unfold getOb at hg
  split at hg
  · rename_i xs kk
    obtain ⟨vs, hv, qs⟩ := c
    rw [vd_int vk] at ri
    obtain ⟨t, rfl⟩ := ri
    obtain ⟨w, hw, qw⟩ := atI_dp qs hg
    obtain ⟨its, r, pl, hz⟩ := I.list hv
    obtain ⟨j, h1, h2, h3, h4, h5⟩ := atI_get hw
    obtain ⟨u, eu, ru⟩ := r.get h2
    have hl := r.length
    have hn := line63
    have fin : EP X pins σ Q u s := ⟨w, H, I, ru, q w qw⟩
    by_cases h0 : 0 ≤ kk
    · have hj : kk.toNat = j := by
        rw [seqIndex_of h0 h5] at h1
        exact Option.some.inj h1
      exact wpAny_getItem_list pl.isList h0 (by omega) (by rw [hj]; simpa using eu) fin
    · have hj : (kk + (its.toArray.size : Int)).toNat = j := by
        rw [seqIndex_neg (by omega) h4] at h1
        rw [List.size_toArray, ← hl]
        exact Option.some.inj h1
      exact wpAny_getItem_list_neg pl.isList (by omega) (by rw [List.size_toArray] <;> omega) (by omega) (by rw [hj]; simpa using eu) fin
  · split at hg
    · rename_i hk
      obtain ⟨ks, hv, qs⟩ := c
      obtain ⟨k', rfl⟩ := isKey_of hk
      rw [vd_key vk] at ri
      rcases dkv_get (k := k') qs with ⟨d', v', h1, h2, h3⟩ | ⟨h1, _⟩
      · rw [hg] at h1
        cases h1
        exact d_getItem (by omega) I (y := kV k') (v := v') (.inl ⟨ks, k', hv, rfl, h2.symm⟩) ri fun w' s' I' rw' => ⟨v', H, I', rw', q v' h3⟩
      · rw [hg] at h1
        cases h1
    · cases hg
  · split at hg
    · rename_i hk
      exact getN_okT (K := X.K) hu I gh c hk vk ri hg q
    · cases hg
  · cases hg
theorem plD_dkv {K : PySem.W.Frag} {G : Hp} : ∀ {ks : List (Key × V)} {kvs : List (Dv × Dv)}, DKV K G ks kvs → plD kvs = true
  | _, _, .nil => rfl
  | _, _, .cons (k := k) _ _ => by cases k <;> rfl
theorem vd_dn {K : PySem.W.Frag} {G H : Hp} {kvs : List (Dv × Dv)} {v : V} (h : VD K G H (.dict kvs) v) (hp : plD kvs = false) : ∃ a ps, v = .ref a ∧ Rd H a (tkO a ps) ∧ TKV K G ps kvs.tail := by
  rcases h with ⟨a, ks, _, _, q⟩ | ⟨a, ps, kvs', rfl, e, q, rfl⟩
  · rw [plD_dkv q] at hp
    cases hp
  · exact ⟨a, ps, rfl, e, q⟩
def ixA (d k : Dv) : Option Rz := match d with
  | .dict kvs => if isKey k = true ∧ plD kvs = true then (getD kvs k).map .sh else if okT k = true ∧ plD kvs = false then (getN kvs.tail k).map .sh else none
  | _ => ixD d k
theorem ixA_d (hu : X.A.units + 10 < cLine) : IxD X ixA := by
  intro value slice pins s σ H x y v u Q I rx ry h hs
  obtain ⟨G, d, e, z, gh, vx, vy, hz, q⟩ := h
  unfold ixA at hz
  split at hz
  · rename_i kvs
    split at hz
    · rename_i hk
      obtain ⟨hk, hpl⟩ := hk
      obtain ⟨d', hd', rfl⟩ := Option.map_eq_some_iff.mp hz
      obtain ⟨ad, ks, rfl, h1, h2⟩ := vd_dk vx hpl
      cases rx
      refine tail_any (T := "dict") ?_ PySem.F.slot_dict_getitem.lookup (getItem_ok hu I gh (G := G) (ob := .dct kvs) (k := e) ⟨ks, h1, h2⟩ vy ry (by unfold getOb; simp only; rw [if_pos hk]; exact hd') fun w qw => res_val q qw) hs
      exact dict_typeIs I (y := kV (.inl 0)) (o := valV ks (.inl 0)) (.inl ⟨ks, _, h1, rfl, rfl⟩)
    · split at hz
      · rename_i hk
        obtain ⟨hk, hpl⟩ := hk
        obtain ⟨d', hd', rfl⟩ := Option.map_eq_some_iff.mp hz
        obtain ⟨ad, ps, rfl, h1, h2⟩ := vd_dn vx hpl
        cases rx
        obtain ⟨xs, hp, hdk, hsys⟩ := tk_of I h1 (h2.mono (sub_le gh))
        refine tail_any (T := "dict") ?_ PySem.F.slot_dict_getitem.lookup (getItem_ok hu I gh (G := G) (ob := .dtn kvs.tail) (k := e) ⟨ps, h1, h2⟩ vy ry (by unfold getOb; simp only; rw [if_pos hk]; exact hd') fun w qw => res_val q qw) hs
        obtain ⟨o, es, ep, e1, e2, _⟩ := hdk
        exact ⟨o, e1, e2.1⟩
      · cases hz
  · exact ix_d value slice pins s σ H x y v u Q I rx ry ⟨G, d, e, z, gh, vx, vy, hz, q⟩ hs
def inA (d c : Dv) : Option Bool := match c with
  | .dict kvs => if isKey d = true ∧ plD kvs = true then some (getD kvs d).isSome else if okT d = true ∧ plD kvs = false then some (getN kvs.tail d).isSome else none
  | _ => inSeq d c
def inAD (d c : Dv) : Option Rz := (inA d c).map fun b => .sh (.bool b)
def ninAD (d c : Dv) : Option Rz := (inA d c).map fun b => .sh (.bool (!b))
theorem dk_get {K : PySem.W.Frag} {G H : Hp} {ad : Addr} {ks : List (Key × V)} {kvs : List (Dv × Dv)} {k : Key} (h1 : Rd H ad (.dK ks)) (h2 : DKV K G ks kvs) : ∃ ov, DGet H ad (kV k) ov ∧ ov.isSome = (getD kvs (keyD k)).isSome := by
  refine ⟨valV ks k, .inl ⟨ks, k, h1, rfl, rfl⟩, ?_⟩
  rcases dkv_get (k := k) h2 with ⟨d, v, e1, e2, _⟩ | ⟨e1, e2⟩ <;> rw [e1, e2] <;> rfl
theorem inA_d (hu : X.A.units + 65 < cLine) : OpD X (compareOp .In) inAD := by
  intro pins s σ H x y v u Q I rx ry h
  obtain ⟨G, d, c, z, gh, vx, vy, hz, q⟩ := h
  obtain ⟨b, hb, rfl⟩ := Option.map_eq_some_iff.mp hz
  unfold inA at hb
  split at hb
  · rename_i kvs
    split at hb
    · rename_i hk
      obtain ⟨hk, hpl⟩ := hk
      cases hb
      obtain ⟨ad, ks, rfl, h1, h2⟩ := vd_dk vy hpl
      cases ry
      obtain ⟨k', rfl⟩ := isKey_of hk
      rw [vd_key vx] at rx
      obtain ⟨ov, g1, g2⟩ := dk_get (k := k') h1 h2
      rw [← g2] at q
      exact d_in (by omega) I g1 rx fun s' I' => ⟨.bl ov.isSome, H, I', rfl, res_bl q⟩
    · split at hb
      · rename_i hk
        obtain ⟨hk, hpl⟩ := hk
        cases hb
        obtain ⟨ad, ps, rfl, h1, h2⟩ := vd_dn vy hpl
        cases ry
        obtain ⟨ds, n, rfl, hn, h8⟩ := okT_of hk
        obtain ⟨b, vs, rfl, _⟩ := vd_tup gh vx
        have pk : Dp X.K G (.ref b) (.tuple ds) := vx
        cases (show v = Value.ref b from rx)
        obtain ⟨xs, hp, hdk, hsys⟩ := tk_of I h1 (h2.mono (sub_le gh))
        have e2 : (getN kvs.tail (.tuple ds)).isSome = (atKey xs n).isSome := by
          rcases getN_at hn hp h2 with ⟨a1, a2⟩ | ⟨_, _, _, _, a1, _, _, a2⟩ <;> rw [a1, a2] <;> rfl
        rw [e2] at q
        exact wpAny_in_heap (show X.A.units + 1 + 8 < cLine by omega) (show (nestedKind X.prog X.w).is s.heap n b from ⟨nestedIs_of I _ _ _ _ (dp_mono (sub_le gh) _ _ pk) rfl hn, h8⟩) hsys hdk ⟨.bl (atKey xs n).isSome, H, I.tok _, rfl, res_bl q⟩
      · cases hb
  · exact in_d hu pins s σ H x y v u Q I rx ry ⟨G, d, c, _, gh, vx, vy, by unfold inSD; rw [hb]; rfl, q⟩
theorem ninA_d (hu : X.A.units + 65 < cLine) : OpD X (compareOp .NotIn) ninAD := by
  intro pins s σ H x y v u Q I rx ry h
  obtain ⟨G, d, c, z, gh, vx, vy, hz, q⟩ := h
  obtain ⟨b, hb, rfl⟩ := Option.map_eq_some_iff.mp hz
  unfold inA at hb
  split at hb
  · rename_i kvs
    split at hb
    · rename_i hk
      obtain ⟨hk, hpl⟩ := hk
      cases hb
      obtain ⟨ad, ks, rfl, h1, h2⟩ := vd_dk vy hpl
      cases ry
      obtain ⟨k', rfl⟩ := isKey_of hk
      rw [vd_key vx] at rx
      obtain ⟨ov, g1, g2⟩ := dk_get (k := k') h1 h2
      rw [← g2] at q
      exact d_notIn (by omega) I g1 rx fun s' I' => ⟨.bl (!ov.isSome), H, I', rfl, res_bl q⟩
    · split at hb
      · rename_i hk
        obtain ⟨hk, hpl⟩ := hk
        cases hb
        obtain ⟨ad, ps, rfl, h1, h2⟩ := vd_dn vy hpl
        cases ry
        obtain ⟨ds, n, rfl, hn, h8⟩ := okT_of hk
        obtain ⟨b, vs, rfl, _⟩ := vd_tup gh vx
        have pk : Dp X.K G (.ref b) (.tuple ds) := vx
        cases (show v = Value.ref b from rx)
        obtain ⟨xs, hp, hdk, hsys⟩ := tk_of I h1 (h2.mono (sub_le gh))
        have e2 : (getN kvs.tail (.tuple ds)).isSome = (atKey xs n).isSome := by
          rcases getN_at hn hp h2 with ⟨a1, a2⟩ | ⟨_, _, _, _, a1, _, _, a2⟩ <;> rw [a1, a2] <;> rfl
        rw [e2] at q
        show wpAny (model X.prog X.w) X.A (do return Value.bool (!(← contains (.ref ad) (.ref b)))) (EP X pins σ Q) X.xe s
        exact wpAny_bind (wpAny_contains_heap (show X.A.units + 1 + 8 < cLine by omega) (show (nestedKind X.prog X.w).is s.heap n b from ⟨nestedIs_of I _ _ _ _ (dp_mono (sub_le gh) _ _ pk) rfl hn, h8⟩) hsys hdk (wpAny_pure ⟨.bl (!(atKey xs n).isSome), H, I.tok _, rfl, res_bl q⟩))
      · cases hb
  · exact nin_d hu pins s σ H x y v u Q I rx ry ⟨G, d, c, _, gh, vx, vy, by unfold ninSD; rw [hb]; rfl, q⟩
/-! ### o[i] op= v -/
def sAugS (gg : Dv → Dv → Option Rz) (fo fi fe : M) : MS := fun ρ => (fo ρ).bind fun x => match x.1 with
  | .al j => (pkM fi x.2).bind fun y => (dat y.2 y.1).bind fun k => if (isKey k || okT k) = true then (match y.2[j]? with
    | some (.ow ob) => (getOb ob k).bind fun d0 => (pkM fe y.2).bind fun z => (dat z.2 z.1).bind fun d1 => (gg d0 d1).bind fun r => (match r with
      | .sh d => (match z.2[j]? with
        | some (.ow ob2) => (setOb ob2 k d).bind fun ob' => some (.nx (z.2.set j (.ow ob')))
        | _ => none)
      | .ow _ => none)
    | _ => none) else none
  | _ => none
def RGet (K : PySem.W.Frag) : V → V → Hp → VK → Prop := fun ov i H Q => ∃ G a ob k d, ov = .ref a ∧ (∀ a o, G a = some o → H a = some o) ∧ CR K G H a ob ∧ VD K G H k i ∧ getOb ob k = some d ∧ ∀ v, Dp K G v d → Q v H
theorem get_d (hu : X.A.units + 10 < cLine) : PGet X (RGet X.K) := by
  intro pins s σ H ov i ovv iv Q I ro ri h
  obtain ⟨G, a, ob, k, d, rfl, gh, c, vk, hg, q⟩ := h
  cases (show ovv = Value.ref a from ro)
  exact getItem_ok hu I gh c vk ri hg q
theorem key_stay {K : PySem.W.Frag} {G H G' H' : Hp} {k : Dv} {v : V} (s : Sub G G') (hk : (isKey k || okT k) = true) (h : VD K G H k v) : VD K G' H' k v := by
  rcases Bool.or_eq_true _ _ ▸ hk with hk | hk
  rotate_left
  · obtain ⟨ds, n, rfl, _⟩ := okT_of hk
    exact dp_mono s (.tuple ds) _ h
  obtain ⟨k', rfl⟩ := isKey_of hk
  rw [vd_key h]
  cases k' with
  | inl i => exact (Dp.int i : Dp K G' _ _)
  | inr x => exact (Dp.str x : Dp K G' _ _)
theorem ds_augS {i : Expr} {fi fe : M} {op : Operator} {gg : Dv → Dv → Option Rz} {tpos : Pos} (hu : X.A.units + 200 < cLine) (ho : PE X o (TE' X.K ix fo)) (hi : PE X i (TE' X.K ix fi)) (he : PE X e (TE' X.K ix fe)) (hp : OpD X (inplaceOp op) gg)
    (hq : ∀ (to ti te : TE) (tget : V → V → Hp → VK → Prop) (tip : TIp) (tset : TSet), PE X o to → PE X i ti → PGet X tget → PE X e te → PIp X op tip → PSet X tset → PS X (.AugAssign (.Subscript o i tpos) op e pos) (tAugS to ti te tget tip tset) := by exact fun _ _ _ _ _ _ h1 h2 h3 h4 h5 h6 => ps_augS h1 h2 h3 h4 h5 h6) :
    PS X (.AugAssign (.Subscript o i tpos) op e pos) (TS' X.K ix (sAugS gg fo fi fe)) :=
  ps_imp (hq _ _ _ _ (R2d X.K gg) _ ho (de_pk hi) (get_d (by omega)) (de_pk he) (fun pins s σ H x y v u Q I r1 r2 h => hp pins s σ H x y v u Q I r1 r2 h) (set_d hu)) fun D σ H ⟨Fr, FX, G, ρ, fl, R, hf, k⟩ => by
    unfold sAugS at hf
    obtain ⟨⟨r0, ρ0⟩, h0, hf⟩ := Option.bind_eq_some_iff.mp hf
    refine ⟨Fr, FX, G, ρ, r0, ρ0, R, h0, fun x G1 H1 s1 R1 v1 => ?_⟩
    cases r0 with
    | sh d => cases hf
    | ow d => cases hf
    | fd d => cases hf
    | al j =>
      simp only at hf
      obtain ⟨⟨r1, ρ1⟩, h1, hf⟩ := Option.bind_eq_some_iff.mp hf
      obtain ⟨kd, h2, hf⟩ := Option.bind_eq_some_iff.mp hf
      split at hf
      rotate_left
      · cases hf
      rename_i hk
      split at hf
      · rename_i ob hob
        obtain ⟨d0, h3, hf⟩ := Option.bind_eq_some_iff.mp hf
        obtain ⟨⟨r2, ρ2⟩, h4, hf⟩ := Option.bind_eq_some_iff.mp hf
        obtain ⟨d1, h5, hf⟩ := Option.bind_eq_some_iff.mp hf
        obtain ⟨z, h6, hf⟩ := Option.bind_eq_some_iff.mp hf
        cases z with
        | ow o => cases hf
        | sh d =>
          simp only at hf
          split at hf
          · rename_i ob2 hob2
            obtain ⟨ob', h7, hf⟩ := Option.bind_eq_some_iff.mp hf
            cases hf
            have ev : σ[j]? = some (some x) := v1
            refine ⟨Fr, FX, G1, ρ0, r1, ρ1, R1, h1, fun y G2 H2 s2 R2 v2 => ?_⟩
            obtain ⟨ad, ea, g2, f2, c2⟩ := R2.sl j _ hob
            rw [ev] at ea
            cases ea
            refine ⟨G2, ad, ob, kd, d0, rfl, R2.gh, c2.cr, dat_vd R2 v2 h2, h3, fun w qw => ?_⟩
            refine ⟨Fr, FX, G2, ρ1, r2, ρ2, R2, h4, fun w2 G3 H3 s3 R3 v3 => ?_⟩
            refine ⟨G3, d0, d1, .sh d, R3.gh, dp_vd R3.gh (dp_mono s3 _ _ qw), dat_vd R3 v3 h5, h6, res_ok R3 fun w3 G4 H4 s4 R4 v4 => ?_⟩
            obtain ⟨ad', ea', g4, f4, c4⟩ := R4.sl j _ hob2
            rw [ev] at ea'
            cases ea'
            refine ⟨G4, ad, ob2, ob', kd, d, rfl, R4.gh, g4, c4, key_stay (s3.trans s4) hk (dat_vd R2 v2 h2), v4, h7, fun u' c' => ?_⟩
            exact k G4 σ _ (((s1.trans s2).trans s3).trans s4) (R4.mut hob2 ev c')
          · cases hf
      · cases hf
/-! ### a, b = x, y -/
def setR (ρ : Rho) (i : Nat) : Rv → Option Rho
  | .sh d => some (ρ.set i (.sh d))
  | .ow o => some (ρ.set i (.ow o))
  | .al _ => none
  | .fd o => some (ρ.set i (.fd o))
def sPar (i j : Nat) (ga : MA) : MS := fun ρ => (ga ρ).bind fun x => match x.1 with
  | [r, s] => (setR x.2 i r).bind fun ρ1 => (setR ρ1 j s).bind fun ρ2 => some (.nx ρ2)
  | _ => none
theorem setR_ok {K : PySem.W.Frag} {Fr G H : Hp} {FX : Nat → Option V} {ρ ρ' : Rho} {σ : L2.St} {i : Nat} {r : Rv} {v : V} (R : RS K ix Fr FX G ρ σ H) (hi : i ∉ ix) (q : VOk K Fr G H ρ σ r v) (h : setR ρ i r = some ρ') : RS K ix Fr FX G ρ' (σ.set i (some v)) H := by
  cases r with
  | sh d => cases h; exact R.set hi ⟨v, rfl, q⟩ fun o a z => nomatch z
  | fd d =>
    cases h
    obtain ⟨a, rfl, c⟩ := q
    exact R.set hi ⟨a, rfl, c⟩ fun o a z => nomatch z
  | al j => cases h
  | ow o =>
    cases h
    obtain ⟨a, rfl, g, fr, c, hn⟩ := q
    exact R.set hi ⟨a, rfl, g, fr, c⟩ fun o' a' z1 z2 j o2 e1 => by cases z2; exact hn j o2 e1
theorem setR_keep {K : PySem.W.Frag} {Fr G H : Hp} {ρ ρ' : Rho} {σ : L2.St} {i : Nat} {r r' : Rv} {v v' : V} (q : VOk K Fr G H ρ σ r' v') (nal : ∀ k, r' ≠ .al k) (h : setR ρ i r = some ρ') (hl : ρ.length = σ.length) (ap : ∀ (o o' : Ob) (a : Addr), r = .ow o → v = .ref a → r' = .ow o' → v' ≠ .ref a) : VOk K Fr G H ρ' (σ.set i (some v)) r' v' := by
  cases r' with
  | sh d => exact q
  | fd d => exact q
  | al k => exact absurd rfl (nal k)
  | ow o' =>
    obtain ⟨a, rfl, g, fr, c, hn⟩ := q
    refine ⟨a, rfl, g, fr, c, fun k o2 e1 e2 => ?_⟩
    by_cases hk : i = k
    · subst hk
      cases r with
      | al j => cases h
      | sh d =>
        cases h
        have hlt : i < ρ.length := by have := (List.getElem?_eq_some_iff.mp e1).1; simpa using this
        rw [List.getElem?_set_self hlt] at e1
        cases e1
      | fd d =>
        cases h
        have hlt : i < ρ.length := by have := (List.getElem?_eq_some_iff.mp e1).1; simpa using this
        rw [List.getElem?_set_self hlt] at e1
        cases e1
      | ow o =>
        cases h
        have hlt : i < ρ.length := by have := (List.getElem?_eq_some_iff.mp e1).1; simpa using this
        rw [List.getElem?_set_self (by omega)] at e2
        cases e2
        exact ap _ _ a rfl rfl rfl rfl
    · rw [List.getElem?_set_ne hk] at e2
      have e1' : ρ[k]? = some (.ow o2) := by
        cases r with
        | al j => cases h
        | sh d => cases h; rw [List.getElem?_set_ne hk] at e1; exact e1
        | fd d => cases h; rw [List.getElem?_set_ne hk] at e1; exact e1
        | ow o => cases h; rw [List.getElem?_set_ne hk] at e1; exact e1
      exact hn k o2 e1' e2
theorem ds_par {i j : Nat} {x y : Str} {px py pt : Pos} {kt k2 pt2} (hc : X.calm = true) (hN : X.N.Nodup) (hi : X.N[i]? = some x) (hj : X.N[j]? = some y) (hij : i ≠ j) (hii : i ∉ ix) (hjj : j ∉ ix)
    (hx : X.env.scope.names.lookup x = some .local) (hy : X.env.scope.names.lookup y = some .local) (ha : PA X [a, b] (TA' X.K ix ga))
    (hw : swappedStores [.Tuple [.Name x px, .Name y py] kt pt] (.Tuple [a, b] k2 pt2) X.env = pure (some [x, y]) := by rfl)
    (hs : swapsWithSole [.Tuple [.Name x px, .Name y py] kt pt] (.Tuple [a, b] k2 pt2) pos.line X.env = pure false := by rfl) :
    PS X (.Assign [.Tuple [.Name x px, .Name y py] kt pt] (.Tuple [a, b] k2 pt2) pos) (TS' X.K ix (sPar i j ga)) :=
  ps_imp (ps_par hc hN hi hj hij hx hy ha hw hs) fun D σ H ⟨Fr, FX, G, ρ, fl, R, hf, k⟩ => by
    unfold sPar at hf
    obtain ⟨⟨rs, ρ0⟩, h0, hf⟩ := Option.bind_eq_some_iff.mp hf
    refine ⟨Fr, FX, G, ρ, rs, ρ0, R, h0, fun vs G1 H1 s1 R1 v1 => ?_⟩
    simp only at hf
    split at hf
    · rename_i r s
      obtain ⟨ρ1, h1, hf⟩ := Option.bind_eq_some_iff.mp hf
      obtain ⟨ρ2, h2, hf⟩ := Option.bind_eq_some_iff.mp hf
      cases hf
      cases vs with
      | nil => exact False.elim v1
      | cons v vs =>
        cases vs with
        | nil => exact False.elim v1.2.2
        | cons w vs =>
          obtain ⟨q1, ap, q2, _, q3⟩ := v1
          cases vs with
          | cons _ _ => exact False.elim q3
          | nil =>
            have nal : ∀ k, s ≠ .al k := fun k z => by subst z; cases h2
            have K1 := setR_ok R1 hii q1 h1
            have Q2 := setR_keep (v := v) q2 nal h1 R1.len fun o o' a z1 z2 z3 z4 => ap o a z1 z2 0 o' (by rw [z3]; rfl) (by rw [z4]; rfl)
            have K2 := setR_ok K1 hjj Q2 h2
            exact ⟨v, w, rfl, k G1 _ H1 s1 K2⟩
    · cases hf
end
end DL

set_option Elab.async false
set_option linter.all false
set_option autoImplicit false
set_option maxRecDepth 100000
set_option maxHeartbeats 1000000
namespace DL
open PySem PySem.Spec PyProof.Rows L2

/-! ### slices -/
def cutD (xs : List Dv) (lo hi : Option Int) : List Dv := (xs.drop (HT.sIx xs.length 0 lo)).take (HT.sIx xs.length xs.length hi - HT.sIx xs.length 0 lo)
def cutG (d : Dv) (lo hi : Option Int) : Option Rz := match d with
  | .list xs => some (.ow (.lst (cutD xs lo hi)))
  | .tuple xs => some (.sh (.tuple (cutD xs lo hi)))
  | .str z => if z.length ≤ sizeLine then some (.sh (.str (cutS z lo hi))) else none
  | _ => none
abbrev MO := Rho → Option (Option Int × Rho)
def oNo : MO := fun ρ => some (none, ρ)
def oInt (f : M) : MO := fun ρ => (f ρ).bind fun x => match x.1 with
  | .sh (.int i) => some (some i, x.2)
  | _ => none
def eCut (f : M) (lo hi : MO) : M := fun ρ => (pkM f ρ).bind fun x => (lo x.2).bind fun y => (hi y.2).bind fun z => (dat z.2 x.1).bind fun d => (cutG d y.1 z.1).bind fun r => some (r.rv, z.2)
def TO' (K : PySem.W.Frag) (ix : List Nat) (f : MO) : TO := fun σ H Q => ∃ Fr FX G ρ i ρ', RS K ix Fr FX G ρ σ H ∧ f ρ = some (i, ρ') ∧ ∀ G' H', Sub G G' → RS K ix Fr FX G' ρ' σ H' → Q i H'
section
variable {X : Cx} {ix : List Nat} {e a b o : Expr} {es : List Expr} {f fa fb fc fo : M} {ga : MA} {g : MS} {pos p p2 : Pos}
theorem po_imp {e : Option Expr} {t t' : TO} (h : PO X e t) (k : ∀ σ H Q, t' σ H Q → t σ H Q) : PO X e t' := ⟨fun pins s σ H Q I q => h.run pins s σ H Q I (k _ _ _ q)⟩
theorem do_no : PO X none (TO' X.K ix oNo) := po_imp po_none fun σ H Q ⟨Fr, FX, G, ρ, i, ρ', R, hf, k⟩ => by
  cases hf
  exact k G H (Sub.refl _) R
theorem do_int (h : PE X e (TE' X.K ix f)) : PO X (some e) (TO' X.K ix (oInt f)) := po_imp (po_some h) fun σ H Q ⟨Fr, FX, G, ρ, i, ρ', R, hf, k⟩ => by
  unfold oInt at hf
  obtain ⟨⟨r0, ρ0⟩, h0, hf⟩ := Option.bind_eq_some_iff.mp hf
  refine ⟨Fr, FX, G, ρ, r0, ρ0, R, h0, fun v G1 H1 s1 R1 v1 => ?_⟩
  simp only at hf
  split at hf
  · cases hf
    have v1' : Dp X.K G1 v (.int _) := v1
    cases v1'
    exact ⟨_, rfl, k G1 H1 s1 R1⟩
  · cases hf
theorem cut_dp {K : PySem.W.Frag} {G : Hp} {ds : List Dv} {vs : List V} {lo hi : Option Int} (h : DpAll K G vs ds) : DpAll K G (cutV vs lo hi) (cutD ds lo hi) := by
  unfold cutV cutD
  rw [dpAll_length h]
  exact dpAll_take _ (dpAll_drop _ h)
theorem cutD_whole {ds : List Dv} {lo hi : Option Int} (h : HT.sIx ds.length 0 lo = 0 ∧ HT.sIx ds.length ds.length hi = ds.length) : cutD ds lo hi = ds := by
  unfold cutD
  rw [h.1, h.2]
  simp
def RCut (K : PySem.W.Frag) : V → Option Int → Option Int → Hp → VK → Prop := fun x lo hi H Q => ∃ G d z, (∀ a o, G a = some o → H a = some o) ∧ VD K G H d x ∧ cutG d lo hi = some z ∧ Res K G H Q z
theorem cut_d : SlR X (RCut X.K) := by
  intro pins s σ H x v vl vu lo hi sl Q I rx hs pl pu h
  obtain ⟨G, d, z, gh, vd, hz, q⟩ := h
  unfold cutG at hz
  split at hz
  · cases hz
    obtain ⟨ad, vs, rfl, h1, h2⟩ := vd_list vd
    exact sl_list pins s σ H _ v vl vu lo hi sl Q I rx hs pl pu ⟨ad, vs, rfl, h1, fun p hp => res_lst q hp (cut_dp h2)⟩
  · rename_i ds
    cases hz
    obtain ⟨ad, vs, rfl, g1, h1, h2⟩ := vd_tup gh vd
    have l := dpAll_length h2
    refine sl_tupA pins s σ H _ v vl vu lo hi sl Q I rx hs pl pu ⟨ad, vs, rfl, h1, fun hw => ?_, fun _ p hp => res_tup q (g_none gh hp) hp (cut_dp h2)⟩
    rw [l] at hw
    rw [cutD_whole hw] at q
    exact res_val q (.tup g1 h2)
  · split at hz
    · rename_i hc
      cases hz
      rw [vd_str vd] at rx
      exact sl_str pins s σ H _ v vl vu lo hi sl Q I rx hs pl pu ⟨_, rfl, hc, res_str q⟩
    · cases hz
  · cases hz
theorem de_cut {lo hi : Option Expr} {ml mh : MO} (he : PE X e (TE' X.K ix f)) (hl : PO X lo (TO' X.K ix ml)) (hu : PO X hi (TO' X.K ix mh)) : PE X (.Subscript e (.Slice lo hi none p2) pos) (TE' X.K ix (eCut f ml mh)) :=
  pe_imp (pe_slice cut_d (de_pk he) hl hu) fun σ H Q ⟨Fr, FX, G, ρ, r, ρ', R, hf, k⟩ => by
    unfold eCut at hf
    obtain ⟨⟨r0, ρ0⟩, h0, hf⟩ := Option.bind_eq_some_iff.mp hf
    obtain ⟨⟨i, ρ1⟩, h1, hf⟩ := Option.bind_eq_some_iff.mp hf
    obtain ⟨⟨j, ρ2⟩, h2, hf⟩ := Option.bind_eq_some_iff.mp hf
    obtain ⟨d, h3, hf⟩ := Option.bind_eq_some_iff.mp hf
    obtain ⟨z, h4, hf⟩ := Option.bind_eq_some_iff.mp hf
    cases hf
    refine ⟨Fr, FX, G, ρ, r0, ρ0, R, h0, fun v G1 H1 s1 R1 v1 => ?_⟩
    cases r0 with
    | ow ob =>
      cases ob with
      | lst ds => exact absurd rfl (pk_noow h0 ds)
      | dct kvs =>
        cases h3
        cases h4
      | dtn kvs =>
        cases h3
        cases h4
    | fd ob =>
      cases ob with
      | lst ds =>
        obtain ⟨_, _, c⟩ := v1
        exact False.elim c
      | dct kvs =>
        cases h3
        cases h4
      | dtn kvs =>
        cases h3
        cases h4
    | sh d0 =>
      cases h3
      refine ⟨Fr, FX, G1, ρ0, i, ρ1, R1, h1, fun G2 H2 s2 R2 => ⟨Fr, FX, G2, ρ1, j, _, R2, h2, fun G3 H3 s3 R3 => ?_⟩⟩
      exact ⟨G3, d, z, R3.gh, dp_vd R3.gh (dp_mono (s2.trans s3) _ _ v1), h4, res_ok R3 fun w G4 H4 s4 R4 v4 => k w G4 H4 (((s1.trans s2).trans s3).trans s4) R4 v4⟩
    | al n =>
      refine ⟨Fr, FX, G1, ρ0, i, ρ1, R1, h1, fun G2 H2 s2 R2 => ⟨Fr, FX, G2, ρ1, j, _, R2, h2, fun G3 H3 s3 R3 => ?_⟩⟩
      exact ⟨G3, d, z, R3.gh, dat_vd (r := .al n) R3 v1 h3, h4, res_ok R3 fun w G4 H4 s4 R4 v4 => k w G4 H4 (((s1.trans s2).trans s3).trans s4) R4 v4⟩

/-! ### x[::-1] -/
def revD : Dv → Option Rz
  | .list xs => some (.ow (.lst xs.reverse))
  | .tuple xs => some (.sh (.tuple xs.reverse))
  | _ => none
theorem slice_back {prog : Program} {w : World} {A : Around} {E : Value → Shared → Prop} {s : Shared} {sl : Addr} {vl vu vs : Value} {n : Nat} {Q : Int × Int × Nat → Shared → Prop} (hs : s.heap.IsSliceOf sl vl vu vs) (pl : IsPart vl none) (pu : IsPart vu none) (ps : IsPart vs (some (-1)))
    (h : Q ((n : Int) - 1, -1, n) s) : wpAny (model prog w) A (Builtin.Slice.sliceApplied (.ref sl) (pure (n : Int))) Q E s := by
  obtain ⟨os, ho, hc, hd⟩ := id hs
  unfold Builtin.Slice.sliceApplied Builtin.Slice.sliceFields
  refine wpAny_bind (wpAny_bind (wpAny_field ho hd (x := vl) rfl (wpAny_bind (wpAny_field ho hd (x := vu) rfl (wpAny_bind (wpAny_field ho hd (x := vs) rfl (wpAny_pure ?_)))))))
  refine wpAny_bind (HT.slicePart_ ps ?_)
  show wpAny _ _ (if ((-1 : Int) == 0) = true then _ else _) _ _ s
  rw [if_neg (by decide)]
  refine wpAny_bind (HT.slicePart_ pl (wpAny_bind (HT.slicePart_ pu (wpAny_bind (wpAny_pure ?_)))))
  show wpAny _ _ (match Builtin.Slice.sliceAdjust none none (-1) (n : Int) with | (lo, hi) => pure (lo, (-1 : Int), Builtin.Slice.slicePlaces lo hi (-1))) _ _ s
  have e1 : Builtin.Slice.sliceAdjust none none (-1) (n : Int) = ((n : Int) - 1, -1) := by
    unfold Builtin.Slice.sliceAdjust
    simp
  rw [e1]
  show wpAny _ _ (pure ((n : Int) - 1, (-1 : Int), Builtin.Slice.slicePlaces ((n : Int) - 1) (-1) (-1))) _ _ s
  have e2 : Builtin.Slice.slicePlaces ((n : Int) - 1) (-1) (-1) = n := by
    unfold Builtin.Slice.slicePlaces
    simp
    try omega
  rw [e2]
  exact wpAny_pure h
theorem pick_back (xs : Array Value) : ((List.range xs.size).filterMap fun (m : Nat) => xs[(((xs.size : Int) - 1) + (m : Int) * (-1)).toNat]?) = xs.toList.reverse := by
  have e : ((List.range xs.size).filterMap fun (m : Nat) => xs[(((xs.size : Int) - 1) + (m : Int) * (-1)).toNat]?) = (((List.range xs.size).map fun k => xs.size - 1 - k).filterMap fun k => xs[k]?) := by
    rw [List.filterMap_map]
    congr 1
    funext m
    have : (((xs.size : Int) - 1) + (m : Int) * (-1)).toNat = xs.size - 1 - m := by omega
    rw [this]
    rfl
  rw [e, PySem.W.krv_range, List.filterMap_reverse, PySem.W.krv_all]
theorem tuple_back {prog : Program} {w : World} {A : Around} {E : Value → Shared → Prop} {s : Shared} {t sl : Addr} {items : Array Value} {vl vu vs : Value} {Q : Value → Shared → Prop} (ht : IsTup s.heap t items) (hs : s.heap.IsSliceOf sl vl vu vs) (pl : IsPart vl none) (pu : IsPart vu none) (ps : IsPart vs (some (-1)))
    (hsz : items.size ≤ sizeLine) (h : Q (.ref s.heap.objs.size) { s with heap := s.heap.push { cls := .type "tuple", data := .seq items.toList.reverse.toArray } }) : wpAny (model prog w) A (getItem (.ref t) (.ref sl)) Q E s := by
  have hz : sizeOk (.seq items.toList.reverse.toArray) := by
    show items.toList.reverse.toArray.size ≤ sizeLine
    simpa using hsz
  obtain ⟨os, ho, hc, hd⟩ := id hs
  have hT : s.TypeIs (.ref sl) "slice" := ⟨os, ho, hc⟩
  unfold getItem
  try with_reducible refine wpAny_holding ?_
  first | refine wpAny_bind (wpAny_pure ?_) | skip
  refine wpAny_bind (wpAny_sequenceKey ht.typeIs (by decide) (wpAny_bind (wpAny_callSpecial?_slot (name := Str.ofString "__getitem__") ht.typeIs PyProof.Rows.slot_tuple_getitem (wpAny_call_entry PyProof.Rows.slot_tuple_getitem ht.typeIs entry_tuple_getitem ?_ (args_tuple_getitem _ _)))))
  show wpAny _ _ (Builtin.Tuple.tupleItemsOf (.ref t) >>= _) _ _ s
  refine wpAny_bind (tupleItemsOf_ ht (wpAny_bind (wpAny_typeOf hT ?_)))
  rw [if_pos (by decide)]
  refine wpAny_bind (slice_back hs pl pu ps ?_)
  have no : ¬ ((((items.size : Int) - 1) == 0 && (-1 : Int) == 1 && items.size == items.size) = true) := by simp
  show wpAny _ _ (if (((items.size : Int) - 1) == 0 && (-1 : Int) == 1 && items.size == items.size) = true then _ else _) _ _ s
  rw [if_neg no, pick_back]
  first
    | exact wpAny_bind (m := Builtin.Tuple.tupleExact _) (wpAny_newObj_type (wpAny_pure ⟨_, rfl, wpAny_pure h⟩) hz)
    | exact wpAny_bind (m := Builtin.Tuple.tupleExact _) (wpAny_newObj_type (wpAny_bind (wpAny_pure (wpAny_pure ⟨_, rfl, wpAny_pure h⟩))) hz)
    | exact wpAny_bind (wpAny_bind (m := Builtin.Tuple.tupleExact _) (wpAny_newObj_type (wpAny_pure (wpAny_pure ⟨_, rfl, wpAny_pure h⟩)) hz))
    | exact wpAny_bind (wpAny_bind (m := Builtin.Tuple.tupleExact _) (wpAny_newObj_type (wpAny_pure ⟨_, rfl, wpAny_pure h⟩) hz))
def tBack (K : PySem.W.Frag) (te : TE) : TE := fun σ H Q => te σ H fun x H1 => ∃ a xs, x = .ref a ∧ ((SqL K H1 a xs ∧ ∀ p, H1 p = none → Q (.ref p) (upd H1 p (.lst xs.reverse))) ∨ (SqT K H1 a xs ∧ ∀ p, H1 p = none → Q (.ref p) (upd H1 p (.tup xs.reverse))))
theorem pe_back {te : TE} {k : Nat} {p1 p2 p3 : Pos} (he : PE X e te) : PE X (.Subscript e (.Slice none none (some (.UnaryOp .USub (.Constant (.int 1) k p1) p2)) p3) pos) (tBack X.K te) := ⟨fun pins s σ H Q I h => Subscript_ (thn (he.run pins s σ H _ I h) fun v s1 ⟨x, H1, I1, r1, ad, xs, ex, q⟩ => by
  subst ex
  cases r1
  have st : PO X (some (.UnaryOp .USub (.Constant (.int 1) k p1) p2)) (tPart (tUn (rU fun i => .int (-i)) (tC (.int 1)))) := po_some (pe_un un_neg pe_int)
  refine wpAny_Slice (thn (po_none.run pins s1 σ H1 (fun o H2 => o = none ∧ H2 = H1) I1 ⟨rfl, rfl⟩) fun vl s2 ⟨l, H2, I2, pl, el, e2⟩ => ?_)
  subst el e2
  refine thn (po_none.run pins s2 σ H2 (fun o H3 => o = none ∧ H3 = H2) I2 ⟨rfl, rfl⟩) fun vu s3 ⟨u, H3, I3, pu, eu, e3⟩ => ?_
  subst eu e3
  refine thn (st.run pins s3 σ H3 (fun o H4 => o = some (-1) ∧ H4 = H3) I3 ⟨1, rfl, -1, rfl, rfl, rfl⟩) fun vt s4 ⟨o, H4, I4, pt, eo, e4⟩ => ?_
  subst eo e4
  have I5 : Inv X pins σ H4 { s4 with heap := s4.heap.push { cls := .type "slice", data := .fields #[vl, vu, vt] } } := I4.kept (t' := s4.toks) fun b ob q => Heap.get?_push_of_some _ q
  show wpAny (model X.prog X.w) X.A (subscriptTail e (.Slice none none (some (.UnaryOp .USub (.Constant (.int 1) k p1) p2)) p3) (.ref ad) (.ref s4.heap.objs.size)) (EP X pins σ Q) X.xe { s4 with heap := s4.heap.push { cls := .type "slice", data := .fields #[vl, vu, vt] } }
  rcases q with ⟨hx, q⟩ | ⟨hx, q⟩
  · obtain ⟨its, r, ht, hz⟩ := I5.list hx
    have hl := r.length
    refine tail_any (ops := [.ref ad, .ref s4.heap.objs.size]) ht.isList.typeIs (PySem.slot_list_getitem.lookup) ?_ (by with_unfolding_all rfl)
    refine wpAny_getItem_list_slice ht.isList (Heap.IsSliceOf.new _ vl vu vt) pl pu pt (by decide) ?_ (by rw [List.size_toArray]; omega)
    rw [PySem.W.krv_pick]
    exact ⟨.ref _, _, I5.lnew (t' := s4.toks) (ys := xs.reverse) r.reverse (by rw [List.length_reverse]; exact hz), rfl, q _ I5.fresh⟩
  · obtain ⟨its, r, ht, hz⟩ := I5.tuple hx
    have hl := r.length
    refine tail_any (ops := [.ref ad, .ref s4.heap.objs.size]) ht.typeIs PyProof.Rows.slot_tuple_getitem.lookup ?_ (by with_unfolding_all rfl)
    refine tuple_back ht (Heap.IsSliceOf.new _ vl vu vt) pl pu pt (by rw [List.size_toArray]; omega) ?_
    exact ⟨.ref _, _, I5.laid (t' := s4.toks) (o := .tup xs.reverse) (fun b ob z => Heap.get?_push_of_some _ z) (Nat.le_refl _) (show ObjOk X.prog X.w _ _ _ (.tup xs.reverse) from ⟨by rw [List.length_reverse]; exact hz, _, r.reverse, IsTup.new _ _⟩), rfl, q _ I5.fresh⟩)⟩
theorem de_back {k : Nat} {p1 p2 p3 : Pos} (he : PE X e (TE' X.K ix f)) : PE X (.Subscript e (.Slice none none (some (.UnaryOp .USub (.Constant (.int 1) k p1) p2)) p3) pos) (TE' X.K ix (unS revD f)) :=
  pe_imp (pe_back he) fun σ H Q ⟨Fr, FX, G, ρ, r, ρ', R, hf, k⟩ => by
    unfold unS at hf
    obtain ⟨⟨r1, ρ1⟩, h1, hf⟩ := Option.bind_eq_some_iff.mp hf
    obtain ⟨d, h2, hf⟩ := Option.bind_eq_some_iff.mp hf
    obtain ⟨z, h3, hf⟩ := Option.bind_eq_some_iff.mp hf
    cases hf
    refine ⟨Fr, FX, G, ρ, r1, _, R, h1, fun v G1 H1 s1 R1 v1 => ?_⟩
    have vd := dat_vd R1 v1 h2
    have q : Res X.K G1 H1 Q z := res_ok R1 fun w G2 H2 s2 R2 w2 => k w G2 H2 (s1.trans s2) R2 w2
    unfold revD at h3
    split at h3
    · cases h3
      obtain ⟨ad, vs, rfl, h4, h5⟩ := vd_list vd
      exact ⟨ad, vs, rfl, .inl ⟨h4, fun p hp => res_lst q hp (dpAll_reverse h5)⟩⟩
    · cases h3
      obtain ⟨ad, vs, rfl, g4, h4, h5⟩ := vd_tup R1.gh vd
      exact ⟨ad, vs, rfl, .inr ⟨h4, fun p hp => res_tup q (g_none R1.gh hp) hp (dpAll_reverse h5)⟩⟩
    · cases h3
end
end DL

set_option Elab.async false
set_option linter.all false
set_option autoImplicit false
set_option maxRecDepth 100000
namespace DL
open PySem PySem.Spec PyProof.Rows L2

/-! ### dict displays -/
def prS : List (Key × M) → Rho → Option (List (Key × Dv) × Rho)
  | [], ρ => some ([], ρ)
  | (k, f) :: r, ρ => (frM f ρ).bind fun x => match x.1 with
    | .sh d => (prS r x.2).bind fun y => some ((k, d) :: y.1, y.2)
    | _ => none
def mergeD (kvs : List (Dv × Dv)) (more : List (Key × Dv)) : List (Dv × Dv) := more.foldl (fun acc p => putD acc (keyD p.1) p.2) kvs
def eDisp (r : List (Key × M)) : M := fun ρ => (prS r ρ).bind fun y => some (.ow (.dct (mergeD [] y.1)), y.2)
inductive DPs (X : Cx) (ix : List Nat) : List (Option Expr) → List Expr → List (Key × M) → Prop
  | nil : DPs X ix [] [] []
  | cons {e v : Expr} {ks : List (Option Expr)} {vs : List Expr} {k : Key} {f : M} {r : List (Key × M)} (hk : PE X e (tC (kV k))) (hv : PE X v (TE' X.K ix f)) (hr : DPs X ix ks vs r) : DPs X ix (some e :: ks) (v :: vs) ((k, f) :: r)
def trsOf (K : PySem.W.Frag) (ix : List Nat) : List (Key × M) → List (TE × TE)
  | [] => []
  | (k, f) :: r => (tC (kV k), TE' K ix (frM f)) :: trsOf K ix r
theorem DPs.pps {X : Cx} {ix : List Nat} {pos : Pos} : ∀ {ks : List (Option Expr)} {vs : List Expr} {r : List (Key × M)}, DPs X ix ks vs r → PPs X pos ks vs (trsOf X.K ix r)
  | _, _, _, .nil => pps_nil
  | _, _, _, .cons hk hv hr => pps_cons hk (de_fr hv) hr.pps
/-- the pairs that were made -/
inductive KVr (K : PySem.W.Frag) (G : Hp) : List (Key × V) → List (Key × Dv) → Prop
  | nil : KVr K G [] []
  | cons {k : Key} {v : V} {d : Dv} {r : List (Key × V)} {s : List (Key × Dv)} : Dp K G v d → KVr K G r s → KVr K G ((k, v) :: r) ((k, d) :: s)
theorem kvr_merge {K : PySem.W.Frag} {G : Hp} : ∀ {r : List (Key × V)} {s : List (Key × Dv)} {ks : List (Key × V)} {kvs : List (Dv × Dv)}, KVr K G r s → DKV K G ks kvs → DKV K G (mergeK ks r) (mergeD kvs s)
  | _, _, _, _, .nil, h => h
  | _, _, _, _, .cons q t, h => kvr_merge (ks := putK _ _ _) (kvs := putD _ _ _) t (dkv_put q h)
theorem kvr_len {K : PySem.W.Frag} {G : Hp} : ∀ {r : List (Key × V)} {s : List (Key × Dv)}, KVr K G r s → r.length = s.length
  | _, _, .nil => rfl
  | _, _, .cons _ t => by simp [kvr_len t]
theorem prS_len : ∀ {r : List (Key × M)} {ρ ρ' : Rho} {kds : List (Key × Dv)}, prS r ρ = some (kds, ρ') → kds.length = r.length
  | [], _, _, _, h => by cases h; rfl
  | (k, f) :: r, ρ, ρ', kds, h => by
    unfold prS at h
    obtain ⟨⟨r0, ρ0⟩, h0, h⟩ := Option.bind_eq_some_iff.mp h
    simp only at h
    split at h
    · obtain ⟨⟨y, ρ1⟩, h1, h⟩ := Option.bind_eq_some_iff.mp h
      cases h
      simp [prS_len h1]
    · cases h
theorem prS_ok {K : PySem.W.Frag} {ix : List Nat} {FX : Nat → Option V} {Fr : Hp} {σ : L2.St} : ∀ (r : List (Key × M)) {G H : Hp} {ρ ρ' : Rho} {kds : List (Key × Dv)} {Q : List (V × V) → Hp → Prop}, RS K ix Fr FX G ρ σ H → prS r ρ = some (kds, ρ') →
    (∀ kvs G' H', Sub G G' → RS K ix Fr FX G' ρ' σ H' → KVr K G' kvs kds → Q (kvs.map fun kv => (kV kv.1, kv.2)) H') → tPairs (trsOf K ix r) σ H Q
  | [], G, H, ρ, ρ', kds, Q, R, h, k => by
    cases h
    exact k [] G H (Sub.refl _) R .nil
  | (key, f) :: r, G, H, ρ, ρ', kds, Q, R, h, k => by
    unfold prS at h
    obtain ⟨⟨r0, ρ0⟩, h0, h⟩ := Option.bind_eq_some_iff.mp h
    simp only at h
    split at h
    · rename_i d
      obtain ⟨⟨y, ρ1⟩, h1, h⟩ := Option.bind_eq_some_iff.mp h
      cases h
      show TE' K ix (frM f) σ H _
      refine ⟨Fr, FX, G, ρ, _, ρ0, R, h0, fun v G1 H1 s1 R1 v1 => prS_ok r R1 h1 fun kvs G2 H2 s2 R2 q2 => ?_⟩
      exact k ((key, v) :: kvs) G2 H2 (s1.trans s2) R2 (.cons (dp_mono s2 _ _ v1) q2)
    · cases h
theorem RS.updF {K : PySem.W.Frag} {ix : List Nat} {Fr G H : Hp} {FX : Nat → Option V} {ρ : Rho} {σ : L2.St} {p : Addr} {u : HO} (R : RS K ix Fr FX G ρ σ H) (g : G p = none) (f : Fr p = none) (hn : ∀ (i : Nat) (o' : Ob), ρ[i]? = some (.ow o') → σ[i]? ≠ some (some (.ref p))) :
    RS K ix Fr FX G ρ σ (upd H p u) := by
  refine ⟨fun a o e => ?_, fun a o e => ?_, R.gf, R.len, fun i s e => ?_, R.sep, R.fx⟩
  · have ha : a ≠ p := fun z => by subst z; rw [g] at e; cases e
    rw [upd_ne ha]; exact R.gh a o e
  · have ha : a ≠ p := fun z => by subst z; rw [f] at e; cases e
    rw [upd_ne ha]; exact R.fh a o e
  · refine (R.sl i s e).mono (Sub.refl _) fun a o' e1 e2 g1 f1 => ?_
    have ha : a ≠ p := fun z => by
      subst z; subst e2
      exact hn i _ e e1
    rw [upd_ne ha]
    exact ⟨g1, rfl⟩
theorem de_disp {X : Cx} {ix : List Nat} {pos : Pos} {keys : List (Option Expr)} {values : List Expr} {r : List (Key × M)} (h : DPs X ix keys values r) (hall : keys.all (·.isSome) = true := by rfl) (hl : keys.length = values.length := by rfl) (h0 : keys ≠ [] := by decide)
    (h15 : r.length ≤ 15 := by decide) (h15' : keys.length ≤ 15 := by decide) : PE X (.Dict keys values pos) (TE' X.K ix (eDisp r)) := by
  refine pe_imp (pe_disp h.pps hall hl h0 h15') fun σ H Q ⟨Fr, FX, G, ρ, r0, ρ', R, hf, k⟩ => ?_
  unfold eDisp at hf
  obtain ⟨⟨kds, ρ1⟩, h1, hf⟩ := Option.bind_eq_some_iff.mp hf
  cases hf
  intro p hp
  obtain ⟨g, f0⟩ := R.none_of hp
  have R1 := (R.newH (o := .dK []) hp).frame g upd_same (R.notIn hp)
  refine prS_ok r R1 h1 fun kvs G2 H2 s2 R2 q2 => ?_
  have g2 : G2 p = none := R2.gf p (by rw [upd_same]; simp)
  have h2 : H2 p = some (.dK []) := R2.fh p _ upd_same
  have hn : ∀ (i : Nat) (o' : Ob), ρ1[i]? = some (.ow o') → σ[i]? ≠ some (some (.ref p)) := fun i o' e e1 => by
    obtain ⟨a, e2, _, f2, _⟩ := R2.sl i _ e
    rw [e1] at e2
    cases e2
    rw [upd_same] at f2
    cases f2
  refine ⟨h2, kvs, rfl, ?_, ?_⟩
  · rw [kvr_len q2, prS_len h1]; exact h15
  · exact k _ G2 _ s2 ((R2.unframe f0).updF g2 f0 hn) ⟨p, rfl, g2, f0, ⟨_, upd_same, kvr_merge q2 .nil⟩, hn⟩

/-! ### whiles by enough rounds -/
theorem whileS_succ {c : MB} {b : MS} : ∀ (n : Nat) {ρ : Rho} {fl : Fl}, whileS c b n ρ = some fl → whileS c b (n + 1) ρ = some fl
  | 0, ρ, fl, h => by cases h
  | n + 1, ρ, fl, h => by
    unfold whileS at h ⊢
    obtain ⟨⟨k, ρ1⟩, h1, h⟩ := Option.bind_eq_some_iff.mp h
    rw [h1]
    simp only [Option.bind_some] at h ⊢
    split at h
    · rename_i hk
      rw [if_pos hk]
      obtain ⟨f2, h2, h⟩ := Option.bind_eq_some_iff.mp h
      rw [h2]
      simp only [Option.bind_some]
      cases f2 with
      | nx ρ2 => exact whileS_succ n h
      | ct ρ2 => exact whileS_succ n h
      | bk ρ2 => exact h
      | rt r ρ2 => exact h
    · rename_i hk
      rw [if_neg hk]
      exact h
theorem whileS_le {c : MB} {b : MS} {n m : Nat} (h : n ≤ m) {ρ : Rho} {fl : Fl} (e : whileS c b n ρ = some fl) : whileS c b m ρ = some fl := by
  induction h with
  | refl => exact e
  | step _ ih => exact whileS_succ _ ih

/-! ### defs by name -/
structure Dn (K : PySem.W.Frag) (mg : Str → Option Value) (x : Str) (st : Stmt) (ps : List Str) : Prop where
  ex : ∃ f fd, FunD K x x (defArgs st) (defBody st) (defScope st) [] [] f fd ∧ mg x = some (.ref f) ∧ Binds K fd ps []
structure Has (P : Program) (w : World) (K : PySem.W.Frag) (mg : Str → Option Value) (base : Heap) (k : Nat) (x : Str) (ps : List Str) (F : FnS) : Prop where
  ex : ∃ f fd, FnOk P w K mg base CX0 k f fd ps (spD K ps.length F) ∧ mg x = some (.ref f) ∧ PySem.W.keepIn K (.ref f) = true ∧ Binds K fd ps []
section
variable {P : Program} {w : World} {K : PySem.W.Frag} {mg : Str → Option Value} {base : Heap}
theorem fun_ofD {x : Str} {st : Stmt} {f : Addr} {fd : FuncData} (F : FunD K x x (defArgs st) (defBody st) (defScope st) [] [] f fd) : Fun K x x st f fd := by
  obtain ⟨oc, od, dV, kV, doc, pm, an, cdv, ct, osl, e, l, c, hd, _⟩ := F.ex
  rcases hd with ⟨_, e2⟩ | ⟨e2, _⟩
  · subst e2
    exact ⟨⟨oc, od, kV, doc, pm, an, cdv, ct, osl, e, l, c⟩, F.kp⟩
  · exact absurd rfl e2
theorem fn_has {x : Str} {st : Stmt} {N ps : List Str} {k : Nat} (D : Dn K mg x st ps) (S : FnScope N ps (defScope st)) (ix : List Nat) (g : MS)
    (hb : ∀ (cdv : Value) (A : Around) (outer : List Env) (s : Shared) (H : Hp) (E : XK) (fA : Addr), Room k (A.deeper (envOfC x (defScope st) s.heap.objs.size fA cdv)) →
      PSs (cxOf CX0 P w K mg base N x (defScope st) fA cdv A outer s H E).nox (defBody st) (TS' K ix g)) (hN : ps.length ≤ N.length := by decide) : Has P w K mg base (k + 1) x ps (runF ps.length N.length ix g) := by
  obtain ⟨f, fd, F, hm, hB⟩ := D.ex
  exact ⟨f, fd, fn_d (fun_ofD F) S ix g hN fun cdv A outer s H E hr => hb cdv A outer s H E f hr, hm, F.kp, hB⟩
theorem dn_mk {x : Str} {st : Stmt} {ps : List Str} {f : Addr} {fd : FuncData} (F : FunD K x x (defArgs st) (defBody st) (defScope st) [] [] f fd) (hm : mg x = some (.ref f))
    (hb : ∀ (kV doc pm : Value) (an : Option Addr) (cdv ct : Value) (us : List Value), us.length = ps.length → bindArgs (PySem.W.fnOf x x (defArgs st) (defBody st) (defScope st) Value.none kV doc pm an cdv ct) { pos := us } = pure (ps.zip us)) : Dn K mg x st ps :=
  ⟨⟨f, fd, F, hm, F.bindsN hb⟩⟩
end
section
variable {X : Cx} {ix : List Nat} {e : Expr} {es : List Expr} {ga : MA} {pos p : Pos}
theorem de_call {k k' : Nat} {ps : List Str} {x : Str} {F : FnS} (G : Has X.prog X.w X.K X.mg X.base k x ps F) (hr : Room k' X.A) (hk : k ≤ k') (hg : Gl X x)
    (ha : PA X (e :: es) (TA' X.K ix ga)) (hnp : ∀ ρ rs ρ', ga ρ = some (rs, ρ') → rs.length = ps.length) (hdb : (x == ("__debug__" : Str)) = false := by decide)
    (hs : starEach (e :: es) X.env = (false, eval e X.env) :: starEach es X.env := by rfl) (hs2 : ((backTo pos (starEach es X.env)).any fun x => x.fst) = false := by rfl) : PE X (.Call (.Name x p) (e :: es) [] pos) (TE' X.K ix (eFn F ga)) := by
  obtain ⟨f, fd, G, hm, hk2, hb⟩ := G.ex
  exact de_fn G (hr.mono hk) hg hm hk2 hb ha hnp hdb hs hs2
theorem de_call0 {k k' : Nat} {x : Str} {F : FnS} (G : Has X.prog X.w X.K X.mg X.base k x [] F) (hr : Room k' X.A) (hk : k ≤ k') (hg : Gl X x) (hdb : (x == ("__debug__" : Str)) = false := by decide) : PE X (.Call (.Name x p) [] [] pos) (TE' X.K ix (eFn F aNil)) := by
  obtain ⟨f, fd, G, hm, hk2, hb⟩ := G.ex
  exact de_fn0 G (hr.mono hk) hg hm hk2 hb hdb
end
end DL

set_option Elab.async false
set_option linter.all false
set_option autoImplicit false
set_option maxRecDepth 100000
namespace DL
open PySem PySem.Spec PyProof.Rows L2
theorem u2 {k : Nat} {A : Around} (h : Room k A) : A.units + 1 < cLine := by have := h.un; omega
theorem u11 {k : Nat} {A : Around} (h : Room k A) : A.units + 10 < cLine := by have := h.un; omega
theorem u65 {k : Nat} {A : Around} (h : Room k A) : A.units + 64 < cLine := by have := h.un; omega
theorem u66 {k : Nat} {A : Around} (h : Room k A) : A.units + 65 < cLine := by have := h.un; omega
theorem u201 {k : Nat} {A : Around} (h : Room k A) : A.units + 200 < cLine := by have := h.un; omega
theorem ds_void {X : Cx} {ix : List Nat} {b : List Stmt} : PSs X b (TS' X.K ix fun _ => none) := ⟨fun pins s σ H D I q => by
  obtain ⟨Fr, FX, G, ρ, fl, R, h, _⟩ := q
  cases h⟩
theorem law_end {K : PySem.W.Frag} {H : Hp} {a : Addr} {ns : List Int} {F : FnS} {E : XK} (hS : SqL K H a (ns.map V.int)) (W : ∃ as', F [.sh (.list (ns.map PyData.int))] = some (.sh (.bool true), as')) :
    spD K 1 F [.ref a] H (fun v x => v = .bl true) E := by
  obtain ⟨as', e⟩ := W
  refine ⟨fun _ => none, H, _, _, as', rfl, ⟨fun _ _ h => h, fun _ _ h => (nomatch h), fun _ n => absurd rfl n, rfl, fun i s h => ?_, fun i j b o o' ne e1 e2 => ?_, fun _ _ h => (nomatch h)⟩, e, fun v G' H' _ _ h => ?_⟩
  · cases i with
    | zero =>
      cases h
      exact ⟨_, rfl, .lst hS (dpAll_ints ns)⟩
    | succ i => simp at h
  · cases i with
    | zero => cases e1
    | succ i => simp at e1
  · have h' : Dp K G' v (.bool true) := h
    cases h'
    rfl
end DL

set_option Elab.async false
set_option linter.all false
set_option autoImplicit false
set_option maxRecDepth 100000
namespace DL
open PySem PySem.Spec PyProof.Rows L2
/-! ### the law's own words: draws, the next, one picked -/
def drawsG : MS :=
    (sSeq (sSet 2 (eLst aNil))
    (sSeq (sSet 3 (eC (.int 7)))
    (sSeq (sFor (iRng rng1 (aCons (eCall lenG (aCons (eVar 0) aNil)) aNil)) (tName 4) (sSeq (sSet 5 (eCall absG (aCons (eCall intG (aCons (binS ixA (eVar 0) (eVar 4)) aNil)) aNil)))
    (sSeq (sSet 3 (binS modD (eCall intG (aCons (binS addD (binS addD (binS mulD (eVar 3) (eC (.int 48271))) (binS modD (eVar 5) (eC (.int 1000003)))) (eVar 4)) aNil)) (eC (.int 65537))))
    (sSeq (sSet 6 (eC (.int 0)))
    (sSeq (sIf (tB (binS (cmpD fun i j => decide (j ≤ i)) (eVar 5) (binS powD (eC (.int 10)) (eC (.int 18))))) (sSet 6 (cpM (eVar 5))) (sSeq (sExpr (mutM "list" appG (eVar 2) (aCons (frM (binS modD (eCall intG (aCons (eVar 5) aNil)) (eC (.int 997)))) aNil)))
    (sExpr (mutM "list" appG (eVar 2) (aCons (frM (binS modD (binS modD (eCall intG (aCons (binS addD (binS mulD (eVar 3) (eC (.int 69621))) (eC (.int 5))) aNil)) (eC (.int 65521))) (eC (.int 997)))) aNil)))))
    (sFor (iRng rng1 (aCons (eC (.int 60)) aNil)) (tName 7) (sIf (tB (binS (cmpD fun i j => decide (j < i)) (eVar 6) (eC (.int 0)))) (sSeq (sExpr (mutM "list" appG (eVar 2) (aCons (frM (binS modD (eCall intG (aCons (eVar 6) aNil)) (eC (.int 997)))) aNil)))
    (sSet 6 (binS divD (eVar 6) (eC (.int 997))))) sNil)))))))
    (sSeq (sFor (iRng rng1 (aCons (eVar 1) aNil)) (tName 4) (sSeq (sSet 3 (binS modD (eCall intG (aCons (binS addD (binS addD (binS mulD (eVar 3) (eC (.int 16807))) (eVar 4)) (eC (.int 1))) aNil)) (eC (.int 65537))))
    (sExpr (mutM "list" appG (eVar 2) (aCons (frM (binS modD (eCall intG (aCons (eVar 3) aNil)) (eC (.int 997)))) aNil)))))
    (sRet [] (eCut (eVar 2) oNo (oInt (eVar 1))))))))
def nextG : MS :=
    (sSeq (sAugS iaddD (eVar 0) (eC (.str ("at" : Str))) (eC (.int 1)))
    (sSeq (sIf (tB (binS (cmpD fun i j => decide (j < i)) (binS ixA (eVar 0) (eC (.str ("at" : Str)))) (eCall lenG (aCons (binS ixA (eVar 0) (eC (.str ("draws" : Str)))) aNil)))) (sRet [0] (eC (.int 0))) sNil)
    (sRet [0] (binS modD (eCall intG (aCons (binS ixA (binS ixA (eVar 0) (eC (.str ("draws" : Str)))) (binS subD (binS ixA (eVar 0) (eC (.str ("at" : Str)))) (eC (.int 1)))) aNil)) (eVar 1)))))
def drawsF : FnS := runF 2 8 [] drawsG
def nextF : FnS := runF 2 2 [0] nextG
def pickG : MS :=
    (sRet [0] (binS ixA (eVar 1) (eFn nextF (aCons (eVar 0) (aCons (frM (eCall lenG (aCons (eVar 1) aNil))) aNil)))))
def pickF : FnS := runF 2 2 [0] pickG
theorem sSeq_nx {g h : MS} {ρ ρ1 : Rho} (e : g ρ = some (.nx ρ1)) : sSeq g h ρ = h ρ1 := by
  unfold sSeq
  rw [e]
  rfl
theorem sSeq_rt {g h : MS} {ρ ρ1 : Rho} {r : Rv} (e : g ρ = some (.rt r ρ1)) : sSeq g h ρ = some (.rt r ρ1) := by
  unfold sSeq
  rw [e]
  rfl
theorem sFor_eq {f : ML} {t : MT} {b : MS} {ρ ρ1 : Rho} {ds : List Dv} (h : f ρ = some (ds, ρ1)) : sFor f t b ρ = forS t b ds ρ1 := by
  unfold sFor
  rw [h]
  rfl
theorem iRng_eq {r : List Dv → Option (List Dv)} {ga : MA} {ρ ρ1 : Rho} {rs : List Rv} {ds es : List Dv} (h : ga ρ = some (rs, ρ1)) (h1 : dats ρ1 rs = some ds) (h2 : r ds = some es) : iRng r ga ρ = some (es, ρ1) := by
  unfold iRng
  rw [h]
  simp only [Option.bind_some]
  rw [h1]
  simp only [Option.bind_some]
  rw [h2]
  rfl
theorem runF_eq {np N : Nat} {ix : List Nat} {g : MS} {as : List Sl} {fl : Fl} {z : Rv × List Sl} (h0 : okA 0 ix as = true) (h : g (as ++ List.replicate (N - np) .no) = some fl) (hz : (match fl with
  | .nx ρ => some (Rv.sh .none, outA 0 ix as ρ)
  | .rt (.sh d) ρ => some (Rv.sh d, outA 0 ix as ρ)
  | .rt (.ow o) ρ => some (Rv.ow o, outA 0 ix as ρ)
  | .rt (.fd o) ρ => some (Rv.fd o, outA 0 ix as ρ)
  | _ => none) = some z) : runF np N ix g as = some z := by
  unfold runF
  rw [if_pos h0, h]
  cases fl with
  | rt r ρ => cases r <;> exact hz
  | _ => exact hz
theorem forS_inv {t : MT} {b : MS} (I : Nat → Rho → Prop) : ∀ (ds : List Dv) (k : Nat) (ρ : Rho), I k ρ →
    (∀ (j : Nat) (d : Dv) (ρ : Rho), ds[j]? = some d → I (k + j) ρ → ∃ ρ1 ρ2, t d ρ = some ρ1 ∧ (b ρ1 = some (.nx ρ2) ∨ b ρ1 = some (.ct ρ2)) ∧ I (k + j + 1) ρ2) → ∃ ρ', forS t b ds ρ = some (.nx ρ') ∧ I (k + ds.length) ρ'
  | [], k, ρ, h, _ => ⟨ρ, rfl, h⟩
  | d :: ds, k, ρ, h, s => by
    obtain ⟨ρ1, ρ2, e1, e2, h2⟩ := s 0 d ρ rfl h
    obtain ⟨ρ', e3, h3⟩ := forS_inv I ds (k + 1) ρ2 h2 fun j d' ρ0 e i => by
      have := s (j + 1) d' ρ0 e (by rw [show k + (j + 1) = k + 1 + j by omega]; exact i)
      rw [show k + (j + 1) = k + 1 + j by omega] at this
      exact this
    refine ⟨ρ', ?_, ?_⟩
    · unfold forS
      rw [e1]
      simp only [Option.bind_some]
      rcases e2 with e2 | e2 <;> (rw [e2]; exact e3)
    · rw [List.length_cons, show k + (ds.length + 1) = k + 1 + ds.length by omega]
      exact h3
/-- the draws and the place -/
def W1 (ds : List Int) (n : Nat) : Ob := .dct [(.str ("draws" : Str), .list (ds.map .int)), (.str ("at" : Str), .int n)]
theorem key1 : eqKey (.str ("draws" : Str)) (.str ("at" : Str)) = false := by decide +kernel
theorem key2 : eqKey (.str ("at" : Str)) (.str ("at" : Str)) = true := by decide +kernel
theorem key3 : eqKey (.str ("draws" : Str)) (.str ("draws" : Str)) = true := by decide +kernel
theorem key4 : eqKey (.str ("at" : Str)) (.str ("draws" : Str)) = false := by decide +kernel
theorem szl : (2 : Nat) < sizeLine := by decide +kernel
theorem next_s0 (ds : List Int) (n : Nat) (s : Sl) : sAugS iaddD (eVar 0) (eC (.str ("at" : Str))) (eC (.int 1)) [.ow (W1 ds n), s] = some (.nx [.ow (W1 ds (n + 1)), s]) := by
  simp [sAugS, eVar, eC, pkM, dat, isKey, getOb, W1, getD, key1, key2, iaddD, setOb, szl, putD]
theorem atI_map (ds : List Int) (n : Nat) (h : n < ds.length) : atI (ds.map PyData.int) (n : Int) = some (.int ds[n]) := by
  unfold atI
  simp [ixN, h]

theorem szl_big : 100000 ≤ sizeLine := by decide +kernel
theorem next_ok {ds : List Int} {n : Nat} {m : Int} (hm : 0 < m) : ∃ v : Int, 0 ≤ v ∧ v < m ∧ nextF [.ow (W1 ds n), .sh (.int m)] = some (.sh (.int v), [.ow (W1 ds (n + 1)), .sh (.int m)]) := by
  by_cases h : n < ds.length
  · refine ⟨ds[n] % m, Int.emod_nonneg _ (by omega), Int.emod_lt_of_pos _ hm, ?_⟩
    have e0 := next_s0 ds n (.sh (.int m))
    have e1 : ¬ (ds.length : Int) < (n : Int) + 1 := by omega
    have e2 := atI_map ds n h
    unfold nextF runF
    simp only [okA, List.contains, List.elem, nextG, sSeq, List.cons_append, List.nil_append, List.length_nil, List.replicate, Nat.sub_self, e0, Option.bind_some, ite_true, beq_self_eq_true, Bool.true_and, Bool.and_true]
    simp [sIf, tB, binS, pkM, eVar, eC, dat, eCall, aCons, aNil, dats, lenG, ixA, plD, isKey, W1, obD, getD, key1, key2, key3, cmpD, Rz.rv, e1, sNil, sRet, subD, intG, ixD, e2, modD, hm, outA]
  · refine ⟨0, by omega, by omega, ?_⟩
    have e0 := next_s0 ds n (.sh (.int m))
    have e1 : (ds.length : Int) < (n : Int) + 1 := by omega
    unfold nextF runF
    simp only [okA, List.contains, List.elem, nextG, sSeq, List.cons_append, List.nil_append, List.length_nil, List.replicate, Nat.sub_self, e0, Option.bind_some, ite_true, beq_self_eq_true, Bool.true_and, Bool.and_true]
    simp [sIf, tB, binS, pkM, eVar, eC, dat, eCall, aCons, aNil, dats, lenG, ixA, plD, isKey, W1, obD, getD, key1, key2, key3, cmpD, Rz.rv, e1, sNil, sRet, outA]
theorem pick_ok {ds : List Int} {n : Nat} {xs : List Dv} (hx : xs ≠ []) : ∃ v, v ∈ xs ∧ pickF [.ow (W1 ds n), .sh (.list xs)] = some (.sh v, [.ow (W1 ds (n + 1)), .sh (.list xs)]) := by
  have hl : 0 < xs.length := List.length_pos_iff.mpr hx
  obtain ⟨v, h0, h1, e⟩ := next_ok (ds := ds) (n := n) (m := xs.length) (by omega)
  obtain ⟨j, rfl⟩ := Int.eq_ofNat_of_zero_le h0
  have hj : j < xs.length := by omega
  refine ⟨xs[j], List.getElem_mem _, ?_⟩
  have e2 : atI xs (j : Int) = some xs[j] := atI_nat (List.getElem?_eq_getElem hj)
  unfold pickF runF
  simp [okA, pickG, sRet, binS, pkM, eVar, eFn, aCons, aNil, frM, eCall, dats, dat, lenG, Rz.rv, toSls, toSl, alsOk, als, e, wback, ixA, plD, ixD, e2, outA]
theorem mul_big {i : Int} {j : Int} (h : -(2 ^ 64) < j ∧ j < 2 ^ 64) : mulD (.int i) (.int j) = some (.sh (.int (i * j))) := by
  unfold mulD
  simp only
  rw [if_pos (.inr h)]
theorem range1_eval {n : Nat} (h : n < 2 ^ 62) : rng1 [.int (n : Int)] = some (rangeD 0 n) := by
  unfold rng1
  have : bnd62 (n : Int) = true := by unfold bnd62; exact decide_eq_true ⟨by omega, by omega⟩
  simp [this]
theorem rangeD_len (lo : Int) (n : Nat) : (rangeD lo n).length = n := by simp [rangeD]
def inG : MS := sIf (tB (binS (cmpD fun i j => decide (j < i)) (eVar 6) (eC (.int 0)))) (sSeq (sExpr (mutM "list" appG (eVar 2) (aCons (frM (binS modD (eCall intG (aCons (eVar 6) aNil)) (eC (.int 997)))) aNil)))
    (sSet 6 (binS divD (eVar 6) (eC (.int 997))))) sNil
theorem inG_ok (S s1 s3 s4 s5 : Sl) (L : Nat) (hL : L + 60 ≤ 10000) (xs : List Int) (hx : xs.length ≤ L) (r : Int) (s7 : Sl) :
    ∃ ρ', sFor (iRng rng1 (aCons (eC (.int 60)) aNil)) (tName 7) inG [S, s1, .ow (.lst (xs.map .int)), s3, s4, s5, .sh (.int r), s7] = some (.nx ρ') ∧
      ∃ (ys : List Int) (r' : Int) (s7' : Sl), ρ' = [S, s1, .ow (.lst (ys.map .int)), s3, s4, s5, .sh (.int r'), s7'] ∧ ys.length ≤ L + 60 := by
  have e : rng1 [.int 60] = some (rangeD 0 60) := range1_eval (n := 60) (by decide)
  have := forS_inv (t := tName 7) (b := inG) (fun k ρ => ∃ (ys : List Int) (r' : Int) (s7' : Sl), ρ = [S, s1, .ow (.lst (ys.map .int)), s3, s4, s5, .sh (.int r'), s7'] ∧ ys.length ≤ L + k) (rangeD 0 60) 0 _ ⟨xs, r, s7, rfl, hx⟩ fun j d ρ hd hI => by
    obtain ⟨hj, rfl⟩ := rangeD_get hd
    obtain ⟨ys, r', s7', rfl, hl⟩ := hI
    have hz : ys.length < sizeLine := by have := szl_big; omega
    by_cases hr : 0 < r'
    · refine ⟨_, _, rfl, .inl ?_, ys ++ [r' % 997], r' / 997, .sh (.int (0 + j)), rfl, by simp; omega⟩
      simp [inG, sIf, tB, binS, pkM, eVar, eC, dat, cmpD, Rz.rv, hr, sSeq, sExpr, mutM, isOb, obT, isDtn, aCons, aNil, frM, eCall, dats, intG, modD, shs, appG, hz, sSet, divD]
    · refine ⟨_, _, rfl, .inl ?_, ys, r', .sh (.int (0 + j)), rfl, by omega⟩
      simp [inG, sIf, tB, binS, pkM, eVar, eC, dat, cmpD, Rz.rv, hr, sNil]
  obtain ⟨ρ', e1, h1⟩ := this
  refine ⟨ρ', ?_, ?_⟩
  · unfold sFor iRng
    simp [aCons, aNil, eC, dats, dat, e, e1]
  · rw [rangeD_len] at h1
    simpa using h1
theorem pow18 : powD (.int 10) (.int 18) = some (.sh (.int 1000000000000000000)) := rfl
def outG : MS := (sSeq (sSet 5 (eCall absG (aCons (eCall intG (aCons (binS ixA (eVar 0) (eVar 4)) aNil)) aNil)))
    (sSeq (sSet 3 (binS modD (eCall intG (aCons (binS addD (binS addD (binS mulD (eVar 3) (eC (.int 48271))) (binS modD (eVar 5) (eC (.int 1000003)))) (eVar 4)) aNil)) (eC (.int 65537))))
    (sSeq (sSet 6 (eC (.int 0)))
    (sSeq (sIf (tB (binS (cmpD fun i j => decide (j ≤ i)) (eVar 5) (binS powD (eC (.int 10)) (eC (.int 18))))) (sSet 6 (cpM (eVar 5))) (sSeq (sExpr (mutM "list" appG (eVar 2) (aCons (frM (binS modD (eCall intG (aCons (eVar 5) aNil)) (eC (.int 997)))) aNil)))
    (sExpr (mutM "list" appG (eVar 2) (aCons (frM (binS modD (binS modD (eCall intG (aCons (binS addD (binS mulD (eVar 3) (eC (.int 69621))) (eC (.int 5))) aNil)) (eC (.int 65521))) (eC (.int 997)))) aNil)))))
    (sFor (iRng rng1 (aCons (eC (.int 60)) aNil)) (tName 7) inG)))))
def lastG : MS := (sSeq (sSet 3 (binS modD (eCall intG (aCons (binS addD (binS addD (binS mulD (eVar 3) (eC (.int 16807))) (eVar 4)) (eC (.int 1))) aNil)) (eC (.int 65537))))
    (sExpr (mutM "list" appG (eVar 2) (aCons (frM (binS modD (eCall intG (aCons (eVar 3) aNil)) (eC (.int 997)))) aNil))))
theorem drawsG_eq : drawsG = (sSeq (sSet 2 (eLst aNil)) (sSeq (sSet 3 (eC (.int 7))) (sSeq (sFor (iRng rng1 (aCons (eCall lenG (aCons (eVar 0) aNil)) aNil)) (tName 4) outG)
    (sSeq (sFor (iRng rng1 (aCons (eVar 1) aNil)) (tName 4) lastG) (sRet [] (eCut (eVar 2) oNo (oInt (eVar 1)))))))) := rfl
theorem mulA (i : Int) : mulD (.int i) (.int 48271) = some (.sh (.int (i * 48271))) := mul_big (by decide)
theorem mulB (i : Int) : mulD (.int i) (.int 69621) = some (.sh (.int (i * 69621))) := mul_big (by decide)
theorem mulC (i : Int) : mulD (.int i) (.int 16807) = some (.sh (.int (i * 16807))) := mul_big (by decide)
theorem outG_ok (ns : List Int) (j : Nat) (hj : j < ns.length) (ys : List Int) (hy : ys.length ≤ 64 * j) (hn : ns.length ≤ 63) (mx : Int) (s1 s5 s6 s7 : Sl) :
    ∃ (zs : List Int) (mx' : Int) (t5 t6 t7 : Sl), outG [.sh (.list (ns.map .int)), s1, .ow (.lst (ys.map .int)), .sh (.int mx), .sh (.int (0 + (j : Int))), s5, s6, s7] =
      some (.nx [.sh (.list (ns.map .int)), s1, .ow (.lst (zs.map .int)), .sh (.int mx'), .sh (.int (0 + (j : Int))), t5, t6, t7]) ∧ zs.length ≤ 64 * (j + 1) := by
  have e2 := atI_map ns j hj
  have hz : ys.length < sizeLine := by have := szl_big; omega
  have hz2 : ys.length + 1 < sizeLine := by have := szl_big; omega
  generalize hc : (if ns[j] < 0 then -ns[j] else ns[j]) = c
  by_cases hr : (1000000000000000000 : Int) ≤ c
  · obtain ⟨ρ', e, zs, r', s7', rfl, hl⟩ := inG_ok (.sh (.list (ns.map .int))) (s1) (.sh (.int ((mx * 48271 + c % 1000003 + (0 + (j : Int))) % 65537))) (.sh (.int (0 + (j : Int)))) (.sh (.int c)) (64 * j) (by omega) ys hy c s7
    refine ⟨zs, (mx * 48271 + c % 1000003 + (0 + (j : Int))) % 65537, .sh (.int c), .sh (.int r'), s7', ?_, by omega⟩
    unfold outG
    simp [sSeq, sSet, eCall, aCons, aNil, binS, pkM, eVar, dats, dat, ixA, plD, ixD, e2, intG, absG, hc, Rz.rv, eC, mulA, modD, addD, sIf, tB, cmpD, pow18, hr, cpM]
    simpa using e
  · obtain ⟨ρ', e, zs, r', s7', rfl, hl⟩ := inG_ok (.sh (.list (ns.map .int))) (s1) (.sh (.int ((mx * 48271 + c % 1000003 + (0 + (j : Int))) % 65537))) (.sh (.int (0 + (j : Int)))) (.sh (.int c)) (64 * j + 2) (by omega) (ys ++ [c % 997, ((mx * 48271 + c % 1000003 + (0 + (j : Int))) % 65537 * 69621 + 5) % 65521 % 997]) (by simp; omega) 0 s7
    refine ⟨zs, (mx * 48271 + c % 1000003 + (0 + (j : Int))) % 65537, .sh (.int c), .sh (.int r'), s7', ?_, by omega⟩
    unfold outG
    simp [sSeq, sSet, eCall, aCons, aNil, binS, pkM, eVar, dats, dat, ixA, plD, ixD, e2, intG, absG, hc, Rz.rv, eC, mulA, mulB, modD, addD, sIf, tB, cmpD, pow18, hr, cpM, sExpr, mutM, isOb, obT, isDtn, frM, shs, appG, hz, hz2]
    simpa using e
theorem draws_ok (ns : List Int) (hn : ns.length ≤ 63) (m : Nat) (hm : m ≤ 1000) : ∃ ds : List Int, ds.length = m ∧ drawsF [.sh (.list (ns.map .int)), .sh (.int (m : Int))] = some (.ow (.lst (ds.map .int)), [.sh (.list (ns.map .int)), .sh (.int (m : Int))]) := by
  obtain ⟨ρ1, e1, ys, mx, s4, s5, s6, s7, rfl, hy⟩ := forS_inv (t := tName 4) (b := outG) (fun k ρ => ∃ (ys : List Int) (mx : Int) (s4 s5 s6 s7 : Sl), ρ = [.sh (.list (ns.map .int)), .sh (.int (m : Int)), .ow (.lst (ys.map .int)), .sh (.int mx), s4, s5, s6, s7] ∧ ys.length ≤ 64 * k)
    (rangeD 0 ns.length) 0 [.sh (.list (ns.map .int)), .sh (.int (m : Int)), .ow (.lst []), .sh (.int 7), .no, .no, .no, .no] ⟨[], 7, .no, .no, .no, .no, rfl, by simp⟩ fun j d ρ hd hI => by
      obtain ⟨hj, rfl⟩ := rangeD_get hd
      obtain ⟨ys, mx, s4, s5, s6, s7, rfl, hy⟩ := hI
      obtain ⟨zs, mx', t5, t6, t7, e, hz⟩ := outG_ok ns j hj ys (by simpa using hy) hn mx (.sh (.int (m : Int))) s5 s6 s7
      exact ⟨_, _, rfl, .inl e, zs, mx', _, t5, t6, t7, rfl, by simpa using hz⟩
  rw [rangeD_len] at hy
  obtain ⟨ρ2, e2, zs, mx2, t4, t5, t6, t7, rfl, hz⟩ := forS_inv (t := tName 4) (b := lastG) (fun k ρ => ∃ (zs : List Int) (mx : Int) (s4 s5 s6 s7 : Sl), ρ = [.sh (.list (ns.map .int)), .sh (.int (m : Int)), .ow (.lst (zs.map .int)), .sh (.int mx), s4, s5, s6, s7] ∧ zs.length = ys.length + k)
    (rangeD 0 m) 0 _ ⟨ys, mx, s4, s5, s6, s7, rfl, rfl⟩ fun j d ρ hd hI => by
      obtain ⟨hj, rfl⟩ := rangeD_get hd
      obtain ⟨zs, mx, s4, s5, s6, s7, rfl, hz⟩ := hI
      have hz2 : zs.length < sizeLine := by have := szl_big; omega
      refine ⟨_, _, rfl, .inl ?_, zs ++ [(mx * 16807 + (0 + (j : Int)) + 1) % 65537 % 997], (mx * 16807 + (0 + (j : Int)) + 1) % 65537, .sh (.int (0 + (j : Int))), s5, s6, s7, rfl, by simp; omega⟩
      simp [lastG, sSeq, sSet, eCall, aCons, aNil, binS, pkM, eVar, dats, dat, intG, Rz.rv, eC, mulC, modD, addD, sExpr, mutM, isOb, obT, isDtn, frM, shs, appG, hz2]
  rw [rangeD_len] at hz
  have r1 : rng1 [.int (ns.length : Int)] = some (rangeD 0 ns.length) := range1_eval (by omega)
  have r2 : rng1 [.int (m : Int)] = some (rangeD 0 m) := range1_eval (by omega)
  have c1 : cutD (zs.map PyData.int) none (some (m : Int)) = (zs.take m).map .int := by
    unfold cutD
    rw [show HT.sIx (zs.map PyData.int).length (zs.map PyData.int).length (some (m : Int)) = min m (zs.map PyData.int).length from HT.sIx_nat _ _ m]
    rw [show HT.sIx (zs.map PyData.int).length 0 none = 0 from rfl, List.drop_zero, Nat.sub_zero, List.length_map, Nat.min_eq_left (by omega), List.map_take]
  have hl : (zs.take m).length = m := by rw [List.length_take]; omega
  generalize zs.take m = us at c1 hl
  have a1 : sSet 2 (eLst aNil) [.sh (.list (ns.map .int)), .sh (.int (m : Int)), .no, .no, .no, .no, .no, .no] = some (.nx [.sh (.list (ns.map .int)), .sh (.int (m : Int)), .ow (.lst []), .no, .no, .no, .no, .no]) := by simp [sSet, eLst, aNil, shs]
  have a2 : sSet 3 (eC (.int 7)) [.sh (.list (ns.map .int)), .sh (.int (m : Int)), .ow (.lst []), .no, .no, .no, .no, .no] = some (.nx [.sh (.list (ns.map .int)), .sh (.int (m : Int)), .ow (.lst []), .sh (.int 7), .no, .no, .no, .no]) := by simp [sSet, eC]
  have a3 : sFor (iRng rng1 (aCons (eCall lenG (aCons (eVar 0) aNil)) aNil)) (tName 4) outG [.sh (.list (ns.map .int)), .sh (.int (m : Int)), .ow (.lst []), .sh (.int 7), .no, .no, .no, .no] = _ := (sFor_eq (ds := rangeD 0 ns.length) (ρ1 := [.sh (.list (ns.map .int)), .sh (.int (m : Int)), .ow (.lst []), .sh (.int 7), .no, .no, .no, .no]) (iRng_eq (rs := [.sh (.int (ns.length : Int))]) (by simp [aCons, aNil, eCall, eVar, dats, dat, lenG, Rz.rv]) rfl r1)).trans e1
  have a4 : sFor (iRng rng1 (aCons (eVar 1) aNil)) (tName 4) lastG [.sh (.list (ns.map .int)), .sh (.int (m : Int)), .ow (.lst (ys.map .int)), .sh (.int mx), s4, s5, s6, s7] = _ := (sFor_eq (ds := rangeD 0 m) (ρ1 := [.sh (.list (ns.map .int)), .sh (.int (m : Int)), .ow (.lst (ys.map .int)), .sh (.int mx), s4, s5, s6, s7]) (iRng_eq (rs := [.sh (.int (m : Int))]) (by simp [aCons, aNil, eVar]) rfl r2)).trans e2
  have a5 : sRet [] (eCut (eVar 2) oNo (oInt (eVar 1))) [.sh (.list (ns.map .int)), .sh (.int (m : Int)), .ow (.lst (zs.map .int)), .sh (.int mx2), t4, t5, t6, t7] = some (.rt (.ow (.lst (us.map .int))) [.sh (.list (ns.map .int)), .sh (.int (m : Int)), .ow (.lst (zs.map .int)), .sh (.int mx2), t4, t5, t6, t7]) := by
    simp [sRet, eCut, pkM, eVar, oNo, oInt, dat, obD, cutG, c1, Rz.rv]
  refine ⟨us, hl, ?_⟩
  have a6 : drawsG [.sh (.list (ns.map .int)), .sh (.int (m : Int)), .no, .no, .no, .no, .no, .no] = some (.rt (.ow (.lst (us.map .int))) [.sh (.list (ns.map .int)), .sh (.int (m : Int)), .ow (.lst (zs.map .int)), .sh (.int mx2), t4, t5, t6, t7]) := by
    rw [drawsG_eq, sSeq_nx a1, sSeq_nx a2, sSeq_nx a3, sSeq_nx a4, a5]
  exact runF_eq rfl a6 rfl
end DL

set_option Elab.async false
set_option linter.all false
set_option autoImplicit false
set_option maxRecDepth 100000
namespace DL
open PySem PySem.Spec PyProof.Rows L2
/-! ### one step each -/
theorem sIf_t {t : MB} {g h : MS} {ρ ρ1 : Rho} (e : t ρ = some (true, ρ1)) : sIf t g h ρ = g ρ1 := by
  unfold sIf
  rw [e]
  rfl
theorem sIf_f {t : MB} {g h : MS} {ρ ρ1 : Rho} (e : t ρ = some (false, ρ1)) : sIf t g h ρ = h ρ1 := by
  unfold sIf
  rw [e]
  rfl
theorem pk_sh {f : M} {ρ ρ1 : Rho} {d : Dv} (e : f ρ = some (.sh d, ρ1)) : pkM f ρ = some (.sh d, ρ1) := by
  unfold pkM
  rw [e]
  rfl
theorem pk_ow {f : M} {ρ ρ1 : Rho} {ds : List Dv} (e : f ρ = some (.ow (.lst ds), ρ1)) : pkM f ρ = some (.sh (.list ds), ρ1) := by
  unfold pkM
  rw [e]
  rfl
theorem fr_sh {f : M} {ρ ρ1 : Rho} {d : Dv} (e : f ρ = some (.sh d, ρ1)) : frM f ρ = some (.sh d, ρ1) := by
  unfold frM
  rw [e]
  rfl
theorem fr_ow {f : M} {ρ ρ1 : Rho} {ds : List Dv} (e : f ρ = some (.ow (.lst ds), ρ1)) : frM f ρ = some (.sh (.list ds), ρ1) := by
  unfold frM
  rw [e]
  rfl
theorem bin_sh {g : Dv → Dv → Option Rz} {fa fb : M} {ρ ρ1 ρ2 : Rho} {d e : Dv} {z : Rz} (h1 : pkM fa ρ = some (.sh d, ρ1)) (h2 : pkM fb ρ1 = some (.sh e, ρ2)) (h3 : g d e = some z) : binS g fa fb ρ = some (z.rv, ρ2) := by
  unfold binS
  rw [h1]
  simp only [Option.bind_some]
  rw [h2]
  simp only [Option.bind_some, dat]
  rw [h3]
  rfl
theorem sSet_sh {i : Nat} {f : M} {ρ ρ1 : Rho} {d : Dv} (e : f ρ = some (.sh d, ρ1)) : sSet i f ρ = some (.nx (ρ1.set i (.sh d))) := by
  unfold sSet
  rw [e]
  rfl
theorem sSet_ow {i : Nat} {f : M} {ρ ρ1 : Rho} {o : Ob} (e : f ρ = some (.ow o, ρ1)) : sSet i f ρ = some (.nx (ρ1.set i (.ow o))) := by
  unfold sSet
  rw [e]
  rfl
theorem sRet_sh {ix : List Nat} {f : M} {ρ ρ1 : Rho} {d : Dv} (e : f ρ = some (.sh d, ρ1)) : sRet ix f ρ = some (.rt (.sh d) ρ1) := by
  unfold sRet
  rw [e]
  rfl
theorem sRet_ow {ix : List Nat} {f : M} {ρ ρ1 : Rho} {o : Ob} (e : f ρ = some (.ow o, ρ1)) : sRet ix f ρ = some (.rt (.ow o) ρ1) := by
  unfold sRet
  rw [e]
  rfl
theorem aCons_eq {f : M} {g : MA} {ρ ρ1 ρ2 : Rho} {r : Rv} {rs : List Rv} (e : f ρ = some (r, ρ1)) (h : g ρ1 = some (rs, ρ2)) : aCons f g ρ = some (r :: rs, ρ2) := by
  unfold aCons
  rw [e]
  simp only [Option.bind_some]
  rw [h]
  rfl
theorem eCall_sh {g : List Dv → Option Rz} {fa : MA} {ρ ρ1 : Rho} {rs : List Rv} {ds : List Dv} {z : Rz} (h1 : fa ρ = some (rs, ρ1)) (h2 : dats ρ1 rs = some ds) (h3 : g ds = some z) : eCall g fa ρ = some (z.rv, ρ1) := by
  unfold eCall
  rw [h1]
  simp only [Option.bind_some]
  rw [h2]
  simp only [Option.bind_some]
  rw [h3]
  rfl
theorem toSls_sh (ρ : Rho) : ∀ ds : List Dv, toSls ρ (ds.map .sh) = some (ds.map .sh)
  | [] => rfl
  | d :: ds => by
    show (toSl ρ (.sh d)).bind _ = _
    simp only [toSl, Option.bind_some, toSls_sh ρ ds]
    rfl
theorem als_sh : ∀ ds : List Dv, als (ds.map .sh) = []
  | [] => rfl
  | d :: ds => by simpa [als] using als_sh ds
theorem wback_sh (ρ : Rho) : ∀ (ds : List Dv) (ss : List Sl), wback ρ (ds.map .sh) ss = ρ
  | [], _ => by simp [wback]
  | d :: ds, [] => by simp [wback]
  | d :: ds, s :: ss => by simpa [wback] using wback_sh ρ ds ss
theorem eFn_sh {F : FnS} {ga : MA} {ρ ρ1 : Rho} {as : List Dv} {d : Dv} {bs : List Sl} (h1 : ga ρ = some (as.map .sh, ρ1)) (h2 : F (as.map .sh) = some (.sh d, bs)) : eFn F ga ρ = some (.sh d, ρ1) := by
  unfold eFn
  rw [h1]
  simp only [Option.bind_some, toSls_sh]
  rw [if_pos (by unfold alsOk; rw [als_sh]; rfl), h2]
  simp only [Option.bind_some, wback_sh]
theorem eFn_ow {F : FnS} {ga : MA} {ρ ρ1 : Rho} {as : List Dv} {o : Ob} {bs : List Sl} (h1 : ga ρ = some (as.map .sh, ρ1)) (h2 : F (as.map .sh) = some (.ow o, bs)) : eFn F ga ρ = some (.ow o, ρ1) := by
  unfold eFn
  rw [h1]
  simp only [Option.bind_some, toSls_sh]
  rw [if_pos (by unfold alsOk; rw [als_sh]; rfl), h2]
  simp only [Option.bind_some, wback_sh]
/-! ### list comprehensions with one name -/
theorem lcS1 {i : Nat} {c : MB} {fe : M} {ρ0 : Rho} (b : Dv → Bool) (e : Dv → Dv) : ∀ (ds acc : List Dv) (s : Sl), (∀ d ∈ ds, c (ρ0.set i (.sh d)) = some (b d, ρ0.set i (.sh d))) → (∀ d ∈ ds, b d = true → frM fe (ρ0.set i (.sh d)) = some (.sh (e d), ρ0.set i (.sh d))) →
    acc.length + ds.length ≤ sizeLine → ∃ s', lcS [i] (tName i) c fe ds acc (ρ0.set i s) = some (acc ++ (ds.filter b).map e, ρ0.set i s')
  | [], acc, s, _, _, _ => ⟨s, by simp [lcS]⟩
  | d :: ds, acc, s, hc, he, hl => by
    have h1 := hc d (List.mem_cons_self ..)
    have h2 := he d (List.mem_cons_self ..)
    rw [List.length_cons] at hl
    unfold lcS
    simp only [tName, wipeR, List.set_set, Option.bind_some, h1]
    cases hb : b d with
    | true =>
      rw [if_pos rfl, h2 hb]
      simp only [Option.bind_some]
      rw [if_pos (by omega)]
      obtain ⟨s', e'⟩ := lcS1 b e ds (acc ++ [e d]) (.sh d) (fun x hx => hc x (List.mem_cons_of_mem _ hx)) (fun x hx => he x (List.mem_cons_of_mem _ hx)) (by simp; omega)
      exact ⟨s', by rw [e', List.filter_cons_of_pos hb]; simp⟩
    | false =>
      rw [if_neg (by decide)]
      obtain ⟨s', e'⟩ := lcS1 b e ds acc (.sh d) (fun x hx => hc x (List.mem_cons_of_mem _ hx)) (fun x hx => he x (List.mem_cons_of_mem _ hx)) (by omega)
      exact ⟨s', by rw [e', List.filter_cons_of_neg (by simp [hb])]⟩
theorem set_back {α : Type} (l : List α) (i : Nat) (s s0 : α) (h : l[i]? = some s0) : (l.set i s).set i s0 = l := by
  rw [List.set_set]
  apply List.ext_getElem?
  intro j
  by_cases hj : i = j
  · subst hj
    rw [List.getElem?_set_self (List.getElem?_eq_some_iff.mp h).1, h]
  · rw [List.getElem?_set_ne hj]
theorem eLc1 {i : Nat} {fi : ML} {c : MB} {fe : M} {ρ : Rho} {s0 : Sl} {ds : List Dv} (b : Dv → Bool) (e : Dv → Dv) (hfi : fi ρ = some (ds, ρ)) (h0 : ρ[i]? = some s0) (hs : ∀ o, s0 ≠ .ow o) (hl : ds.length ≤ sizeLine)
    (hc : ∀ d ∈ ds, c (ρ.set i (.sh d)) = some (b d, ρ.set i (.sh d))) (he : ∀ d ∈ ds, b d = true → frM fe (ρ.set i (.sh d)) = some (.sh (e d), ρ.set i (.sh d))) :
    eLc [i] fi (tName i) c fe ρ = some (.ow (.lst ((ds.filter b).map e)), ρ) := by
  obtain ⟨s', h1⟩ := lcS1 b e ds [] s0 hc he (by simpa using hl)
  rw [show ρ.set i s0 = ρ from by
    have := set_back ρ i s0 s0 h0
    rwa [List.set_set] at this] at h1
  have hn : noOw ρ [i] = true := by
    unfold noOw
    cases s0 with
    | no => simp [h0]
    | sh d => simp [h0]
    | ow o => exact absurd rfl (hs o)
    | fd o => simp [h0]
  unfold eLc
  rw [hfi]
  simp only [Option.bind_some]
  rw [if_pos hn, h1]
  simp only [Option.bind_some, putB, h0, List.nil_append]
  rw [set_back ρ i s' s0 h0]
/-! ### closed answers -/
mutual
def eqDv : Dv → Dv → Bool
  | .none, .none => true
  | .bool a, .bool b => a == b
  | .int a, .int b => decide (a = b)
  | .tuple xs, .tuple ys => eqDvs xs ys
  | .list xs, .list ys => eqDvs xs ys
  | _, _ => false
def eqDvs : List Dv → List Dv → Bool
  | [], [] => true
  | x :: xs, y :: ys => eqDv x y && eqDvs xs ys
  | _, _ => false
end
mutual
theorem eqDv_ok : ∀ (d e : Dv), eqDv d e = true → d = e
  | .none, e, h => by cases e <;> simp_all [eqDv]
  | .bool a, e, h => by cases e <;> simp_all [eqDv]
  | .int a, e, h => by cases e <;> simp_all [eqDv]
  | .str a, e, h => by cases e <;> simp_all [eqDv]
  | .dict a, e, h => by cases e <;> simp_all [eqDv]
  | .tuple xs, e, h => by
    cases e with
    | tuple ys => simp only [eqDv] at h; rw [eqDvs_ok xs ys h]
    | _ => simp [eqDv] at h
  | .list xs, e, h => by
    cases e with
    | list ys => simp only [eqDv] at h; rw [eqDvs_ok xs ys h]
    | _ => simp [eqDv] at h
theorem eqDvs_ok : ∀ (xs ys : List Dv), eqDvs xs ys = true → xs = ys
  | [], [], _ => rfl
  | x :: xs, y :: ys, h => by
    simp only [eqDvs, Bool.and_eq_true] at h
    rw [eqDv_ok x y h.1, eqDvs_ok xs ys h.2]
  | [], y :: ys, h => by simp [eqDvs] at h
  | x :: xs, [], h => by simp [eqDvs] at h
end
def eqSls : List Sl → List Dv → Bool
  | [], [] => true
  | .sh x :: xs, y :: ys => eqDv x y && eqSls xs ys
  | _, _ => false
theorem eqSls_ok : ∀ (xs : List Sl) (ys : List Dv), eqSls xs ys = true → xs = ys.map .sh
  | [], [], _ => rfl
  | .sh x :: xs, y :: ys, h => by
    simp only [eqSls, Bool.and_eq_true] at h
    rw [eqDv_ok x y h.1, eqSls_ok xs ys h.2]
    rfl
  | [], y :: ys, h => by simp [eqSls] at h
  | .sh x :: xs, [], h => by simp [eqSls] at h
  | .no :: xs, _, h => by simp [eqSls] at h
  | .ow _ :: xs, _, h => by simp [eqSls] at h
/-- F at shared data gives the data d -/
def gives (F : FnS) (as : List Dv) (d : Dv) : Bool := match F (as.map .sh) with
  | some (.sh e, bs) => eqDv e d && eqSls bs as
  | _ => false
theorem gives_ok {F : FnS} {as : List Dv} {d : Dv} (h : gives F as d = true) : F (as.map .sh) = some (.sh d, as.map .sh) := by
  unfold gives at h
  split at h
  · rename_i e bs he
    simp only [Bool.and_eq_true] at h
    rw [he, eqDv_ok _ _ h.1, eqSls_ok _ _ h.2]
  · cases h
/-! ### comprehensions that draw -/
theorem lcW {i : Nat} {fe : M} (R : Nat → Sl → Rho) (Pv : Dv → Prop) (hR : ∀ n s s', (R n s).set i s' = R n s') (he : ∀ n d, ∃ v, Pv v ∧ frM fe (R n (.sh d)) = some (.sh v, R (n + 1) (.sh d))) : ∀ (ds acc : List Dv) (n : Nat) (s : Sl), acc.length + ds.length ≤ sizeLine →
    ∃ vs n' s', vs.length = ds.length ∧ (∀ v ∈ vs, Pv v) ∧ lcS [i] (tName i) cYes fe ds acc (R n s) = some (acc ++ vs, R n' s')
  | [], acc, n, s, _ => ⟨[], n, s, rfl, by simp, by simp [lcS]⟩
  | d :: ds, acc, n, s, hl => by
    obtain ⟨v, hv, e1⟩ := he n d
    rw [List.length_cons] at hl
    obtain ⟨vs, n', s', h1, h2, h3⟩ := lcW R Pv hR he ds (acc ++ [v]) (n + 1) (.sh d) (by simp; omega)
    refine ⟨v :: vs, n', s', by simp [h1], fun x hx => ?_, ?_⟩
    · rcases List.mem_cons.mp hx with rfl | hx
      · exact hv
      · exact h2 x hx
    · unfold lcS
      simp only [tName, wipeR, hR, Option.bind_some, cYes, if_true, e1]
      rw [if_pos (by omega), h3]
      simp
theorem eLcW {i : Nat} {fi : ML} {fe : M} (R : Nat → Sl → Rho) (Pv : Dv → Prop) (hR : ∀ n s s', (R n s).set i s' = R n s') (he : ∀ n d, ∃ v, Pv v ∧ frM fe (R n (.sh d)) = some (.sh v, R (n + 1) (.sh d))) {ρ : Rho} {s0 : Sl} {ds : List Dv} (n : Nat) (hfi : fi ρ = some (ds, R n s0)) (h0 : (R n s0)[i]? = some s0) (hs : ∀ o, s0 ≠ .ow o) (hl : ds.length ≤ sizeLine) :
    ∃ vs n', vs.length = ds.length ∧ (∀ v ∈ vs, Pv v) ∧ eLc [i] fi (tName i) cYes fe ρ = some (.ow (.lst vs), R n' s0) := by
  obtain ⟨vs, n', s', h1, h2, h3⟩ := lcW R Pv hR he ds [] n s0 (by simpa using hl)
  refine ⟨vs, n', h1, h2, ?_⟩
  have hn : noOw (R n s0) [i] = true := by
    unfold noOw
    cases s0 with
    | no => simp [h0]
    | sh d => simp [h0]
    | ow o => exact absurd rfl (hs o)
    | fd o => simp [h0]
  unfold eLc
  rw [hfi]
  simp only [Option.bind_some]
  rw [if_pos hn, h3]
  simp only [Option.bind_some, putB, h0, List.nil_append, hR]
/-! ### told as due -/
def alikeG (self : FnS) : MS :=
    (sSeq (sIf (tV (unS (isiD "tuple") (eVar 1))) (sSeq (sIf (tOr' (tNo (tV (unS (isiD "tuple") (eVar 0)))) (tB (binS neqD (eCall lenG (aCons (eVar 0) aNil)) (eCall lenG (aCons (eVar 1) aNil))))) (sRet [] (eC (.bool false))) sNil)
    (sRet [] (binS eqqD (eLc [2] (iRng rng1 (aCons (eCall lenG (aCons (eVar 1) aNil)) aNil)) (tName 2) (tNo (tV (eFn self (aCons (frM (binS ixA (eVar 0) (eVar 2))) (aCons (frM (binS ixA (eVar 1) (eVar 2))) aNil))))) (eVar 2)) (eLst aNil)))) sNil)
    (sSeq (sIf (tB (binS isND (eVar 1) (eC .none))) (sRet [] (binS isND (eVar 0) (eC .none))) sNil)
    (sSeq (sIf (tV (unS (isiD "bool") (eVar 1))) (sRet [] (eAnd (unS (isiD "bool") (eVar 0)) (binS eqqD (eVar 0) (eVar 1)))) sNil)
    (sSeq (sIf (tV (unS (isiD "int") (eVar 1))) (sRet [] (eAnd (unS (isiD "int") (eVar 0)) (eAnd (eNot (unS (isiD "bool") (eVar 0))) (binS eqqD (eVar 0) (eVar 1))))) sNil)
    (sRet [] (eAnd (unS (isiD "str") (eVar 0)) (binS eqqD (eVar 0) (eVar 1))))))))
def alikeF : Nat → FnS
  | 0 => runF 2 3 [] (fun _ => none)
  | n + 1 => runF 2 3 [] (alikeG (alikeF n))
mutual
/-- ints, truths, nothing and tuples of these, so deep -/
def plainN : Nat → Dv → Bool
  | _, .none => true
  | _, .bool _ => true
  | _, .int _ => true
  | 0, .tuple _ => false
  | n + 1, .tuple xs => decide (xs.length < 1000000) && plainNs n xs
  | _, _ => false
def plainNs : Nat → List Dv → Bool
  | _, [] => true
  | n, x :: xs => plainN n x && plainNs n xs
end
theorem plainNs_all : ∀ {n : Nat} {xs : List Dv}, plainNs n xs = true → ∀ d ∈ xs, plainN n d = true
  | n, x :: xs, h, d, hd => by
    simp only [plainNs, Bool.and_eq_true] at h
    rcases List.mem_cons.mp hd with rfl | hd
    · exact h.1
    · exact plainNs_all h.2 d hd
theorem nilEq : eqqD (.list []) (.list []) = some (.sh (.bool true)) := rfl
theorem szl_6 : 1000000 ≤ sizeLine := by decide +kernel
theorem alike_ok : ∀ (n : Nat) (d : Dv), plainN n d = true → alikeF (n + 1) [.sh d, .sh d] = some (.sh (.bool true), [.sh d, .sh d]) := by
  intro n
  induction n with
  | zero =>
    intro d h
    cases d with
    | tuple xs => simp [plainN] at h
    | str z => simp [plainN] at h
    | list z => simp [plainN] at h
    | dict z => simp [plainN] at h
    | none => exact runF_eq (fl := .rt (.sh (.bool true)) [.sh .none, .sh .none, .no]) rfl (by simp [alikeG, sSeq, sIf, tV, unS, pkM, eVar, isiD, tagD, isT, Rz.rv, dat, truD, sNil, tB, binS, eC, isND, isNone, sRet]) rfl
    | bool b => exact runF_eq (fl := .rt (.sh (.bool true)) [.sh (.bool b), .sh (.bool b), .no]) rfl (by cases b <;> rfl) rfl
    | int b => exact runF_eq (fl := .rt (.sh (.bool true)) [.sh (.int b), .sh (.int b), .no]) rfl (by simp [alikeG, sSeq, sIf, tV, unS, pkM, eVar, isiD, tagD, isT, Rz.rv, dat, truD, sNil, tB, binS, eC, isND, isNone, sRet, eAnd, eNot, eqqD, eqD]) rfl
  | succ n ih =>
    intro d h
    cases d with
    | str z => simp [plainN] at h
    | list z => simp [plainN] at h
    | dict z => simp [plainN] at h
    | none => exact runF_eq (fl := .rt (.sh (.bool true)) [.sh .none, .sh .none, .no]) rfl (by simp [alikeG, sSeq, sIf, tV, unS, pkM, eVar, isiD, tagD, isT, Rz.rv, dat, truD, sNil, tB, binS, eC, isND, isNone, sRet]) rfl
    | bool b => exact runF_eq (fl := .rt (.sh (.bool true)) [.sh (.bool b), .sh (.bool b), .no]) rfl (by cases b <;> rfl) rfl
    | int b => exact runF_eq (fl := .rt (.sh (.bool true)) [.sh (.int b), .sh (.int b), .no]) rfl (by simp [alikeG, sSeq, sIf, tV, unS, pkM, eVar, isiD, tagD, isT, Rz.rv, dat, truD, sNil, tB, binS, eC, isND, isNone, sRet, eAnd, eNot, eqqD, eqD]) rfl
    | tuple xs =>
      simp only [plainN, Bool.and_eq_true, decide_eq_true_eq] at h
      have hz := szl_6
      have r1 : rng1 [.int (xs.length : Int)] = some (rangeD 0 xs.length) := range1_eval (by omega)
      have a1 : eLc [2] (iRng rng1 (aCons (eCall lenG (aCons (eVar 1) aNil)) aNil)) (tName 2) (tNo (tV (eFn (alikeF (n + 1)) (aCons (frM (binS ixA (eVar 0) (eVar 2))) (aCons (frM (binS ixA (eVar 1) (eVar 2))) aNil))))) (eVar 2) [.sh (.tuple xs), .sh (.tuple xs), .no] = some (.ow (.lst []), [.sh (.tuple xs), .sh (.tuple xs), .no]) := by
        have := eLc1 (i := 2) (fi := iRng rng1 (aCons (eCall lenG (aCons (eVar 1) aNil)) aNil)) (c := tNo (tV (eFn (alikeF (n + 1)) (aCons (frM (binS ixA (eVar 0) (eVar 2))) (aCons (frM (binS ixA (eVar 1) (eVar 2))) aNil))))) (fe := eVar 2) (ρ := [.sh (.tuple xs), .sh (.tuple xs), .no]) (s0 := .no) (ds := rangeD 0 xs.length) (fun _ => false) id
          (iRng_eq (rs := [.sh (.int (xs.length : Int))]) (by simp [aCons, aNil, eCall, eVar, dats, dat, lenG, Rz.rv]) rfl r1) rfl (by intro o; simp) (by rw [rangeD_len]; omega) (fun d hd => by
            obtain ⟨j, hj⟩ := List.mem_iff_getElem?.mp hd
            obtain ⟨hj2, rfl⟩ := rangeD_get hj
            have e2 : atI xs (j : Int) = some xs[j] := atI_nat (List.getElem?_eq_getElem hj2)
            have e3 := ih xs[j] (plainNs_all h.2 _ (List.getElem_mem _))
            simp [tNo, tV, eFn, aCons, aNil, frM, binS, pkM, eVar, dat, ixA, ixD, e2, Rz.rv, toSls, toSl, alsOk, als, e3, wback, truD]) (fun d hd hb => nomatch hb)
        rw [show ∀ l : List Dv, l.filter (fun _ => false) = [] from fun l => by simp] at this
        exact this
      have a2 : alikeG (alikeF (n + 1)) [.sh (.tuple xs), .sh (.tuple xs), .no] = some (.rt (.sh (.bool true)) [.sh (.tuple xs), .sh (.tuple xs), .no]) := by
        have b1 : sIf (tOr' (tNo (tV (unS (isiD "tuple") (eVar 0)))) (tB (binS neqD (eCall lenG (aCons (eVar 0) aNil)) (eCall lenG (aCons (eVar 1) aNil))))) (sRet [] (eC (.bool false))) sNil [.sh (.tuple xs), .sh (.tuple xs), .no] = some (.nx [.sh (.tuple xs), .sh (.tuple xs), .no]) := by
          simp [sIf, tOr', tNo, tV, unS, pkM, eVar, isiD, tagD, isT, Rz.rv, dat, truD, tB, binS, neqD, eqD, eCall, aCons, aNil, dats, lenG, sNil]
        have b2 : sRet [] (binS eqqD (eLc [2] (iRng rng1 (aCons (eCall lenG (aCons (eVar 1) aNil)) aNil)) (tName 2) (tNo (tV (eFn (alikeF (n + 1)) (aCons (frM (binS ixA (eVar 0) (eVar 2))) (aCons (frM (binS ixA (eVar 1) (eVar 2))) aNil))))) (eVar 2)) (eLst aNil)) [.sh (.tuple xs), .sh (.tuple xs), .no] = some (.rt (.sh (.bool true)) [.sh (.tuple xs), .sh (.tuple xs), .no]) := by
          exact sRet_sh (bin_sh (pk_ow a1) (pk_ow (by simp [eLst, aNil, shs])) nilEq)
        unfold alikeG
        rw [sSeq_rt]
        rw [sIf_t (ρ1 := [.sh (.tuple xs), .sh (.tuple xs), .no]) (by simp [tV, unS, pkM, eVar, isiD, tagD, isT, Rz.rv, dat, truD])]
        rw [sSeq_nx b1, b2]
      exact runF_eq rfl a2 rfl
theorem alike_rw (n : Nat) (d : Dv) (h : plainN n d = true) : alikeF (n + 1) [.sh d, .sh d] = some (.sh (.bool true), [.sh d, .sh d]) := alike_ok n d h
end DL

set_option Elab.async false
set_option linter.all false
set_option autoImplicit false
set_option maxRecDepth 100000
set_option maxHeartbeats 1000000
namespace DL
open PySem PySem.Spec PyProof.Rows L2
/-! ### comprehensions of two clauses -/
def lcS2 (own vs1 : List Nat) (t : MT) (c : MB) (fi1 : ML) (t1 : MT) (c1 : MB) (fe : M) : List Dv → List Dv → Rho → Option (List Dv × Rho)
  | [], acc, ρ => some (acc, ρ)
  | d :: ds, acc, ρ => (t d (wipeR ρ own)).bind fun ρ1 => (c ρ1).bind fun x => if x.1 = true then (fi1 x.2).bind fun z => (lcS vs1 t1 c1 fe z.1 acc z.2).bind fun y => lcS2 own vs1 t c fi1 t1 c1 fe ds y.1 y.2
      else lcS2 own vs1 t c fi1 t1 c1 fe ds acc x.2
def eLc2 (own vs1 : List Nat) (fi : ML) (t : MT) (c : MB) (fi1 : ML) (t1 : MT) (c1 : MB) (fe : M) : M := fun ρ => (fi ρ).bind fun x => if noOw x.2 own = true then (lcS2 own vs1 t c fi1 t1 c1 fe x.1 [] x.2).bind fun y => some (.ow (.lst y.1), putB y.2 x.2 own) else none
section
variable {X : Cx} {ix : List Nat} {own tis tis1 vs1 : List Nat} {fi fi1 : ML} {t t1 : MT} {c c1 : MB} {fe : M}
theorem wipeR_sub (ρ : Rho) {vs own : List Nat} (h : ∀ i ∈ vs, i ∈ own) : wipeR (wipeR ρ vs) own = wipeR ρ own := by
  refine List.ext_getElem? fun j => ?_
  by_cases hj : j ∈ own
  · by_cases hlt : j < ρ.length
    · have h1 : j < (wipeR (wipeR ρ vs) own).length := by rw [wipeR_length, wipeR_length]; exact hlt
      have h2 : j < (wipeR ρ own).length := by rw [wipeR_length]; exact hlt
      have e1 := List.getElem?_eq_getElem h1
      have e2 := List.getElem?_eq_getElem h2
      rw [e1, e2, wipeR_in hj e1, wipeR_in hj e2]
    · rw [List.getElem?_eq_none (by rw [wipeR_length, wipeR_length]; omega), List.getElem?_eq_none (by rw [wipeR_length]; omega)]
  · rw [wipeR_out hj, wipeR_out hj, wipeR_out fun z => hj (h j z)]
theorem wipe_sub (σ : L2.St) {vs own : List Nat} (h : ∀ i ∈ vs, i ∈ own) : wipe (wipe σ vs) own = wipe σ own := by
  refine wipe_eq (is := own) (wipe_length _ _) fun j hj => wipe_out fun z => hj (h j z)
theorem nD_of {K : PySem.W.Frag} {Fr G H : Hp} {FX : Nat → Option V} {ρ : Rho} {σ : L2.St} {D : Addr} {u : HO} (R : RS K ix (upd Fr D u) FX G ρ σ H) : ∀ (i : Nat) (o' : Ob), ρ[i]? = some (.ow o') → σ[i]? ≠ some (some (.ref D)) := fun i o' z1 z2 => by
  obtain ⟨a, ea, _, fa, _⟩ := R.sl i _ z1
  rw [z2] at ea
  cases ea
  rw [upd_same] at fa
  cases fa
theorem lc2_ok {σ : L2.St} {H : Hp} {Q : VK} (ho : ∀ i ∈ own, i ∉ ix) (ht : ∀ i ∈ tis, i ∈ own) (hv : ∀ i ∈ vs1, i ∈ own) (ht1 : ∀ i ∈ tis1, i ∈ vs1) (h : TE' X.K ix (eLc2 own vs1 fi t c fi1 t1 c1 fe) σ H Q) :
    tLc2 (TI' X.K ix fi) (TG' X.K ix tis t) (TT' X.K ix c) (TI' X.K ix fi1) (TG' X.K ix tis1 t1) (TT' X.K ix c1) (TE' X.K ix (frM fe)) own vs1 σ H Q := by
  obtain ⟨Fr, FX, G, ρ, r, ρ', R, hf, k⟩ := h
  have ho1 : ∀ i ∈ vs1, i ∉ ix := fun i hi => ho i (hv i hi)
  unfold eLc2 at hf
  obtain ⟨⟨ds, ρ0⟩, h0, hf⟩ := Option.bind_eq_some_iff.mp hf
  simp only at hf
  split at hf
  rotate_left
  · cases hf
  rename_i hno
  obtain ⟨⟨accF, ρF⟩, h1, hf⟩ := Option.bind_eq_some_iff.mp hf
  cases hf
  refine ⟨Fr, FX, G, ρ, ds, ρ0, R, h0, fun J G0 H0 s0 R0 jk D hD => ?_⟩
  have gD := (R0.none_of hD).1
  have fD := (R0.none_of hD).2
  refine ⟨fun i m H => m = ds.length - i ∧ i ≤ ds.length ∧ ∃ G1 ρ1 acc accv, Sub G0 G1 ∧ H D = some (.lst accv) ∧ DpAll X.K G1 accv acc ∧ RS X.K ix (upd Fr D (.lst accv)) FX G1 (wipeR ρ1 own) (wipe σ own) H ∧ lcS2 own vs1 t c fi1 t1 c1 fe (ds.drop i) acc ρ1 = some (accF, ρF),
    ⟨ds.length, by simp, Nat.zero_le _, G0, ρ0, [], [], Sub.refl _, upd_same, .nil, ?_, h1⟩, ?_⟩
  · exact ((R0.wiped ho).newH hD).frame gD upd_same ((R0.wiped ho).notIn hD)
  rintro i m H1 ⟨rfl, hle, G1, ρ1, acc, accv, s1, hv', qa, R1, e1⟩
  have gD1 : G1 D = none := R1.gf D (by rw [upd_same]; simp)
  obtain ⟨j1, j2⟩ := jk i G1 H1 s1 R1.gh
  by_cases hlt : i < ds.length
  · have hd : ds[i]? = some ds[i] := List.getElem?_eq_getElem hlt
    obtain ⟨j3, j4⟩ := j1 _ hd
    rw [List.drop_eq_getElem_cons hlt] at e1
    unfold lcS2 at e1
    obtain ⟨ρ2, e2, e1⟩ := Option.bind_eq_some_iff.mp e1
    obtain ⟨⟨kb, ρ3⟩, e3, e1⟩ := Option.bind_eq_some_iff.mp e1
    refine .inr ⟨j3, fun H => ∃ G1 ρ1 acc accv, Sub G0 G1 ∧ H D = some (.lst accv) ∧ DpAll X.K G1 accv acc ∧ RS X.K ix (upd Fr D (.lst accv)) FX G1 (wipeR ρ1 own) (wipe σ own) H ∧ lcS2 own vs1 t c fi1 t1 c1 fe (ds.drop (i + 1)) acc ρ1 = some (accF, ρF), fun H' w => ⟨ds.length - (i + 1), by omega, rfl, hlt, w⟩, fun x H2 y => ?_⟩
    have key : ∃ G2, Sub G1 G2 ∧ RS X.K ix (upd Fr D (.lst accv)) FX G2 (wipeR ρ1 own) (wipe σ own) H2 ∧ Dp X.K G2 x ds[i] := by
      rcases j4 x H2 y with ⟨rfl, q⟩ | ⟨p, o, hp, rfl, q⟩
      · exact ⟨G1, Sub.refl _, R1, q⟩
      · exact ⟨_, sub_upd (R1.none_of hp).1, R1.newG hp, q⟩
    obtain ⟨G2, s2, R2, q⟩ := key
    refine ⟨_, FX, G2, _, _, ρ2, R2, q, e2, fun G3 σ3 H3 s3 n3 R3 => ?_⟩
    have hw : wipe σ3 own = wipe σ own := by
      have := wipe_eq (is := own) n3.1 fun j hj => n3.2 j fun z => hj (ht j z)
      rw [this, wipe_wipe]
    refine ⟨hw, _, FX, G3, ρ2, kb, ρ3, R3, e3, fun G4 H4 s4 R4 => ?_⟩
    cases kb with
    | false =>
      rw [if_neg Bool.false_ne_true]
      simp only [Bool.false_eq_true, if_false] at e1
      have W4 := R4.wiped (own := own) ho
      rw [hw] at W4
      exact ⟨G4, ρ3, acc, accv, ((s1.trans s2).trans s3).trans s4, R4.fh D _ upd_same, dpAll_mono ((s2.trans s3).trans s4) _ _ qa, W4, e1⟩
    | true =>
      rw [if_pos rfl]
      simp only [if_true] at e1
      obtain ⟨⟨es, ρ4⟩, e4, e1⟩ := Option.bind_eq_some_iff.mp e1
      obtain ⟨⟨accI, ρI⟩, e5, e1⟩ := Option.bind_eq_some_iff.mp e1
      simp only at e1 e5
      have s04 : Sub G0 G4 := ((s1.trans s2).trans s3).trans s4
      have q04 := dpAll_mono ((s2.trans s3).trans s4) _ _ qa
      refine ⟨_, FX, G4, ρ3, es, ρ4, R4, e4, fun J1 G5 H5 s5 R5 jk1 => ?_⟩
      refine ⟨fun j m H => m = es.length - j ∧ j ≤ es.length ∧ ∃ G6 ρ6 acc6 accv6, Sub G5 G6 ∧ H D = some (.lst accv6) ∧ DpAll X.K G6 accv6 acc6 ∧ RS X.K ix (upd Fr D (.lst accv6)) FX G6 (wipeR ρ6 vs1) (wipe σ3 vs1) H ∧ lcS vs1 t1 c1 fe (es.drop j) acc6 ρ6 = some (accI, ρI),
        ⟨es.length, by simp, Nat.zero_le _, G5, ρ4, acc, accv, Sub.refl _, R5.fh D _ upd_same, dpAll_mono s5 _ _ q04, R5.wiped ho1, e5⟩, ?_⟩
      rintro j m' H6 ⟨rfl, hle6, G6, ρ6, acc6, accv6, s6, hv6, qa6, R6, e6⟩
      have gD6 : G6 D = none := R6.gf D (by rw [upd_same]; simp)
      obtain ⟨i1, i2⟩ := jk1 j G6 H6 s6 R6.gh
      by_cases hlt6 : j < es.length
      · have hd6 : es[j]? = some es[j] := List.getElem?_eq_getElem hlt6
        obtain ⟨i3, i4⟩ := i1 _ hd6
        rw [List.drop_eq_getElem_cons hlt6] at e6
        unfold lcS at e6
        obtain ⟨ρ7, e7, e6⟩ := Option.bind_eq_some_iff.mp e6
        obtain ⟨⟨kb7, ρ8⟩, e8, e6⟩ := Option.bind_eq_some_iff.mp e6
        refine .inr ⟨i3, fun H => ∃ G6 ρ6 acc6 accv6, Sub G5 G6 ∧ H D = some (.lst accv6) ∧ DpAll X.K G6 accv6 acc6 ∧ RS X.K ix (upd Fr D (.lst accv6)) FX G6 (wipeR ρ6 vs1) (wipe σ3 vs1) H ∧ lcS vs1 t1 c1 fe (es.drop (j + 1)) acc6 ρ6 = some (accI, ρI), fun H' w => ⟨es.length - (j + 1), by omega, rfl, hlt6, w⟩, fun x6 H7 y6 => ?_⟩
        have key : ∃ G7, Sub G6 G7 ∧ RS X.K ix (upd Fr D (.lst accv6)) FX G7 (wipeR ρ6 vs1) (wipe σ3 vs1) H7 ∧ Dp X.K G7 x6 es[j] := by
          rcases i4 x6 H7 y6 with ⟨rfl, q⟩ | ⟨p, o, hp, rfl, q⟩
          · exact ⟨G6, Sub.refl _, R6, q⟩
          · exact ⟨_, sub_upd (R6.none_of hp).1, R6.newG hp, q⟩
        obtain ⟨G7, s7, R7, q7⟩ := key
        refine ⟨_, FX, G7, _, _, ρ7, R7, q7, e7, fun G8 σ8 H8 s8 n8 R8 => ?_⟩
        have hw8 : wipe σ8 vs1 = wipe σ3 vs1 := by
          have := wipe_eq (is := vs1) n8.1 fun j hj => n8.2 j fun z => hj (ht1 j z)
          rw [this, wipe_wipe]
        refine ⟨hw8, _, FX, G8, ρ7, kb7, ρ8, R8, e8, fun G9 H9 s9 R9 => ?_⟩
        cases kb7 with
        | false =>
          rw [if_neg Bool.false_ne_true]
          simp only [Bool.false_eq_true, if_false] at e6
          have W9 := R9.wiped (own := vs1) ho1
          rw [hw8] at W9
          exact ⟨G9, ρ8, acc6, accv6, ((s6.trans s7).trans s8).trans s9, R9.fh D _ upd_same, dpAll_mono ((s7.trans s8).trans s9) _ _ qa6, W9, e6⟩
        | true =>
          rw [if_pos rfl]
          simp only [if_true] at e6
          obtain ⟨⟨ra, ρa⟩, ea, e6⟩ := Option.bind_eq_some_iff.mp e6
          refine ⟨_, FX, G9, ρ8, ra, ρa, R9, ea, fun z Ga Ha sa Ra va => ?_⟩
          cases ra with
          | ow o => cases e6
          | fd o => cases e6
          | al o => cases e6
          | sh da =>
            simp only at e6
            split at e6
            · rename_i hz
              have hDa : Ha D = some (.lst accv6) := Ra.fh D _ upd_same
              have gDa : Ga D = none := Ra.gf D (by rw [upd_same]; simp)
              refine ⟨accv6, hDa, by rw [dpAll_length qa6]; exact hz, ?_⟩
              have Wa := Ra.wiped (own := vs1) ho1
              rw [hw8] at Wa
              have nD := nD_of Wa
              have Wb := (Wa.unframe fD).out (u := .lst (accv6 ++ [z])) gDa fD nD
              have sb : Sub G6 Ga := ((s7.trans s8).trans s9).trans sa
              exact ⟨Ga, ρa, acc6 ++ [da], accv6 ++ [z], s6.trans sb, upd_same, dpAll_append (dpAll_mono sb _ _ qa6) (.cons va .nil), Wb.frame gDa upd_same nD, e6⟩
            · cases e6
      · have hj : j = es.length := by omega
        subst hj
        rw [List.drop_length] at e6
        unfold lcS at e6
        cases e6
        refine .inl ⟨i2 (Nat.le_refl _), ?_⟩
        have W6 := R6.wiped (own := own) ho
        rw [wipeR_sub _ hv, wipe_sub _ hv, hw] at W6
        exact ⟨G6, ρI, accI, accv6, (s04.trans s5).trans s6, hv6, qa6, W6, e1⟩
  · have hi : i = ds.length := by omega
    subst hi
    rw [List.drop_length] at e1
    unfold lcS2 at e1
    cases e1
    refine .inl ⟨j2 (Nat.le_refl _), ?_⟩
    have nD := nD_of R1
    have RZ := RS.unwiped R0 (R1.unframe fD) s1 hno
    refine k _ G1 H1 (s0.trans s1) RZ ⟨D, rfl, gD1, fD, ⟨accv, hv', qa⟩, fun i o' z1 z2 => ?_⟩
    by_cases hi : i ∈ own
    · have hl : ρ0.length = ρF.length := by
        have l1 := R0.len
        have l2 := R1.len
        rw [wipeR_length, wipe_length] at l2
        omega
      have e' := putB_in hl hi z1
      have := List.all_eq_true.mp hno i hi
      rw [e'] at this
      cases this
    · rw [putB_out hi] at z1
      exact nD i o' (by rw [wipeR_out hi]; exact z1) (by rw [wipe_out hi]; exact z2)
end
section
variable {X : Cx} {ix : List Nat} {tis tis1 : List Nat} {fi fi1 : ML} {t t1 : MT} {c c1 : MB} {fe : M} {pos : Pos}
theorem de_lc2 {elt tg iter tg1 iter1 : Expr} {ifs ifs1 : List Expr} {scope : Scope} {own : List (Str × Nat)} {vs1 : List Nat} (hc : X.calm = true) (hN : X.N.Nodup) (hi : PI X tg iter (TI' X.K ix fi)) (ok : BlkOk X.N X.env.scope scope own)
    (hg : ∀ (s : Shared) (H : Hp) (C : Addr) (cl : List (Str × Addr)) (fp : List Addr), PG (X.blk s H scope (compEnvC scope cl C X.env) fp) tg (TG' X.K ix tis t))
    (ht : ∀ (s : Shared) (H : Hp) (C : Addr) (cl : List (Str × Addr)) (fp : List Addr), PTs (X.blk s H scope (compEnvC scope cl C X.env) fp) ifs (TT' X.K ix c))
    (hi1 : ∀ (s : Shared) (H : Hp) (C : Addr) (cl : List (Str × Addr)) (fp : List Addr), PI (X.blk s H scope (compEnvC scope cl C X.env) fp) tg1 iter1 (TI' X.K ix fi1))
    (hg1 : ∀ (s : Shared) (H : Hp) (C : Addr) (cl : List (Str × Addr)) (fp : List Addr), PG (X.blk s H scope (compEnvC scope cl C X.env) fp) tg1 (TG' X.K ix tis1 t1))
    (ht1 : ∀ (s : Shared) (H : Hp) (C : Addr) (cl : List (Str × Addr)) (fp : List Addr), PTs (X.blk s H scope (compEnvC scope cl C X.env) fp) ifs1 (TT' X.K ix c1))
    (he : ∀ (s : Shared) (H : Hp) (C : Addr) (cl : List (Str × Addr)) (fp : List Addr), PE (X.blk s H scope (compEnvC scope cl C X.env) fp) elt (TE' X.K ix fe))
    (hv : ∀ i ∈ vs1, i ∈ own.map (·.2) := by decide) (ho : ∀ i ∈ own.map (·.2), i ∉ ix := by decide) (hti : ∀ i ∈ tis, i ∈ own.map (·.2) := by decide) (hti1 : ∀ i ∈ tis1, i ∈ vs1 := by decide) (hs : ∀ x, foldedSetIterable iter X.env x = pure x := by intro _; rfl) (hs1 : ∀ env x, foldedSetIterable iter1 env x = pure x := by intro _ _; rfl) :
    PE X (.ListComp elt [⟨tg, iter, ifs, 0⟩, ⟨tg1, iter1, ifs1, 0⟩] scope pos) (TE' X.K ix (eLc2 (own.map (·.2)) vs1 fi t c fi1 t1 c1 fe)) :=
  pe_imp (pe_lc2 hc hN hi ok hv hg ht hi1 hg1 ht1 (fun s H C cl fp => de_fr (he s H C cl fp)) hs hs1) fun _ _ _ h => lc2_ok ho hti hv hti1 h
theorem ds_setLc2 {i : Nat} {y : Str} {py spos : Pos} {elt tg iter tg1 iter1 : Expr} {ifs ifs1 : List Expr} {scope : Scope} {own : List (Str × Nat)} {vs1 : List Nat} (hc : X.calm = true) (hN : X.N.Nodup) (hy : X.N[i]? = some y) (hyl : X.env.scope.names.lookup y = some .local) (hix : i ∉ ix)
    (hsw : swapsWith (.ListComp elt [⟨tg, iter, ifs, 0⟩, ⟨tg1, iter1, ifs1, 0⟩] scope pos) (some (.Name y py)) spos.line X.env = pure true) (hi : PI X tg iter (TI' X.K ix fi)) (ok : BlkOk X.N X.env.scope scope own)
    (hg : ∀ (s : Shared) (H : Hp) (C : Addr) (cl : List (Str × Addr)) (fp : List Addr), PG (X.blk s H scope (compEnvC scope cl C X.env) fp) tg (TG' X.K ix tis t))
    (ht : ∀ (s : Shared) (H : Hp) (C : Addr) (cl : List (Str × Addr)) (fp : List Addr), PTs (X.blk s H scope (compEnvC scope cl C X.env) fp) ifs (TT' X.K ix c))
    (hi1 : ∀ (s : Shared) (H : Hp) (C : Addr) (cl : List (Str × Addr)) (fp : List Addr), PI (X.blk s H scope (compEnvC scope cl C X.env) fp) tg1 iter1 (TI' X.K ix fi1))
    (hg1 : ∀ (s : Shared) (H : Hp) (C : Addr) (cl : List (Str × Addr)) (fp : List Addr), PG (X.blk s H scope (compEnvC scope cl C X.env) fp) tg1 (TG' X.K ix tis1 t1))
    (ht1 : ∀ (s : Shared) (H : Hp) (C : Addr) (cl : List (Str × Addr)) (fp : List Addr), PTs (X.blk s H scope (compEnvC scope cl C X.env) fp) ifs1 (TT' X.K ix c1))
    (he : ∀ (s : Shared) (H : Hp) (C : Addr) (cl : List (Str × Addr)) (fp : List Addr), PE (X.blk s H scope (compEnvC scope cl C X.env) fp) elt (TE' X.K ix fe))
    (hv : ∀ i ∈ vs1, i ∈ own.map (·.2) := by decide) (ho : ∀ i ∈ own.map (·.2), i ∉ ix := by decide) (hti : ∀ i ∈ tis, i ∈ own.map (·.2) := by decide) (hti1 : ∀ i ∈ tis1, i ∈ vs1 := by decide) (hs : ∀ x, foldedSetIterable iter X.env x = pure x := by intro _; rfl) (hs1 : ∀ env x, foldedSetIterable iter1 env x = pure x := by intro _ _; rfl) :
    PS X (.Assign [.Name y py] (.ListComp elt [⟨tg, iter, ifs, 0⟩, ⟨tg1, iter1, ifs1, 0⟩] scope pos) spos) (TS' X.K ix (sSet i (eLc2 (own.map (·.2)) vs1 fi t c fi1 t1 c1 fe))) :=
  ps_imp (ps_setLc2 hc hN hy hyl hsw hi ok hv hg ht hi1 hg1 ht1 (fun s H C cl fp => de_fr (he s H C cl fp)) hs hs1) fun _ _ _ h => lc2_ok ho hti hv hti1 (asg_ok hix h)
end
end DL

set_option Elab.async false
set_option linter.all false
set_option autoImplicit false
set_option maxRecDepth 100000
set_option maxHeartbeats 1000000
namespace DL
open PySem PySem.Spec PyProof.Rows L2
/-! ### sorted -/
def isTup : Dv → Bool
  | .tuple (_ :: _) => true
  | _ => false
def noTup : Dv → Bool
  | .tuple _ => false
  | .none => false
  | _ => true
def okSo (ds : List Dv) : Bool := (ds.all isTup || ds.all noTup) && (ds.all fun d => ds.all fun e => PySem.W.alike d e) && (ds.all fun d => decide (d.depth ≤ 64)) && decide (ds.length ≤ sizeLine)
def sortD (ds : List Dv) : List Dv := ds.mergeSort (PySem.W.dataLe false fun d : Dv => d)
/-- one datum alone -/
def okOne : List Dv → Bool
  | [d] => !isNone d && PySem.W.alike d d && decide (d.depth ≤ 64)
  | _ => false
def sortG : List Dv → Option Rz
  | [.list ds] => if okSo ds = true then some (.ow (.lst (sortD ds))) else if okOne ds = true then some (.ow (.lst ds)) else none
  | _ => none
theorem okSo_all {ds : List Dv} (h : okSo ds = true) : PySem.W.Sortable ds ∧ PySem.W.AllAlike ds ∧ (∀ d ∈ ds, d.depth ≤ 64) ∧ ds.length ≤ sizeLine := by
  unfold okSo at h
  simp only [Bool.and_eq_true, decide_eq_true_eq, Bool.or_eq_true] at h
  obtain ⟨⟨⟨h1, h2⟩, h3⟩, h4⟩ := h
  refine ⟨?_, fun d hd d' hd' => List.all_eq_true.mp (List.all_eq_true.mp h2 d hd) d' hd', fun d hd => of_decide_eq_true (List.all_eq_true.mp h3 d hd), h4⟩
  rcases h1 with h1 | h1
  · refine .inl fun d hd => ?_
    have := List.all_eq_true.mp h1 d hd
    unfold isTup at this
    split at this
    · exact ⟨_, _, rfl⟩
    · cases this
  · refine .inr fun d hd => ?_
    have := List.all_eq_true.mp h1 d hd
    refine ⟨fun e => ?_, fun xs e => ?_⟩ <;> (subst e; cases this)
theorem each_of {X : Cx} {pins : List (Addr × Obj)} {σ : L2.St} {H : Hp} {s : Shared} (I : Inv X pins σ H s) {G : Hp} (gh : Sub G H) : ∀ {ds : List Dv} {vs : List V} {us : List Value}, DpAll X.K G vs ds → Vals vs us →
    PySem.W.EachIs (fun u d => ∃ v, RelV v u ∧ Dp X.K G v d) us ds ∧ PySem.W.EachIs (fun u d => ∃ as, Reads s.heap u d as) us ds
  | [], _, _, h, r => by
    cases h
    cases r
    exact ⟨.nil, .nil⟩
  | d :: ds, _, _, h, r => by
    cases h with
    | cons h1 h2 =>
      cases r with
      | cons r1 r2 =>
        obtain ⟨a, b⟩ := each_of I gh h2 r2
        exact ⟨.cons ⟨_, r1, h1⟩ a, .cons (Dp.reads I d _ _ (dp_mono gh _ _ h1) r1) b⟩
theorem of_each {K : PySem.W.Frag} {G : Hp} : ∀ {us : List Value} {ds : List Dv}, PySem.W.EachIs (fun u d => ∃ v, RelV v u ∧ Dp K G v d) us ds → ∃ vs, Vals vs us ∧ DpAll K G vs ds
  | _, _, .nil => ⟨[], .nil, .nil⟩
  | _, _, .cons ⟨v, r, h⟩ t => by
    obtain ⟨vs, a, b⟩ := of_each t
    exact ⟨v :: vs, .cons r a, .cons h b⟩
theorem okOne_ok {ds : List Dv} (h : okOne ds = true) : ∃ d, ds = [d] ∧ d ≠ .none ∧ PySem.W.alike d d = true ∧ d.depth ≤ 64 := by
  unfold okOne at h
  split at h
  · simp only [Bool.and_eq_true, Bool.not_eq_true', decide_eq_true_eq] at h
    exact ⟨_, rfl, fun e => by rw [e] at h; exact absurd h.1.1 (by simp [isNone]), h.1.2, h.2⟩
  · cases h
/-- one key alone can be sorted, whatever it is -/
theorem sorts_one {P : Program} {w : World} {A : Around} {s : Shared} {v : Value} {d : Dv} {as : List Addr} (r : Reads s.heap v d as) (hn : d ≠ .none) (ha : PySem.W.alike d d = true) (hu : A.units + d.depth < cLine) : PySem.W.SortsAt P w A s (PySem.W.dataKind s.heap [d]) [v] := by
  have al : PySem.W.AllAlike [d] := fun x hx y hy => by rw [List.mem_singleton.mp hx, List.mem_singleton.mp hy]; exact ha
  refine ⟨fun u hu => ⟨_, PySem.W.dataKind_some al (List.mem_singleton.mpr rfl) ((List.mem_singleton.mp hu) ▸ r)⟩, general', fun E x y a b Q h1 h2 q => ?_, fun two => absurd two (by simp)⟩
  obtain ⟨d1, a1, m1, r1, rfl⟩ := PySem.W.dataKind_inv h1
  obtain ⟨d2, a2, m2, r2, rfl⟩ := PySem.W.dataKind_inv h2
  obtain rfl := List.mem_singleton.mp m1
  obtain rfl := List.mem_singleton.mp m2
  exact PySem.W.oneLt_alike (f := false) (fun z => by cases z) r1 r2 ha hn (by omega) q
theorem sorted_d {X : Cx} (hu : X.A.units + 200 < cLine) : CallD X (.builtin "sorted") sortG := by
  intro pins s σ H xs us Q I r h
  obtain ⟨G, ds, z, gh, vd, hz, q⟩ := h
  unfold sortG at hz
  split at hz
  rotate_left
  · cases hz
  rename_i es
  obtain ⟨v, rfl, hv⟩ := vds1 vd
  obtain ⟨a, vs, rfl, hs, p1⟩ := vd_list hv
  rw [Vals.ref1 r]
  obtain ⟨its, rv, pl, hz'⟩ := I.list hs
  obtain ⟨e1, e2⟩ := each_of I (sub_le gh) p1 rv
  have hp := I.hok.fresh (Nat.le_succ s.heap.objs.size)
  split at hz
  rotate_left
  · split at hz
    rotate_left
    · cases hz
    rename_i hone
    cases hz
    obtain ⟨d, rfl, hn, ha, hdep⟩ := okOne_ok hone
    cases e2 with
    | cons hd1 ht1 =>
      cases ht1
      obtain ⟨as, rd⟩ := hd1
      rename_i u
      have kp : ∀ b o, s.heap.get? b = some o → (PySem.W.sortingHeap (PySem.W.copyHeap s.heap [u]) (s.heap.objs.size + 1) [u]).get? b = some o := fun _ _ => PySem.W.sorting_copy_old
      refine PySem.W.sorted_vals pl.isList (sorts_one (PyProof.Rows.Reads.keeps kp rd) hn ha (by show X.A.in1.in1.units + _ < _; simp; omega)) (by simp [sizeLine]) ?_
      have srt := PySem.W.sortVals_data (h' := PySem.W.sortingHeap (PySem.W.copyHeap s.heap [u]) (s.heap.objs.size + 1) [u]) (R := fun v (_ : Dv) => v = u) (enc := fun d : Dv => d) (vs := [u]) (bs := [d]) false (.cons rfl .nil) (.cons ⟨as, PyProof.Rows.Reads.keeps kp rd⟩ .nil)
        (fun x hx y hy => by rw [List.mem_singleton.mp hx, List.mem_singleton.mp hy]; exact ha)
      rw [List.mergeSort_singleton] at srt
      have one : ∀ out : List Value, PySem.W.EachIs (fun v (_ : Dv) => v = u) out [d] → out = [u] := fun out h => by
        cases h with
        | cons q t =>
          cases t
          rw [q]
      have eq1 : PySem.W.sortVals (PySem.W.dataKind (PySem.W.sortingHeap (PySem.W.copyHeap s.heap [u]) (s.heap.objs.size + 1) [u]) [d]) false [u] [u] = [u] := one _ srt
      obtain ⟨ep, he'⟩ := PyProof.Rows.sortedAll_at s.heap [u] #[u]
      have fin : EP X pins σ Q (.ref (s.heap.objs.size + 1)) { s with heap := PyProof.Rows.sortedAll s.heap [u] #[u] } :=
        ⟨.ref _, upd H (s.heap.objs.size + 1) (.lst vs), I.laid (t' := s.toks) (fun _ _ => PyProof.Rows.sortedAll_old) (Nat.le_succ _) ⟨hz', [u], ep, rv, he'⟩, rfl, res_lst q hp p1⟩
      rw [eq1]
      exact fin
  rename_i hok
  cases hz
  obtain ⟨h1, h2, h3, h4⟩ := okSo_all hok
  refine PySem.W.sorted_data (enc := fun d : Dv => d) pl.isList e1 e2 (by rw [List.map_id']; exact h2) (by rw [List.map_id']; exact h1) h4 (fun b hb => by have := h3 b hb; omega) fun out ho ho2 => ?_
  obtain ⟨ws, rw', dw⟩ := of_each ho2
  obtain ⟨ep, he'⟩ := PyProof.Rows.sortedAll_at s.heap its out.toArray
  have hlen : ws.length ≤ sizeLine := by
    rw [rw'.length, ho]
    exact h4
  exact ⟨.ref _, upd H (s.heap.objs.size + 1) (.lst ws), I.laid (t' := s.toks) (fun _ _ => PyProof.Rows.sortedAll_old) (Nat.le_succ _) ⟨hlen, out, ep, rw', he'⟩, rfl, res_lst q hp dw⟩
end DL

set_option Elab.async false
set_option linter.all false
set_option autoImplicit false
set_option maxRecDepth 100000
set_option maxHeartbeats 1000000
namespace DL
open PySem PySem.Spec PyProof.Rows L2
section
variable {X : Cx} {ix : List Nat} {a b c e : Expr} {ga : MA} {fo : M} {pos : Pos}
/-- three names at once, all shared -/
def sPar3 (i j l : Nat) (ga : MA) : MS := fun ρ => (ga ρ).bind fun x => match x.1 with
  | [.sh d, .sh e, .sh f] => some (.nx (((x.2.set i (.sh d)).set j (.sh e)).set l (.sh f)))
  | _ => none
theorem ds_par3 {i j l : Nat} {x y z : Str} {px py pz pt : Pos} {kt k2 pt2} (hc : X.calm = true) (hN : X.N.Nodup) (hi : X.N[i]? = some x) (hj : X.N[j]? = some y) (hl : X.N[l]? = some z) (hij : i ≠ j) (hil : i ≠ l) (hjl : j ≠ l) (hii : i ∉ ix) (hjj : j ∉ ix) (hll : l ∉ ix)
    (hx : X.env.scope.names.lookup x = some .local) (hy : X.env.scope.names.lookup y = some .local) (hz : X.env.scope.names.lookup z = some .local) (ha : PA X [a, b, c] (TA' X.K ix ga))
    (hw : swappedStores [.Tuple [.Name x px, .Name y py, .Name z pz] kt pt] (.Tuple [a, b, c] k2 pt2) X.env = pure (some [x, y, z]) := by rfl)
    (hs : swapsWithSole [.Tuple [.Name x px, .Name y py, .Name z pz] kt pt] (.Tuple [a, b, c] k2 pt2) pos.line X.env = pure false := by rfl) :
    PS X (.Assign [.Tuple [.Name x px, .Name y py, .Name z pz] kt pt] (.Tuple [a, b, c] k2 pt2) pos) (TS' X.K ix (sPar3 i j l ga)) :=
  ps_imp (ps_par3 hc hN hi hj hl hij hil hjl hx hy hz ha hw hs) fun D σ H ⟨Fr, FX, G, ρ, fl, R, hf, k⟩ => by
    unfold sPar3 at hf
    obtain ⟨⟨rs, ρ0⟩, h0, hf⟩ := Option.bind_eq_some_iff.mp hf
    refine ⟨Fr, FX, G, ρ, rs, ρ0, R, h0, fun vs G1 H1 s1 R1 v1 => ?_⟩
    simp only at hf
    split at hf
    · rename_i d e f
      cases hf
      cases vs with
      | nil => exact False.elim v1
      | cons u vs =>
        cases vs with
        | nil => exact False.elim v1.2.2
        | cons v vs =>
          cases vs with
          | nil => exact False.elim v1.2.2.2.2
          | cons w vs =>
            cases vs with
            | cons _ _ => exact False.elim v1.2.2.2.2.2.2
            | nil =>
              have q1 : Dp X.K G1 u d := v1.1
              have q2 : Dp X.K G1 v e := v1.2.2.1
              have q3 : Dp X.K G1 w f := v1.2.2.2.2.1
              have K1 := R1.set (v := u) (s := .sh d) hii ⟨u, rfl, q1⟩ (fun o a z => nomatch z)
              have K2 := K1.set (v := v) (s := .sh e) hjj ⟨v, rfl, q2⟩ (fun o a z => nomatch z)
              have K3 := K2.set (v := w) (s := .sh f) hll ⟨w, rfl, q3⟩ (fun o a z => nomatch z)
              exact ⟨u, v, w, rfl, k G1 _ H1 s1 K3⟩
    · cases hf
end
end DL

set_option Elab.async false
set_option linter.all false
set_option autoImplicit false
set_option maxRecDepth 100000
set_option maxHeartbeats 1000000
namespace DL
open PySem PySem.Spec PyProof.Rows L2
/-! ### len of a dict with tuple keys too -/
def lenA (ds : List Dv) : Option Rz := match ds with
  | [.dict kvs] => if plD kvs = true then some (.sh (.int kvs.length)) else if kvs.tail.length < 1000000 then some (.sh (.int kvs.tail.length)) else none
  | _ => lenG ds
theorem lenA_d {X : Cx} : CallD X (.builtin "len") lenA := by
  intro pins s σ H xs us Q I r h
  obtain ⟨G, ds, z, gh, vd, hz, q⟩ := h
  unfold lenA at hz
  split at hz
  · rename_i kvs
    by_cases hp : plD kvs = true
    · rw [if_pos hp] at hz
      refine len_d pins s σ H xs us Q I r ⟨G, [.dict kvs], z, gh, vd, ?_, q⟩
      unfold lenG
      simp only
      rw [if_pos hp]
      exact hz
    · rw [if_neg hp] at hz
      split at hz
      rotate_left
      · cases hz
      rename_i hlt
      cases hz
      obtain ⟨v, rfl, h1⟩ := vds1 vd
      obtain ⟨a, ps, rfl, h2, t⟩ := vd_dn h1 (by simpa using hp)
      rw [Vals.ref1 r]
      obtain ⟨xs, pr, hdk, hsys⟩ := tk_of I h2 (t.mono (sub_le gh))
      have hl : xs.length = kvs.tail.length := by rw [pr_len pr, tkv_len t]
      refine call_len_dictH hsys hdk (by omega) ?_
      rw [hl]
      exact ⟨.int kvs.tail.length, H, I.tok _, ⟨_, rfl⟩, res_int q⟩
  · exact len_d pins s σ H xs us Q I r ⟨G, ds, z, gh, vd, hz, q⟩
end DL

set_option Elab.async false
set_option linter.all false
set_option autoImplicit false
set_option maxRecDepth 100000
set_option maxHeartbeats 1000000
namespace DL
open PySem PySem.Spec PyProof.Rows L2
/-! ### is, also of truths -/
def isXD (d e : Dv) : Option Rz := match d, e with
  | .bool a, .bool b => some (.sh (.bool (decide (a = b))))
  | d, e => isND d e
def notXD (d e : Dv) : Option Rz := match d, e with
  | .bool a, .bool b => some (.sh (.bool (!decide (a = b))))
  | d, e => notND d e
section
variable {X : Cx}
theorem is_x : OpD X (compareOp .Is) isXD := by
  intro pins s σ H x y v u Q I rx ry h
  obtain ⟨G, d, e, z, gh, vx, vy, hz, q⟩ := h
  unfold isXD at hz
  split at hz
  · rename_i a b
    cases hz
    exact op_isBl pins s σ H x y v u Q I rx ry ⟨a, b, vd_bool vx, vd_bool vy, res_bl q⟩
  · exact is_d pins s σ H x y v u Q I rx ry ⟨G, d, e, z, gh, vx, vy, hz, q⟩
theorem isnot_x : OpD X (compareOp .IsNot) notXD := by
  intro pins s σ H x y v u Q I rx ry h
  obtain ⟨G, d, e, z, gh, vx, vy, hz, q⟩ := h
  unfold notXD at hz
  split at hz
  · rename_i a b
    cases hz
    exact op_notBl pins s σ H x y v u Q I rx ry ⟨a, b, vd_bool vx, vd_bool vy, res_bl q⟩
  · exact isnot_d pins s σ H x y v u Q I rx ry ⟨G, d, e, z, gh, vx, vy, hz, q⟩
end
section
variable {X : Cx} {ix : List Nat} {tis tis1 : List Nat} {fi fi1 : ML} {t t1 : MT} {c c1 : MB} {fe : M} {pos : Pos}
theorem ds_setLcP {i : Nat} {y : Str} {py spos : Pos} {elt tg iter : Expr} {ifs : List Expr} {scope : Scope} {own : List (Str × Nat)} (hc : X.calm = true) (hN : X.N.Nodup) (hy : X.N[i]? = some y) (hyl : X.env.scope.names.lookup y = some .local) (hix : i ∉ ix)
    (hsw : swapsWith (.ListComp elt [⟨tg, iter, ifs, 0⟩] scope pos) (some (.Name y py)) spos.line X.env = pure true) (hi : PI X tg iter (TI' X.K ix fi)) (ok : BlkOk X.N X.env.scope scope own)
    (hg : ∀ (s : Shared) (H : Hp) (C : Addr) (cl : List (Str × Addr)) (fp : List Addr), PG (X.blk s H scope (compEnvC scope cl C X.env) fp) tg (TG' X.K ix tis t))
    (ht : ∀ (s : Shared) (H : Hp) (C : Addr) (cl : List (Str × Addr)) (fp : List Addr), PTs (X.blk s H scope (compEnvC scope cl C X.env) fp) ifs (TT' X.K ix c))
    (he : ∀ (s : Shared) (H : Hp) (C : Addr) (cl : List (Str × Addr)) (fp : List Addr), PE (X.blk s H scope (compEnvC scope cl C X.env) fp) elt (TE' X.K ix fe))
    (ho : ∀ i ∈ own.map (·.2), i ∉ ix := by decide) (hti : ∀ i ∈ tis, i ∈ own.map (·.2) := by decide) (hs : ∀ x, foldedSetIterable iter X.env x = pure x := by intro _; rfl) :
    PS X (.Assign [.Name y py] (.ListComp elt [⟨tg, iter, ifs, 0⟩] scope pos) spos) (TS' X.K ix (sSet i (pkM (eLc (own.map (·.2)) fi t c fe)))) :=
  ps_imp (ps_setLc hc hN hy hyl hsw hi ok hg ht (fun s H C cl fp => de_fr (he s H C cl fp)) hs) fun _ _ _ h => lc_ok ho hti (pk_ok (asg_ok hix h))
theorem ds_setLc2P {i : Nat} {y : Str} {py spos : Pos} {elt tg iter tg1 iter1 : Expr} {ifs ifs1 : List Expr} {scope : Scope} {own : List (Str × Nat)} {vs1 : List Nat} (hc : X.calm = true) (hN : X.N.Nodup) (hy : X.N[i]? = some y) (hyl : X.env.scope.names.lookup y = some .local) (hix : i ∉ ix)
    (hsw : swapsWith (.ListComp elt [⟨tg, iter, ifs, 0⟩, ⟨tg1, iter1, ifs1, 0⟩] scope pos) (some (.Name y py)) spos.line X.env = pure true) (hi : PI X tg iter (TI' X.K ix fi)) (ok : BlkOk X.N X.env.scope scope own)
    (hg : ∀ (s : Shared) (H : Hp) (C : Addr) (cl : List (Str × Addr)) (fp : List Addr), PG (X.blk s H scope (compEnvC scope cl C X.env) fp) tg (TG' X.K ix tis t))
    (ht : ∀ (s : Shared) (H : Hp) (C : Addr) (cl : List (Str × Addr)) (fp : List Addr), PTs (X.blk s H scope (compEnvC scope cl C X.env) fp) ifs (TT' X.K ix c))
    (hi1 : ∀ (s : Shared) (H : Hp) (C : Addr) (cl : List (Str × Addr)) (fp : List Addr), PI (X.blk s H scope (compEnvC scope cl C X.env) fp) tg1 iter1 (TI' X.K ix fi1))
    (hg1 : ∀ (s : Shared) (H : Hp) (C : Addr) (cl : List (Str × Addr)) (fp : List Addr), PG (X.blk s H scope (compEnvC scope cl C X.env) fp) tg1 (TG' X.K ix tis1 t1))
    (ht1 : ∀ (s : Shared) (H : Hp) (C : Addr) (cl : List (Str × Addr)) (fp : List Addr), PTs (X.blk s H scope (compEnvC scope cl C X.env) fp) ifs1 (TT' X.K ix c1))
    (he : ∀ (s : Shared) (H : Hp) (C : Addr) (cl : List (Str × Addr)) (fp : List Addr), PE (X.blk s H scope (compEnvC scope cl C X.env) fp) elt (TE' X.K ix fe))
    (hv : ∀ i ∈ vs1, i ∈ own.map (·.2) := by decide) (ho : ∀ i ∈ own.map (·.2), i ∉ ix := by decide) (hti : ∀ i ∈ tis, i ∈ own.map (·.2) := by decide) (hti1 : ∀ i ∈ tis1, i ∈ vs1 := by decide) (hs : ∀ x, foldedSetIterable iter X.env x = pure x := by intro _; rfl) (hs1 : ∀ env x, foldedSetIterable iter1 env x = pure x := by intro _ _; rfl) :
    PS X (.Assign [.Name y py] (.ListComp elt [⟨tg, iter, ifs, 0⟩, ⟨tg1, iter1, ifs1, 0⟩] scope pos) spos) (TS' X.K ix (sSet i (pkM (eLc2 (own.map (·.2)) vs1 fi t c fi1 t1 c1 fe)))) :=
  ps_imp (ps_setLc2 hc hN hy hyl hsw hi ok hv hg ht hi1 hg1 ht1 (fun s H C cl fp => de_fr (he s H C cl fp)) hs hs1) fun _ _ _ h => lc2_ok ho hti hv hti1 (pk_ok (asg_ok hix h))
end
end DL

set_option Elab.async false
set_option linter.all false
set_option autoImplicit false
set_option maxRecDepth 100000
set_option maxHeartbeats 1000000
namespace DL
open PySem PySem.Spec PyProof.Rows L2
/-! ### for x in xs: d.setdefault(k, []).append(e), d a new dict with ints as keys: the lists are shared when the loop is over -/
def addK : List (Dv × List Dv) → Dv → Dv → List (Dv × List Dv)
  | [], k, d => [(k, [d])]
  | p :: r, k, d => if eqKey p.1 k = true then (p.1, p.2 ++ [d]) :: r else p :: addK r k d
def sdfL (j : Nat) (fk fe : M) : List Dv → List (Dv × List Dv) → Rho → Option (List (Dv × List Dv) × Rho)
  | [], kvs, ρ => some (kvs, ρ)
  | d :: ds, kvs, ρ => (pkM fk (ρ.set j (.sh d))).bind fun x => match x.1 with
    | .sh (.int k) => (frM fe x.2).bind fun y => (match y.1 with
      | .sh e => if kvs.length < 100000 ∧ (kvs.all fun p => decide (p.2.length < 100000)) = true then sdfL j fk fe ds (addK kvs (.int k) e) y.2 else none
      | _ => none)
    | _ => none
def shK (kvs : List (Dv × List Dv)) : List (Dv × Dv) := kvs.map fun p => (p.1, .list p.2)
def sSdf (i j : Nat) (fi : ML) (fk fe : M) : MS := fun ρ => (fi ρ).bind fun x => match x.2[i]? with
  | some (.ow (.dct [])) => (sdfL j fk fe x.1 [] (x.2.set i .no)).bind fun y => some (.nx ((y.2.set i (.ow (.dct (shK y.1)))).set j .no))
  | _ => none
section
variable {K : PySem.W.Frag} {ix : List Nat} {Fr Fr1 Fr2 G G' H H' : Hp} {FX : Nat → Option V} {ρ : Rho} {σ : L2.St}
theorem RS.reframe (R : RS K ix Fr1 FX G ρ σ H) (S : Addr → Prop) (hg : ∀ x, S x → G x = none) (hs : ∀ x, S x → ∀ (i : Nat) (o : Ob), ρ[i]? = some (.ow o) → σ[i]? ≠ some (some (.ref x))) (hH : ∀ x, ¬ S x → H' x = H x) (hF : ∀ x, ¬ S x → Fr2 x = Fr1 x) (hSF : ∀ x o, S x → Fr2 x = some o → H' x = some o) : RS K ix Fr2 FX G ρ σ H' := by
  refine ⟨fun a o e => ?_, fun a o e => ?_, fun a n => ?_, R.len, fun i s e => ?_, R.sep, R.fx⟩
  · rw [hH a fun z => by rw [hg a z] at e; cases e]
    exact R.gh a o e
  · by_cases z : S a
    · exact hSF a o z e
    · rw [hH a z]
      rw [hF a z] at e
      exact R.fh a o e
  · by_cases z : S a
    · exact hg a z
    · rw [hF a z] at n
      exact R.gf a n
  · have h := R.sl i s e
    cases s with
    | no => trivial
    | sh d => exact h
    | fd d => exact h
    | ow o =>
      obtain ⟨a, e1, g1, f1, c1⟩ := h
      have z : ¬ S a := fun z => hs a z i o e e1
      exact ⟨a, e1, g1, by rw [hF a z]; exact f1, c1.mono (Sub.refl _) (hH a z)⟩
end
/-- the lists of the dict, where they stand -/
abbrev Ent := Key × Addr × List V
def ksOf (ls : List Ent) : List (Key × V) := ls.map fun t => (t.1, V.ref t.2.1)
def frA (Fr : Hp) (a : Addr) (ls : List Ent) : Hp := fun x => if x = a then some (.dK (ksOf ls)) else match ls.find? (fun t => t.2.1 == x) with
  | some t => some (.lst t.2.2)
  | none => Fr x
inductive LK (K : PySem.W.Frag) (G : Hp) : List Ent → List (Dv × List Dv) → Prop
  | nil : LK K G [] []
  | cons {k : Key} {b : Addr} {vs : List V} {ds : List Dv} {r : List Ent} {s : List (Dv × List Dv)} : DpAll K G vs ds → LK K G r s → LK K G ((k, b, vs) :: r) ((keyD k, ds) :: s)
theorem LK.mono {K : PySem.W.Frag} {G G' : Hp} (su : Sub G G') : ∀ {ls : List Ent} {kvs : List (Dv × List Dv)}, LK K G ls kvs → LK K G' ls kvs
  | _, _, .nil => .nil
  | _, _, .cons h t => .cons (dpAll_mono su _ _ h) (t.mono su)
theorem LK.length {K : PySem.W.Frag} {G : Hp} : ∀ {ls : List Ent} {kvs : List (Dv × List Dv)}, LK K G ls kvs → ls.length = kvs.length
  | _, _, .nil => rfl
  | _, _, .cons _ t => by simp [t.length]
/-- the value that a key has -/
theorem lk_find {K : PySem.W.Frag} {G : Hp} (k : Key) (e : Dv) : ∀ {ls : List Ent} {kvs : List (Dv × List Dv)}, LK K G ls kvs →
    (valV (ksOf ls) k = none ∧ addK kvs (keyD k) e = kvs ++ [(keyD k, [e])]) ∨
    ∃ (l1 : List Ent) (b : Addr) (vs : List V) (l2 : List Ent) (ds : List Dv), ls = l1 ++ (k, b, vs) :: l2 ∧ valV (ksOf ls) k = some (.ref b) ∧ DpAll K G vs ds ∧ (keyD k, ds) ∈ kvs ∧
      (∀ (G' : Hp) (vs' : List V), Sub G G' → DpAll K G' vs' (ds ++ [e]) → LK K G' (l1 ++ (k, b, vs') :: l2) (addK kvs (keyD k) e))
  | _, _, .nil => .inl ⟨rfl, rfl⟩
  | _, _, .cons (k := k0) (b := b0) (vs := vs0) (ds := ds0) (r := r) (s := s) h t => by
    by_cases z : k0 = k
    · subst z
      refine .inr ⟨[], b0, vs0, r, ds0, rfl, valV_pos rfl, h, List.mem_cons_self .., fun G' vs' su q => ?_⟩
      unfold addK
      rw [eqKey_keyD, if_pos (by simp)]
      exact .cons q (t.mono su)
    · rcases lk_find k e t with ⟨h1, h2⟩ | ⟨l1, b, vs, l2, ds, e1, h1, h2, h3, h4⟩
      · refine .inl ⟨?_, ?_⟩
        · show valV ((k0, V.ref b0) :: ksOf r) k = none
          rw [valV_neg z]
          exact h1
        · unfold addK
          rw [eqKey_keyD, if_neg (by simp [z]), h2]
          rfl
      · refine .inr ⟨(k0, b0, vs0) :: l1, b, vs, l2, ds, by rw [e1]; rfl, ?_, h2, List.mem_cons_of_mem _ h3, fun G' vs' su q => ?_⟩
        · show valV ((k0, V.ref b0) :: ksOf r) k = some (.ref b)
          rw [valV_neg z]
          exact h1
        · unfold addK
          rw [eqKey_keyD, if_neg (by simp [z])]
          exact .cons (dpAll_mono su _ _ h) (h4 G' vs' su q)
theorem lk_snoc {K : PySem.W.Frag} {G : Hp} {k : Key} {b : Addr} {vs : List V} {ds : List Dv} (q : DpAll K G vs ds) : ∀ {ls : List Ent} {kvs : List (Dv × List Dv)}, LK K G ls kvs → LK K G (ls ++ [(k, b, vs)]) (kvs ++ [(keyD k, ds)])
  | _, _, .nil => .cons q .nil
  | _, _, .cons h t => .cons h (lk_snoc q t)
theorem find_mid {l1 l2 : List Ent} {k : Key} {b : Addr} {vs : List V} (nd : ((l1 ++ (k, b, vs) :: l2).map (·.2.1)).Nodup) : (l1 ++ (k, b, vs) :: l2).find? (fun t => t.2.1 == b) = some (k, b, vs) := by
  rw [List.map_append, List.map_cons] at nd
  have h1 : ∀ t ∈ l1, t.2.1 ≠ b := fun t ht e => by
    have := (List.nodup_append.mp nd).2.2 t.2.1 (List.mem_map.mpr ⟨t, ht, rfl⟩) b (List.mem_cons_self ..)
    exact this e
  rw [List.find?_append, List.find?_eq_none.mpr (fun t ht => by simpa using h1 t ht)]
  simp
theorem find_other {l1 l2 : List Ent} {k : Key} {b : Addr} {vs vs' : List V} {x : Addr} (hx : x ≠ b) : ((l1 ++ (k, b, vs) :: l2).find? (fun t => t.2.1 == x)) = ((l1 ++ (k, b, vs') :: l2).find? (fun t => t.2.1 == x)) := by
  rw [List.find?_append, List.find?_append]
  congr 1
  rw [List.find?_cons_of_neg (by simpa using fun e => hx e.symm), List.find?_cons_of_neg (by simpa using fun e => hx e.symm)]
theorem find_none {ls : List Ent} {x : Addr} : ls.find? (fun t => t.2.1 == x) = none ↔ x ∉ ls.map (·.2.1) := by
  rw [List.find?_eq_none]
  simp only [List.mem_map, not_exists, not_and, beq_iff_eq]
theorem ksOf_put {k : Key} {q : Addr} : ∀ {ls : List Ent}, valV (ksOf ls) k = none → putK (ksOf ls) k (.ref q) = ksOf (ls ++ [(k, q, [])])
  | ls, h => by
    have h2 : (ksOf ls).any (fun p => decide (p.1 = k)) = false := by
      induction ls with
      | nil => rfl
      | cons t ls ih =>
        obtain ⟨k0, b0, vs0⟩ := t
        by_cases z : k0 = k
        · rw [show ksOf ((k0, b0, vs0) :: ls) = (k0, V.ref b0) :: ksOf ls from rfl, valV_pos z] at h
          cases h
        · rw [show ksOf ((k0, b0, vs0) :: ls) = (k0, V.ref b0) :: ksOf ls from rfl, valV_neg z] at h
          show (decide (k0 = k) || (ksOf ls).any _) = false
          rw [ih h]
          simp [z]
    unfold putK
    rw [h2]
    simp [ksOf]
/-- what stands at an address of a list -/
theorem frA_b {Fr : Hp} {a : Addr} {l1 l2 : List Ent} {k : Key} {b : Addr} {vs : List V} (nd : ((l1 ++ (k, b, vs) :: l2).map (·.2.1)).Nodup) (ha : b ≠ a) : frA Fr a (l1 ++ (k, b, vs) :: l2) b = some (.lst vs) := by
  unfold frA
  rw [if_neg ha, find_mid nd]
theorem frA_a {Fr : Hp} {a : Addr} {ls : List Ent} : frA Fr a ls a = some (.dK (ksOf ls)) := if_pos rfl
theorem frA_o {Fr : Hp} {a : Addr} {ls : List Ent} {x : Addr} (h1 : x ≠ a) (h2 : x ∉ ls.map (·.2.1)) : frA Fr a ls x = Fr x := by
  unfold frA
  rw [if_neg h1, find_none.mpr h2]
theorem ksOf_set {l1 l2 : List Ent} {k : Key} {b : Addr} {vs vs' : List V} : ksOf (l1 ++ (k, b, vs') :: l2) = ksOf (l1 ++ (k, b, vs) :: l2) := by
  simp [ksOf]
end DL
namespace DL
open PySem PySem.Spec PyProof.Rows L2
theorem frA_f {Fr : Hp} {a x : Addr} {ls : List Ent} {t : Ent} (h : x ≠ a) (f : ls.find? (fun t => t.2.1 == x) = some t) : frA Fr a ls x = some (.lst t.2.2) := by
  unfold frA
  rw [if_neg h, f]
def shG (G : Hp) (ls : List Ent) : Hp := fun x => match ls.find? (fun t => t.2.1 == x) with
  | some t => some (.lst t.2.2)
  | none => G x
theorem shG_o {G : Hp} {ls : List Ent} {x : Addr} (h : x ∉ ls.map (·.2.1)) : shG G ls x = G x := by
  unfold shG
  rw [find_none.mpr h]
theorem find_in {ls : List Ent} {x : Addr} (h : x ∈ ls.map (·.2.1)) : ∃ t ∈ ls, t.2.1 = x ∧ ls.find? (fun t => t.2.1 == x) = some t := by
  cases e : ls.find? (fun t => t.2.1 == x) with
  | none => exact absurd h (find_none.mp e)
  | some t => exact ⟨t, List.mem_of_find?_eq_some e, by simpa using List.find?_some e, rfl⟩
theorem lk_dkv {K : PySem.W.Frag} {G1 G : Hp} (su : Sub G1 G) : ∀ {ls : List Ent} {kvs : List (Dv × List Dv)}, LK K G1 ls kvs → (∀ t ∈ ls, G t.2.1 = some (.lst t.2.2)) → DKV K G (ksOf ls) (shK kvs)
  | _, _, .nil, _ => .nil
  | _, _, .cons (b := b) (vs := vs) h t, hG => .cons (.lst (.inl (.inl (hG _ (List.mem_cons_self ..)))) (dpAll_mono su _ _ h)) (lk_dkv su t fun u hu => hG u (List.mem_cons_of_mem _ hu))
theorem nodup_find {ls : List Ent} (nd : (ls.map (·.2.1)).Nodup) {t : Ent} (h : t ∈ ls) : ls.find? (fun u => u.2.1 == t.2.1) = some t := by
  obtain ⟨l1, l2, rfl⟩ := List.append_of_mem h
  obtain ⟨k, b, vs⟩ := t
  exact find_mid nd
/-- the end of the loop: the lists are shared, the dict is the slot's -/
theorem sdf_end {K : PySem.W.Frag} {ix : List Nat} {Fr G1 H1 : Hp} {FX : Nat → Option V} {ρ1 : Rho} {σ1 : L2.St} {a : Addr} {i : Nat} {ls : List Ent} {kvs : List (Dv × List Dv)} (R1 : RS K ix (frA Fr a ls) FX G1 ρ1 σ1 H1) (hi : i < ρ1.length) (ea1 : σ1[i]? = some (some (.ref a))) (lk : LK K G1 ls kvs) (nd : (ls.map (·.2.1)).Nodup) (na : a ∉ ls.map (·.2.1)) (nf : ∀ b ∈ ls.map (·.2.1), Fr b = none) (fa : Fr a = none) :
    Sub G1 (shG G1 ls) ∧ RS K ix Fr FX (shG G1 ls) (ρ1.set i (.ow (.dct (shK kvs)))) σ1 H1 := by
  have gb : ∀ b ∈ ls.map (·.2.1), G1 b = none := fun b hb => R1.gf b (by
    obtain ⟨t, ht, e, f⟩ := find_in hb
    have hba : b ≠ a := fun z => by subst z; exact na hb
    rw [frA_f hba f]
    simp)
  have ga : G1 a = none := R1.gf a (by rw [frA_a]; simp)
  have le : ∀ x o, G1 x = some o → shG G1 ls x = some o := fun x o e => by
    rw [shG_o (fun z => by rw [gb x z] at e; cases e)]
    exact e
  have su : Sub G1 (shG G1 ls) := sub_le le
  have hb : ∀ t ∈ ls, shG G1 ls t.2.1 = some (.lst t.2.2) := fun t ht => by
    unfold shG
    rw [nodup_find nd ht]
  have hHb : ∀ t ∈ ls, H1 t.2.1 = some (.lst t.2.2) := fun t ht => R1.fh _ _ (frA_f (fun z => na (z ▸ List.mem_map.mpr ⟨t, ht, rfl⟩)) (nodup_find nd ht))
  refine ⟨su, ?_, ?_, ?_, by simp [R1.len], ?_, ?_, R1.fx⟩
  · intro x o e
    by_cases hx : x ∈ ls.map (·.2.1)
    · obtain ⟨t, ht, rfl⟩ := List.mem_map.mp hx
      rw [hb t ht] at e
      cases e
      exact hHb t ht
    · rw [shG_o hx] at e
      exact R1.gh x o e
  · intro x o e
    refine R1.fh x o ?_
    rw [frA_o (fun z => by rw [z, fa] at e; cases e) (fun z => by rw [nf x z] at e; cases e)]
    exact e
  · intro x n
    have hx : x ∉ ls.map (·.2.1) := fun z => n (nf x z)
    rw [shG_o hx]
    refine R1.gf x ?_
    have hxa : x ≠ a := fun z => by subst z; exact n fa
    rw [frA_o hxa hx]
    exact n
  · intro n s e
    by_cases hn : i = n
    · subst hn
      rw [List.getElem?_set_self hi] at e
      cases e
      exact ⟨a, ea1, by rw [shG_o na]; exact ga, fa, ksOf ls, R1.fh a _ frA_a, lk_dkv su lk hb⟩
    · rw [List.getElem?_set_ne hn] at e
      refine SlOk.mono (Fr := Fr) (H := H1) ?_ su ?_
      · have h := R1.sl n s e
        cases s with
        | no => trivial
        | sh d => exact h
        | fd d => exact h
        | ow o =>
          obtain ⟨b, e1, g1, f1, c1⟩ := h
          have hba : b ≠ a := fun z => by rw [z, frA_a] at f1; cases f1
          have hbl : b ∉ ls.map (·.2.1) := fun z => by
            obtain ⟨t, ht, e, f⟩ := find_in z
            rw [frA_f hba f] at f1
            cases f1
          rw [frA_o hba hbl] at f1
          exact ⟨b, e1, g1, f1, c1⟩
      · intro b o e1 es g1 f1
        subst es
        refine ⟨?_, rfl⟩
        obtain ⟨b', e1', g1', f1', c1'⟩ := R1.sl n _ e
        rw [e1] at e1'
        cases e1'
        have hbl : b ∉ ls.map (·.2.1) := fun z => by
          obtain ⟨t, ht, e, f⟩ := find_in z
          rw [frA_f (fun z => by rw [z, frA_a] at f1'; cases f1') f] at f1'
          cases f1'
        rw [shG_o hbl]
        exact g1
  · intro n l b o o' hne e1 e2 e3 e4
    have key : ∀ l o', (ρ1.set i (.ow (.dct (shK kvs))))[l]? = some (.ow o') → l ≠ i → σ1[l]? ≠ some (some (.ref a)) := fun l o' e hl e4 => by
      rw [List.getElem?_set_ne (fun z => hl z.symm)] at e
      obtain ⟨b', e1', g1', f1', c1'⟩ := R1.sl l _ e
      rw [e4] at e1'
      cases e1'
      rw [frA_a] at f1'
      cases f1'
    by_cases hn : n = i
    · subst hn
      rw [ea1] at e3
      cases e3
      exact key l o' e2 (fun z => hne z.symm) e4
    · by_cases hl : l = i
      · subst hl
        rw [ea1] at e4
        cases e4
        exact key n o e1 hn e3
      · rw [List.getElem?_set_ne (fun z => hn z.symm)] at e1
        rw [List.getElem?_set_ne (fun z => hl z.symm)] at e2
        exact R1.sep n l b o o' hne e1 e2 e3 e4
section
variable {X : Cx} {ix : List Nat} {fi : ML} {fk fe : M} {i j : Nat} {dn : Str} {tg iter ke le ae : Expr} {pn ap1 cp1 ap2 cp2 ep pos : Pos}
theorem ds_sdf (hp : PassesOwn (model X.prog X.w) X.A X.env X.xe) (hc : X.calm = true) (hij : i ≠ j) (hjx : j ∉ ix) (hi : PI X tg iter (TI' X.K ix fi)) (hg : PG X tg (gName j)) (hv : PE X (.Name dn pn) (tVar i)) (hk : PE X ke (TE' X.K ix fk)) (hl : PE X le (TE' X.K ix (eLst aNil))) (ha : PE X ae (TE' X.K ix fe))
    (m : M2 X (.Name dn pn) "setdefault" ap1 ke le cp1)
    (hb : ∀ (to : TE) (t : TA), PE X (.Call (.Attribute (.Name dn pn) "setdefault" ap1) [ke, le] [] cp1) to → PA X [ae] t → PE X (.Call (.Attribute (.Call (.Attribute (.Name dn pn) "setdefault" ap1) [ke, le] [] cp1) "append" ap2) [ae] [] cp2) (tBM X.K "list" (RMd X.K appG) to t))
    (hs : swapsWith (.Call (.Attribute (.Call (.Attribute (.Name dn pn) "setdefault" ap1) [ke, le] [] cp1) "append" ap2) [ae] [] cp2) none ep.line X.env = pure false)
    (hf : ∀ x, foldedSetIterable iter X.env x = pure x) (hst : starEach [ae] X.env = (false, eval ae X.env) :: starEach [] X.env) :
    PS X (.For tg iter [.Expr (.Call (.Attribute (.Call (.Attribute (.Name dn pn) "setdefault" ap1) [ke, le] [] cp1) "append" ap2) [ae] [] cp2) ep] [] pos) (TS' X.K ix (sSdf i j fi fk fe)) :=
  ps_imp (ps_for hp hc hi hg (pss_one (ps_expr (hb _ _ (pe_dsetd hv (de_pk hk) hl m) (da_cons (de_fr ha) da_nil hst)) hs)) hf) fun D σ H ⟨Fr, FX, G, ρ, fl, R, h0, k⟩ => by
    unfold sSdf at h0
    obtain ⟨⟨ds, ρ0⟩, h1, h0⟩ := Option.bind_eq_some_iff.mp h0
    simp only at h0
    split at h0
    rotate_left
    · cases h0
    rename_i hslot
    obtain ⟨⟨kvsF, ρF⟩, h2, h0⟩ := Option.bind_eq_some_iff.mp h0
    cases h0
    refine ⟨Fr, FX, G, ρ, ds, ρ0, R, h1, fun J G0 H0 s0 R0 jk => ?_⟩
    obtain ⟨a, ea, ga, fa, ks0, hH0, q0⟩ := R0.sl i _ hslot
    cases q0
    have R0' : RS X.K ix (frA Fr a []) FX G0 (ρ0.set i .no) σ H0 := by
      have R1 := R0.weak (i := i) (s := .no) trivial (fun o z => nomatch z)
      refine R1.reframe (fun x => x = a) (fun x z => z ▸ ga) (fun x z n o e1 e2 => ?_) (fun _ _ => rfl) (fun x z => frA_o z (by simp)) (fun x o z e => ?_)
      · subst z
        by_cases hn : i = n
        · subst hn
          have hlt : i < ρ0.length := (List.getElem?_eq_some_iff.mp hslot).1
          rw [List.getElem?_set_self hlt] at e1
          cases e1
        · rw [List.getElem?_set_ne hn] at e1
          exact R0.sep i n x _ _ hn hslot e1 ea e2
      · subst z
        rw [frA_a] at e
        cases e
        exact hH0
    have him : i < ρ0.length := (List.getElem?_eq_some_iff.mp hslot).1
    refine ⟨fun n m σ H => m = ds.length - n ∧ n ≤ ds.length ∧ ∃ G1 ρ1 kvs ls, Sub G0 G1 ∧ σ[i]? = some (some (.ref a)) ∧ ρ1.length = ρ0.length ∧ RS X.K ix (frA Fr a ls) FX G1 ρ1 σ H ∧ LK X.K G1 ls kvs ∧ (ls.map (·.2.1)).Nodup ∧ a ∉ ls.map (·.2.1) ∧ (∀ b ∈ ls.map (·.2.1), Fr b = none) ∧
      sdfL j fk fe (ds.drop n) kvs ρ1 = some (kvsF, ρF), ⟨ds.length, by simp, Nat.zero_le _, G0, ρ0.set i .no, [], [], Sub.refl _, ea, by simp, R0', .nil, by simp, by simp, by simp, h2⟩, ?_⟩
    rintro n m σ1 H1 ⟨rfl, hle, G1, ρ1, kvs, ls, s1, ea1, hlen, R1, lk, nd, na, nf, e1⟩
    obtain ⟨j1, j2⟩ := jk n G1 H1 s1 R1.gh
    by_cases hlt : n < ds.length
    rotate_left
    · refine .inl ⟨j2 (by omega), ?_⟩
      rw [List.drop_eq_nil_of_le (by omega)] at e1
      cases e1
      obtain ⟨su, R2⟩ := sdf_end R1 (by omega) ea1 lk nd na nf fa
      exact k _ _ _ ((s0.trans s1).trans su) (R2.weak (i := j) (s := .no) trivial (fun o z => nomatch z))
    have hd : ds[n]? = some ds[n] := List.getElem?_eq_getElem hlt
    obtain ⟨j3, j4⟩ := j1 _ hd
    rw [List.drop_eq_getElem_cons hlt] at e1
    unfold sdfL at e1
    obtain ⟨⟨r1, ρ2⟩, e2, e1⟩ := Option.bind_eq_some_iff.mp e1
    simp only at e1
    split at e1
    rotate_left
    · cases e1
    rename_i kk
    obtain ⟨⟨r2, ρ3⟩, e3, e1⟩ := Option.bind_eq_some_iff.mp e1
    simp only at e1
    split at e1
    rotate_left
    · cases e1
    rename_i e
    split at e1
    rotate_left
    · cases e1
    rename_i hsz
    refine .inr ⟨j3, fun σ H => ∃ G1 ρ1 kvs ls, Sub G0 G1 ∧ σ[i]? = some (some (.ref a)) ∧ ρ1.length = ρ0.length ∧ RS X.K ix (frA Fr a ls) FX G1 ρ1 σ H ∧ LK X.K G1 ls kvs ∧ (ls.map (·.2.1)).Nodup ∧ a ∉ ls.map (·.2.1) ∧ (∀ b ∈ ls.map (·.2.1), Fr b = none) ∧
      sdfL j fk fe (ds.drop (n + 1)) kvs ρ1 = some (kvsF, ρF), fun σ' H' w => ⟨ds.length - (n + 1), by omega, rfl, hlt, w⟩, fun x H2 y => ?_⟩
    have key : ∃ G2, Sub G1 G2 ∧ RS X.K ix (frA Fr a ls) FX G2 ρ1 σ1 H2 ∧ Dp X.K G2 x ds[n] := by
      rcases j4 x H2 y with ⟨rfl, q⟩ | ⟨p, o, hp, rfl, q⟩
      · exact ⟨G1, Sub.refl _, R1, q⟩
      · exact ⟨_, sub_upd (R1.none_of hp).1, R1.newG hp, q⟩
    obtain ⟨G2, s2, R2, q⟩ := key
    have R3 := R2.set (i := j) (v := x) (s := .sh ds[n]) hjx ⟨x, rfl, q⟩ (fun o a z => nomatch z)
    have ea3 : (σ1.set j (some x))[i]? = some (some (.ref a)) := by rw [List.getElem?_set_ne (fun z => hij z.symm)]; exact ea1
    have hlen3 : (σ1.set j (some x)).length = ρ0.length := by rw [List.length_set, ← R1.len, hlen]
    have harg : aCons (frM fe) aNil ρ2 = some ([.sh e], ρ3) := by
      unfold aCons
      rw [e3]
      rfl
    have fin : ∀ (G4 H4 : Hp) (l1 l2 : List Ent) (b : Addr) (vs : List V) (dsb : List Dv), Sub G0 G4 → RS X.K ix (frA Fr a (l1 ++ (.inl kk, b, vs) :: l2)) FX G4 ρ2 (σ1.set j (some x)) H4 → ((l1 ++ (.inl kk, b, vs) :: l2).map (·.2.1)).Nodup → a ∉ (l1 ++ (.inl kk, b, vs) :: l2).map (·.2.1) →
        (∀ b' ∈ (l1 ++ (.inl kk, b, vs) :: l2).map (·.2.1), Fr b' = none) → DpAll X.K G4 vs dsb → dsb.length < sizeLine → (∀ (G' : Hp) (vs' : List V), Sub G4 G' → DpAll X.K G' vs' (dsb ++ [e]) → LK X.K G' (l1 ++ (.inl kk, b, vs') :: l2) (addK kvs (.int kk) e)) →
        tyV X.K "list" (.ref b) H4 ∧ TA' X.K ix (aCons (frM fe) aNil) (σ1.set j (some x)) H4 fun xs H5 => RMd X.K appG (.ref b) xs H5 fun _ H6 => ∃ G1 ρ1 kvs ls, Sub G0 G1 ∧ (σ1.set j (some x))[i]? = some (some (.ref a)) ∧ ρ1.length = ρ0.length ∧ RS X.K ix (frA Fr a ls) FX G1 ρ1 (σ1.set j (some x)) H6 ∧ LK X.K G1 ls kvs ∧ (ls.map (·.2.1)).Nodup ∧ a ∉ ls.map (·.2.1) ∧ (∀ b ∈ ls.map (·.2.1), Fr b = none) ∧
      sdfL j fk fe (ds.drop (n + 1)) kvs ρ1 = some (kvsF, ρF) := by
      intro G4 H4 l1 l2 b vs dsb s4 R5 nd5 na5 nf5 q5 hz5 hlk
      have hba : b ≠ a := fun z => by subst z; exact na5 (by simp)
      have hH : H4 b = some (.lst vs) := R5.fh b _ (frA_b nd5 hba)
      refine ⟨.inl ⟨rfl, vs, .inl (.inl hH)⟩, frA Fr a (l1 ++ (.inl kk, b, vs) :: l2), FX, G4, ρ2, [.sh e], ρ3, R5, harg, fun vs2 G5 H5 s5 R6 v6 => ?_⟩
      have gb : G5 b = none := R6.gf b (by rw [frA_b nd5 hba]; simp)
      refine ⟨G5, b, .lst dsb, [e], .lst (dsb ++ [e]), .none, rfl, R6.gh, gb, ⟨vs, R6.fh b _ (frA_b nd5 hba), dpAll_mono s5 _ _ q5⟩, shs_dp v6 rfl, by unfold appG; simp only; rw [if_pos hz5], fun v' u' c' q' => ?_⟩
      obtain ⟨vs', hu', dq'⟩ := c'
      rw [upd_same] at hu'
      cases hu'
      have hmap : ∀ w : List V, (l1 ++ (Sum.inl kk, b, w) :: l2).map (·.2.1) = (l1 ++ (Sum.inl kk, b, vs) :: l2).map (·.2.1) := fun w => by simp
      have nd' : ((l1 ++ (Sum.inl kk, b, vs') :: l2).map (·.2.1)).Nodup := by rw [hmap]; exact nd5
      refine ⟨G5, ρ3, addK kvs (.int kk) e, l1 ++ (.inl kk, b, vs') :: l2, s4.trans s5, ea3, by rw [R6.len]; exact hlen3, ?_, hlk G5 vs' s5 dq', nd', by rw [hmap]; exact na5, by rw [hmap]; exact nf5, e1⟩
      refine R6.reframe (fun y => y = b) (fun y z => z ▸ gb) (fun y z m o w1 w2 => ?_) (fun y z => upd_ne z) (fun y z => ?_) (fun y o z w => ?_)
      · subst z
        obtain ⟨b', w3, _, w4, _⟩ := R6.sl m _ w1
        rw [w2] at w3
        cases w3
        rw [frA_b nd5 hba] at w4
        cases w4
      · by_cases hy : y = a
        · subst hy
          rw [frA_a, frA_a, ksOf_set (vs := vs)]
        · unfold frA
          rw [if_neg hy, if_neg hy, find_other (vs := vs') (vs' := vs) z]
      · subst z
        rw [frA_b nd' hba] at w
        cases w
        exact upd_same
    refine ⟨.ref a, ea3, a, rfl, .inl ⟨_, .inl (R3.fh a _ frA_a)⟩, frA Fr a ls, FX, G2, _, _, ρ2, R3, e2, fun y G3 H3 s3 R4 v4 => ?_⟩
    have hy : y = .int kk := by
      have v4' : Dp X.K G3 y (.int kk) := v4
      cases v4'
      rfl
    subst hy
    refine ⟨frA Fr a ls, FX, G3, ρ2, .ow (.lst []), ρ2, R4, rfl, fun z G4 H4 s4 R5 v5 => ?_⟩
    obtain ⟨q0, rfl, gq, fq, ⟨vsq, hq, dq⟩, nq⟩ := v5
    cases dq
    have su4 : Sub G1 G4 := (s2.trans s3).trans s4
    have lk4 := lk.mono su4
    have hszl := szl_big
    refine ⟨ksOf ls, .inl kk, R5.fh a _ frA_a, rfl, by rw [show (ksOf ls).length = ls.length from List.length_map .., lk.length]; omega, fun v hv => ?_, fun hn => ?_⟩
    · rcases lk_find (.inl kk) e lk4 with ⟨h1, _⟩ | ⟨l1, b, vs, l2, dsb, rfl, h1, h2, h3, h4⟩
      · rw [hv] at h1
        cases h1
      · rw [hv] at h1
        cases h1
        have h5 : dsb.length < 100000 := of_decide_eq_true (List.all_eq_true.mp hsz.2 _ h3)
        exact fin G4 H4 l1 l2 b vs dsb (s1.trans su4) R5 nd na nf h2 (by omega) h4
    · rcases lk_find (.inl kk) e lk4 with ⟨_, h2⟩ | ⟨l1, b, vs, l2, dsb, _, h1, _⟩
      rotate_left
      · rw [hn] at h1
        cases h1
      rw [ksOf_put hn]
      have hqa : q0 ≠ a := fun z => by subst z; rw [frA_a] at fq; cases fq
      have hql : q0 ∉ ls.map (·.2.1) := fun z => by
        obtain ⟨t, ht, _, f⟩ := find_in z
        rw [frA_f hqa f] at fq
        cases fq
      have fq' : Fr q0 = none := by rw [frA_o hqa hql] at fq; exact fq
      have nd' : ((ls ++ ([(.inl kk, q0, [])] : List Ent)).map (·.2.1)).Nodup := by
        rw [List.map_append]
        refine List.nodup_append.mpr ⟨nd, by simp, fun u hu w hw z => ?_⟩
        simp at hw
        subst hw
        subst z
        exact hql hu
      have na' : a ∉ (ls ++ ([(.inl kk, q0, [])] : List Ent)).map (·.2.1) := by
        rw [List.map_append, List.mem_append]
        rintro (z | z)
        · exact na z
        · simp at z
          exact hqa z.symm
      have nf' : ∀ b ∈ (ls ++ ([(.inl kk, q0, [])] : List Ent)).map (·.2.1), Fr b = none := fun b hb => by
        rw [List.map_append, List.mem_append] at hb
        rcases hb with hb | hb
        · exact nf b hb
        · simp at hb
          subst hb
          exact fq'
      refine fin G4 _ ls [] q0 [] [] (s1.trans su4) ?_ nd' na' nf' .nil (by simp; omega) (fun G' vs' su q => ?_)
      · refine R5.reframe (fun y => y = a ∨ y = q0) (fun y z => ?_) (fun y z m o w1 w2 => ?_) (fun y z => upd_ne fun w => z (.inl w)) (fun y z => ?_) (fun y o z w => ?_)
        · rcases z with rfl | rfl
          · exact R5.gf _ (by rw [frA_a]; simp)
          · exact gq
        · rcases z with rfl | rfl
          · obtain ⟨b', w3, _, w4, _⟩ := R5.sl m _ w1
            rw [w2] at w3
            cases w3
            rw [frA_a] at w4
            cases w4
          · exact nq m o w1 w2
        · have hya : y ≠ a := fun w => z (.inl w)
          have hyq : y ≠ q0 := fun w => z (.inr w)
          unfold frA
          rw [if_neg hya, if_neg hya, List.find?_append]
          rw [List.find?_cons_of_neg (by simpa using fun w => hyq w.symm)]
          simp
        · rcases z with rfl | rfl
          · rw [frA_a] at w
            cases w
            exact upd_same
          · rw [frA_b (l2 := []) nd' hqa] at w
            cases w
            rw [upd_ne hqa]
            exact hq
      · rw [show addK kvs (.int kk) e = kvs ++ [(keyD (.inl kk), [e])] from h2]
        exact lk_snoc (by simpa using q) (lk4.mono su)
end
end DL
namespace DL
open PySem PySem.Spec PyProof.Rows L2
/-! ### d.get(k, v), d a dict with ints or texts as keys -/
def isDct : Option Sl → Bool
  | some (.ow (.dct _)) => true
  | _ => false
def eDGet (fo fk fd : M) : M := fun ρ => (fo ρ).bind fun x => match x.1 with
  | .al i => if isDct x.2[i]? = true then (pkM fk x.2).bind fun y => (dat y.2 y.1).bind fun k => (frM fd y.2).bind fun z => (match z.1, z.2[i]? with
    | .sh d0, some (.ow (.dct kvs)) => if isKey k = true then some (.sh ((getD kvs k).getD d0), z.2) else none
    | _, _ => none) else none
  | _ => none
section
variable {X : Cx} {ix : List Nat} {o e f : Expr} {fo fk fd : M} {apos cpos : Pos}
theorem de_dget (hu : X.A.units + 1 < cLine) (ho : PE X o (TE' X.K ix fo)) (he : PE X e (TE' X.K ix fk)) (hf : PE X f (TE' X.K ix fd)) (m : M2 X o "get" apos e f cpos) : PE X (.Call (.Attribute o "get" apos) [e, f] [] cpos) (TE' X.K ix (eDGet fo fk fd)) :=
  pe_imp (pe_dget2 hu ho (de_pk he) (de_fr hf) m) fun σ H Q ⟨Fr, FX, G, ρ, r, ρ', R, h, k⟩ => by
    unfold eDGet at h
    obtain ⟨⟨r0, ρ0⟩, h0, h⟩ := Option.bind_eq_some_iff.mp h
    cases r0 with
    | sh d => cases h
    | ow d => cases h
    | fd d => cases h
    | al i =>
      simp only at h
      split at h
      rotate_left
      · cases h
      rename_i hd0
      obtain ⟨⟨r1, ρ1⟩, h1, h⟩ := Option.bind_eq_some_iff.mp h
      obtain ⟨kd, h2, h⟩ := Option.bind_eq_some_iff.mp h
      obtain ⟨⟨r2, ρ2⟩, h3, h⟩ := Option.bind_eq_some_iff.mp h
      simp only at h
      split at h
      rotate_left
      · cases h
      rename_i d0 kvs hs
      split at h
      rotate_left
      · cases h
      rename_i hk
      cases h
      refine ⟨Fr, FX, G, ρ, .al i, ρ0, R, h0, fun x G1 H1 s1 R1 v1 => ?_⟩
      have ev : σ[i]? = some (some x) := v1
      unfold isDct at hd0
      split at hd0
      rotate_left
      · cases hd0
      rename_i kvs0 hs0
      obtain ⟨a, ea, g1, f1, ks1, hv1, q1⟩ := R1.sl i _ hs0
      rw [ev] at ea
      cases ea
      refine ⟨a, rfl, .inl ⟨ks1, .inl hv1⟩, Fr, FX, G1, ρ0, r1, ρ1, R1, h1, fun y G2 H2 s2 R2 v2 => ?_⟩
      refine ⟨Fr, FX, G2, ρ1, .sh d0, ρ', R2, h3, fun z G3 H3 s3 R3 v3 => ?_⟩
      obtain ⟨a', ea', g3, f3, ks3, hv3, q3⟩ := R3.sl i _ hs
      rw [ev] at ea'
      cases ea'
      obtain ⟨k', rfl⟩ := isKey_of hk
      have hy := vd_key (dat_vd R2 v2 h2)
      subst hy
      refine ⟨valV ks3 k', DGet.k hv3, ?_⟩
      rcases dkv_get (k := k') q3 with ⟨d, v, e1, e2, e3⟩ | ⟨e1, e2⟩
      · rw [e2]
        rw [e1] at k
        exact k v G3 H3 ((s1.trans s2).trans s3) R3 e3
      · rw [e2]
        rw [e1] at k
        exact k z G3 H3 ((s1.trans s2).trans s3) R3 v3
end
end DL

set_option Elab.async false
set_option linter.all false
set_option autoImplicit false
set_option maxRecDepth 100000
set_option maxHeartbeats 1000000
namespace DL
open PySem PySem.Spec PyProof.Rows L2
/-! ### xs.index(x), xs a list known as data; xs.pop() -/
def idxN (ds : List Dv) (d : Dv) : Option Nat := if SeqAt.shaped (.list ds) = true ∧ SeqAt.shaped d = true then ds.findIdx? (fun z => PyData.eqv z d) else none
def eIdx (fo : M) (ga : MA) : M := fun ρ => (fo ρ).bind fun x => (ga x.2).bind fun y => match x.1, y.1 with
  | .sh (.list ds), [.sh d] => (idxN ds d).map fun j => (.sh (.int (j : Nat)), y.2)
  | _, _ => none
section
variable {X : Cx} {ix : List Nat} {fo : M} {ga : MA}
theorem idx_ok {σ : L2.St} {H : Hp} {Q : VK} (h : TE' X.K ix (eIdx fo ga) σ H Q) : tBM X.K "list" (rIndexD X.K) (TE' X.K ix fo) (TA' X.K ix ga) σ H Q := by
  obtain ⟨Fr, FX, G, ρ, r, ρ', R, hf, k⟩ := h
  unfold eIdx at hf
  obtain ⟨⟨r0, ρ0⟩, h0, hf⟩ := Option.bind_eq_some_iff.mp hf
  obtain ⟨⟨rs, ρ1⟩, h1, hf⟩ := Option.bind_eq_some_iff.mp hf
  simp only at hf h1
  split at hf
  rotate_left
  · cases hf
  rename_i _ ds d _
  obtain ⟨j, hj, hf⟩ := Option.map_eq_some_iff.mp hf
  cases hf
  unfold idxN at hj
  split at hj
  rotate_left
  · cases hj
  rename_i hc
  obtain ⟨z, hz, hzj, hno⟩ : ∃ z, ds[j]? = some z ∧ PyData.eqv z d = true ∧ ∀ (m : Nat) (z' : PyData), m < j → ds[m]? = some z' → PyData.eqv z' d = false := by
    obtain ⟨hl, h2, h3⟩ := List.findIdx?_eq_some_iff_getElem.mp hj
    refine ⟨ds[j], List.getElem?_eq_getElem hl, h2, fun m z' hm hz => ?_⟩
    have := h3 m hm
    obtain ⟨hm2, rfl⟩ := List.getElem?_eq_some_iff.mp hz
    simpa using this
  refine ⟨Fr, FX, G, ρ, _, ρ0, R, h0, fun v G1 H1 s1 R1 v1 => ?_⟩
  have v1 : Dp X.K G1 v (.list ds) := v1
  have v1' := dp_mono (sub_le R1.gh) _ _ v1
  have ty : tyV X.K "list" v H1 := by
    cases v1' with
    | lst hs ha => exact .inl ⟨rfl, _, hs⟩
  refine ⟨ty, Fr, FX, G1, ρ0, [.sh d], _, R1, h1, fun vs G2 H2 s2 R2 v2 => ?_⟩
  have qa := shs_dp v2 (show shs [.sh d] = some [d] from rfl)
  cases qa with
  | cons q1 q2 =>
    cases q2
    have w1 := dp_mono (s2.trans (sub_le R2.gh)) _ _ v1
    have w2 := dp_mono (sub_le R2.gh) _ _ q1
    cases w1 with
    | lst hs ha => exact ⟨_, _, d, ds, j, z, rfl, rfl, .lst hs ha, w2, hc.1, hc.2, hz, hzj, hno, k _ G2 H2 (s1.trans s2) R2 (.int _)⟩
theorem de_idx {o e : Expr} {apos cpos : Pos} (hu : X.A.units + 65 < cLine) (ho : PE X o (TE' X.K ix fo)) (ha : PA X [e] (TA' X.K ix ga)) (hbase : attributeBase o "index" X.env (eval o X.env) = eval o X.env := by rfl)
    (hfew : ((backTo cpos (starEach [e] X.env)).all (fun x => !x.1) && (backToKw cpos (keywordEach [] X.env)).all (fun x => x.1.isSome) && decide ([e].length + ([] : List Keyword).length + (if ([] : List Keyword).isEmpty then 0 else 1) < 30)) = true := by rfl)
    (hline : (apos.endLine == cpos.line) = true := by rfl) (hs : starEach [e] X.env = (false, eval e X.env) :: starEach [] X.env := by rfl) (hplain : (backTo cpos (starEach [] X.env)).any (·.1) = false := by rfl) :
    PE X (.Call (.Attribute o "index" apos) [e] [] cpos) (TE' X.K ix (eIdx fo ga)) :=
  pe_imp (pe_bm PySem.F.plainAttrs_list PySem.F.slot_list_index PySem.F.type_list_index (mt_indexD hu) ho ha hbase hfew hline hs hplain) fun _ _ _ h => idx_ok h
theorem de_pop {o : Expr} {apos cpos : Pos} (ho : PE X o (TE' X.K ix fo)) (hbase : attributeBase o "pop" X.env (eval o X.env) = eval o X.env := by rfl) (hline : (apos.endLine == cpos.line) = true := by rfl) :
    PE X (.Call (.Attribute o "pop" apos) [] [] cpos) (TE' X.K ix (mutM "list" popG fo aNil)) :=
  de_mt0 PySem.F.plainAttrs_list PySem.F.slot_list_pop PySem.F.type_list_pop pop_m ho hbase hline
end
end DL

set_option Elab.async false
set_option linter.all false
set_option autoImplicit false
set_option maxRecDepth 100000
set_option maxHeartbeats 1000000
/-! TL: plain typed functions over the readings of DL. A typed function gives `none` where its reading may not be said to end; where it gives something, the reading gives that. -/
namespace DL
open PySem PySem.Spec PyProof.Rows L2
/-! ### data of types -/
def eI : Int → Dv := PyData.int
def eB : Bool → Dv := PyData.bool
def eS : Str → Dv := PyData.str
def eA : Dv → Dv := fun d => d
def eN : Unit → Dv := fun _ => .none
section
variable {α β γ δ ε : Type}
def eT (e : α → Dv) : List α → Dv := fun xs => .tuple (xs.map e)
def eL (e : α → Dv) : List α → Dv := fun xs => .list (xs.map e)
def e2 (a : α → Dv) (b : β → Dv) : α × β → Dv := fun x => .tuple [a x.1, b x.2]
def e3 (a : α → Dv) (b : β → Dv) (c : γ → Dv) : α × β × γ → Dv := fun x => .tuple [a x.1, b x.2.1, c x.2.2]
def e4 (a : α → Dv) (b : β → Dv) (c : γ → Dv) (d : δ → Dv) : α × β × γ × δ → Dv := fun x => .tuple [a x.1, b x.2.1, c x.2.2.1, d x.2.2.2]
def eO (e : α → Dv) : Option α → Dv
  | none => .none
  | some a => e a
end
/-! ### inversion -/
theorem bnd {α β : Type} {x : Option α} {f : α → Option β} {r : β} (h : x.bind f = some r) : ∃ v, x = some v ∧ f v = some r := Option.bind_eq_some_iff.mp h
theorem ite_inv {α : Type} {c : Bool} {x y : Option α} {r : α} (h : (if c = true then x else y) = some r) : (c = true ∧ x = some r) ∨ (c = false ∧ y = some r) := by
  cases c
  · exact .inr ⟨rfl, h⟩
  · exact .inl ⟨rfl, h⟩
/-! ### blocks -/
def Wp (x : Option Fl) (Q : Fl → Prop) : Prop := ∃ fl, x = some fl ∧ Q fl
def QS (h : MS) (Q : Fl → Prop) : Fl → Prop := fun fl => match fl with
  | .nx ρ => Wp (h ρ) Q
  | .rt r ρ => Q (.rt r ρ)
  | .bk ρ => Q (.bk ρ)
  | .ct ρ => Q (.ct ρ)
section
variable {g h s : MS} {ρ ρ1 : Rho} {Q Q' : Fl → Prop} {f : M} {t : MB} {d : Dv}
theorem wp_mono (a : Wp (s ρ) Q') (k : ∀ fl, Q' fl → Q fl) : Wp (s ρ) Q := let ⟨fl, e, q⟩ := a; ⟨fl, e, k fl q⟩
theorem wp_seqW (a : Wp (g ρ) (QS h Q)) : Wp (sSeq g h ρ) Q := by
  obtain ⟨fl, e, q⟩ := a
  unfold sSeq
  rw [e]
  cases fl with
  | nx ρ => exact q
  | rt r ρ => exact ⟨_, rfl, q⟩
  | bk ρ => exact ⟨_, rfl, q⟩
  | ct ρ => exact ⟨_, rfl, q⟩
theorem wp_seq (a : g ρ = some (.nx ρ1)) (k : Wp (h ρ1) Q) : Wp (sSeq g h ρ) Q := wp_seqW ⟨_, a, k⟩
theorem wp_st (a : s ρ = some (.nx ρ1)) (q : Q (.nx ρ1)) : Wp (s ρ) Q := ⟨_, a, q⟩
theorem wp_nil (q : Q (.nx ρ)) : Wp (sNil ρ) Q := ⟨_, rfl, q⟩
theorem wp_brk (q : Q (.bk ρ)) : Wp (sBreak ρ) Q := ⟨_, rfl, q⟩
theorem wp_ct (q : Q (.ct ρ)) : Wp (sCont ρ) Q := ⟨_, rfl, q⟩
theorem wp_if_t {b : Bool} (a : t ρ = some (b, ρ1)) (hb : b = true) (k : Wp (g ρ1) Q) : Wp (sIf t g h ρ) Q := by
  unfold sIf
  rw [a, hb]
  exact k
theorem wp_if_f {b : Bool} (a : t ρ = some (b, ρ1)) (hb : b = false) (k : Wp (h ρ1) Q) : Wp (sIf t g h ρ) Q := by
  unfold sIf
  rw [a, hb]
  exact k
theorem wp_ret {ix : List Nat} (a : f ρ = some (.sh d, ρ1)) (q : Q (.rt (.sh d) ρ1)) : Wp (sRet ix f ρ) Q := by
  refine ⟨_, ?_, q⟩
  unfold sRet
  rw [a]
  rfl
theorem wp_retO {ix : List Nat} {o : Ob} (a : f ρ = some (.ow o, ρ1)) (q : Q (.rt (.ow o) ρ1)) : Wp (sRet ix f ρ) Q := by
  refine ⟨_, ?_, q⟩
  unfold sRet
  rw [a]
  rfl
theorem wp_retN {ix : List Nat} (q : Q (.rt (.sh .none) ρ)) : Wp (sRetN ρ) Q := ⟨_, rfl, q⟩
/-- an owned list of a slot is given back -/
theorem wp_retA {ix : List Nat} {i : Nat} {o : Ob} (a : f ρ = some (.al i, ρ1)) (e : ρ1[i]? = some (.ow o)) (hx : ix.contains i = false) (q : Q (.rt (.ow o) (ρ1.set i .no))) : Wp (sRet ix f ρ) Q := by
  refine ⟨_, ?_, q⟩
  unfold sRet
  rw [a]
  simp only [Option.bind_some, e]
  cases o with
  | lst ds => exact (if_neg (by rw [hx]; decide)).trans rfl
  | dct ds => rfl
  | dtn ds => rfl
/-! what a def gives back -/
def Rt (as : List Sl) (ix : List Nat) (rv : Rv) (as' : List Sl) : Fl → Prop := fun fl => match fl with
  | .nx ρ => rv = .sh .none ∧ outA 0 ix as ρ = as'
  | .rt r ρ => r = rv ∧ outA 0 ix as ρ = as'
  | _ => False
theorem run_wp {np N : Nat} {ix : List Nat} {g : MS} {as as' : List Sl} {rv : Rv} (h0 : okA 0 ix as = true) (hr : ∀ i, rv ≠ .al i) (h : Wp (g (as ++ List.replicate (N - np) .no)) (Rt as ix rv as')) : runF np N ix g as = some (rv, as') := by
  obtain ⟨fl, e, q⟩ := h
  refine runF_eq h0 e ?_
  cases fl with
  | nx ρ =>
    obtain ⟨rfl, rfl⟩ := q
    rfl
  | rt r ρ =>
    obtain ⟨rfl, rfl⟩ := q
    cases r with
    | al i => exact absurd rfl (hr i)
    | fd d => rfl
    | sh d => rfl
    | ow o => rfl
  | bk ρ => exact False.elim q
  | ct ρ => exact False.elim q
end
/-! ### values -/
section
variable {fa fb fc f : M} {ρ ρ1 ρ2 ρ3 : Rho} {a b c d z : Dv} {r r1 r2 : Rv} {o : Ob}
theorem ec (d : Dv) (ρ : Rho) : eC d ρ = some (.sh d, ρ) := rfl
theorem ev {i : Nat} (h : ρ[i]? = some (.sh d)) : eVar i ρ = some (.sh d, ρ) := by
  unfold eVar
  rw [h]
theorem eva {i : Nat} (h : ρ[i]? = some (.ow o)) : eVar i ρ = some (.al i, ρ) := by
  unfold eVar
  rw [h]
theorem pk_al {i : Nat} (h : f ρ = some (.al i, ρ1)) : pkM f ρ = some (.al i, ρ1) := by
  unfold pkM
  rw [h]
  rfl
theorem pk_s (h : f ρ = some (.sh d, ρ1)) : pkM f ρ = some (.sh d, ρ1) := by
  unfold pkM
  rw [h]
  rfl
theorem pk_o {ds : List Dv} (h : f ρ = some (.ow (.lst ds), ρ1)) : pkM f ρ = some (.sh (.list ds), ρ1) := by
  unfold pkM
  rw [h]
  rfl
theorem pk_d {ds : List (Dv × Dv)} (h : f ρ = some (.ow (.dct ds), ρ1)) : pkM f ρ = some (.ow (.dct ds), ρ1) := by
  unfold pkM
  rw [h]
  rfl
theorem pk_n {ds : List (Dv × Dv)} (h : f ρ = some (.ow (.dtn ds), ρ1)) : pkM f ρ = some (.ow (.dtn ds), ρ1) := by
  unfold pkM
  rw [h]
  rfl
theorem fr_s (h : f ρ = some (.sh d, ρ1)) : frM f ρ = some (.sh d, ρ1) := by
  unfold frM
  rw [h]
  rfl
theorem fr_o {ds : List Dv} (h : f ρ = some (.ow (.lst ds), ρ1)) : frM f ρ = some (.sh (.list ds), ρ1) := by
  unfold frM
  rw [h]
  rfl
theorem fr_al {ds : List Dv} {i : Nat} (h : f ρ = some (.al i, ρ1)) (e : ρ1[i]? = some (.ow (.lst ds))) : frM f ρ = some (.sh (.list ds), ρ1.set i (.sh (.list ds))) := by
  unfold frM
  rw [h]
  simp [e]
theorem cp_s (h : f ρ = some (.sh d, ρ1)) : cpM f ρ = some (.sh d, ρ1) := by
  unfold cpM
  rw [h]
  rfl
theorem cp_o (h : f ρ = some (.ow o, ρ1)) : cpM f ρ = some (.ow o, ρ1) := by
  unfold cpM
  rw [h]
  rfl
theorem cp_al {ds : List Dv} {i : Nat} (h : f ρ = some (.al i, ρ1)) (e : ρ1[i]? = some (.ow (.lst ds))) : cpM f ρ = some (.sh (.list ds), ρ1.set i (.sh (.list ds))) := by
  unfold cpM
  rw [h]
  simp [e]
theorem cp_ald {ds : List (Dv × Dv)} {i : Nat} (h : f ρ = some (.al i, ρ1)) (e : ρ1[i]? = some (.ow (.dct ds))) : cpM f ρ = some (.ow (.dct ds), ρ1.set i .no) := by
  unfold cpM
  rw [h]
  simp [e]
theorem cp_aln {ds : List (Dv × Dv)} {i : Nat} (h : f ρ = some (.al i, ρ1)) (e : ρ1[i]? = some (.ow (.dtn ds))) : cpM f ρ = some (.ow (.dtn ds), ρ1.set i .no) := by
  unfold cpM
  rw [h]
  simp [e]
/-! two operands -/
theorem bin_g {g : Dv → Dv → Option Rz} {z : Rz} (ha : pkM fa ρ = some (r1, ρ1)) (hb : pkM fb ρ1 = some (r2, ρ2)) (h1 : dat ρ2 r1 = some a) (h2 : dat ρ2 r2 = some b) (hg : g a b = some z) : binS g fa fb ρ = some (z.rv, ρ2) := by
  unfold binS
  rw [ha]
  simp only [Option.bind_some]
  rw [hb]
  simp only [Option.bind_some]
  rw [h1]
  simp only [Option.bind_some]
  rw [h2]
  simp only [Option.bind_some]
  rw [hg]
  rfl
theorem bin_s {g : Dv → Dv → Option Rz} (ha : fa ρ = some (.sh a, ρ1)) (hb : fb ρ1 = some (.sh b, ρ2)) (hg : g a b = some (.sh z)) : binS g fa fb ρ = some (.sh z, ρ2) := bin_g (pk_s ha) (pk_s hb) rfl rfl hg
theorem bin_gs {g : Dv → Dv → Option Rz} (ha : pkM fa ρ = some (r1, ρ1)) (hb : pkM fb ρ1 = some (r2, ρ2)) (h1 : dat ρ2 r1 = some a) (h2 : dat ρ2 r2 = some b) (hg : g a b = some (.sh z)) : binS g fa fb ρ = some (.sh z, ρ2) := bin_g ha hb h1 h2 hg
theorem bin_go {g : Dv → Dv → Option Rz} (ha : pkM fa ρ = some (r1, ρ1)) (hb : pkM fb ρ1 = some (r2, ρ2)) (h1 : dat ρ2 r1 = some a) (h2 : dat ρ2 r2 = some b) (hg : g a b = some (.ow o)) : binS g fa fb ρ = some (.ow o, ρ2) := bin_g ha hb h1 h2 hg
theorem un_gs {g : Dv → Option Rz} (ha : fa ρ = some (r1, ρ1)) (h1 : dat ρ1 r1 = some a) (hg : g a = some (.sh z)) : unS g fa ρ = some (.sh z, ρ1) := by
  unfold unS
  rw [ha]
  simp only [Option.bind_some]
  rw [h1]
  simp only [Option.bind_some]
  rw [hg]
  rfl
theorem un_go {g : Dv → Option Rz} (ha : fa ρ = some (r1, ρ1)) (h1 : dat ρ1 r1 = some a) (hg : g a = some (.ow o)) : unS g fa ρ = some (.ow o, ρ1) := by
  unfold unS
  rw [ha]
  simp only [Option.bind_some]
  rw [h1]
  simp only [Option.bind_some]
  rw [hg]
  rfl
/-! arguments -/
theorem an_ (ρ : Rho) : aNil ρ = some ([], ρ) := rfl
theorem ac_ {g : MA} {rs : List Rv} (ha : f ρ = some (r, ρ1)) (hb : g ρ1 = some (rs, ρ2)) : aCons f g ρ = some (r :: rs, ρ2) := by
  unfold aCons
  rw [ha]
  simp only [Option.bind_some]
  rw [hb]
  rfl
theorem call_s {g : List Dv → Option Rz} {ga : MA} {rs : List Rv} {ds : List Dv} (h1 : ga ρ = some (rs, ρ1)) (h2 : dats ρ1 rs = some ds) (h3 : g ds = some (.sh z)) : eCall g ga ρ = some (.sh z, ρ1) := by
  unfold eCall
  rw [h1]
  simp only [Option.bind_some]
  rw [h2]
  simp only [Option.bind_some]
  rw [h3]
  rfl
theorem call_o {g : List Dv → Option Rz} {ga : MA} {rs : List Rv} {ds : List Dv} (h1 : ga ρ = some (rs, ρ1)) (h2 : dats ρ1 rs = some ds) (h3 : g ds = some (.ow o)) : eCall g ga ρ = some (.ow o, ρ1) := by
  unfold eCall
  rw [h1]
  simp only [Option.bind_some]
  rw [h2]
  simp only [Option.bind_some]
  rw [h3]
  rfl
theorem fn_s {F : FnS} {ga : MA} {rs : List Rv} {as as' : List Sl} (h1 : ga ρ = some (rs, ρ1)) (h2 : toSls ρ1 rs = some as) (h3 : alsOk rs = true) (h4 : F as = some (.sh z, as')) (h5 : wback ρ1 rs as' = ρ2) : eFn F ga ρ = some (.sh z, ρ2) := by
  unfold eFn
  rw [h1]
  simp only [Option.bind_some]
  rw [h2]
  simp only [Option.bind_some]
  rw [if_pos h3, h4, ← h5]
  rfl
theorem fn_o {F : FnS} {ga : MA} {rs : List Rv} {as as' : List Sl} (h1 : ga ρ = some (rs, ρ1)) (h2 : toSls ρ1 rs = some as) (h3 : alsOk rs = true) (h4 : F as = some (.ow o, as')) (h5 : wback ρ1 rs as' = ρ2) : eFn F ga ρ = some (.ow o, ρ2) := by
  unfold eFn
  rw [h1]
  simp only [Option.bind_some]
  rw [h2]
  simp only [Option.bind_some]
  rw [if_pos h3, h4, ← h5]
  rfl
theorem tup_ {g : MA} {rs : List Rv} {ds : List Dv} (h : g ρ = some (rs, ρ1)) (e : shs rs = some ds) (hl : ds.length ≤ sizeLine) : eTup g ρ = some (.sh (.tuple ds), ρ1) := by
  unfold eTup
  rw [h]
  simp only [Option.bind_some]
  rw [e]
  simp only [Option.bind_some]
  rw [if_pos hl]
theorem lst_ {g : MA} {rs : List Rv} {ds : List Dv} (h : g ρ = some (rs, ρ1)) (e : shs rs = some ds) (hl : ds.length ≤ sizeLine) : eLst g ρ = some (.ow (.lst ds), ρ1) := by
  unfold eLst
  rw [h]
  simp only [Option.bind_some]
  rw [e]
  simp only [Option.bind_some]
  rw [if_pos hl]
theorem few {α : Type} {ds : List α} (h : ds.length ≤ 100000 := by simp) : ds.length ≤ sizeLine := Nat.le_trans h szl_big
/-! tests -/
variable {t u : MB} {k k' : Bool}
theorem tb_ (h : f ρ = some (.sh (.bool k), ρ1)) : tB f ρ = some (k, ρ1) := by
  unfold tB
  rw [h]
  rfl
theorem tv_ (h : pkM f ρ = some (r, ρ1)) (h1 : dat ρ1 r = some d) (h2 : truD d = some k) : tV f ρ = some (k, ρ1) := by
  unfold tV
  rw [h]
  simp only [Option.bind_some]
  rw [h1]
  simp only [Option.bind_some]
  rw [h2]
  rfl
theorem tno_ (h : t ρ = some (k, ρ1)) : tNo t ρ = some (!k, ρ1) := by
  unfold tNo
  rw [h]
  rfl
theorem tan_ (h : t ρ = some (k, ρ)) (h2 : u ρ = some (k', ρ)) : tAn t u ρ = some (k && k', ρ) := by
  unfold tAn
  rw [h]
  cases k
  · rfl
  · exact h2
theorem tor_ (h : t ρ = some (k, ρ)) (h2 : u ρ = some (k', ρ)) : tOr' t u ρ = some (k || k', ρ) := by
  unfold tOr'
  rw [h]
  cases k
  · exact h2
  · rfl
theorem tan_t (h : t ρ = some (k, ρ1)) (e : k = true) (h2 : u ρ1 = some (k', ρ2)) : tAn t u ρ = some (k', ρ2) := by
  subst e
  unfold tAn
  rw [h]
  exact h2
theorem tan_f (h : t ρ = some (k, ρ1)) (e : k = false) : tAn t u ρ = some (false, ρ1) := by
  subst e
  unfold tAn
  rw [h]
  rfl
theorem tor_f (h : t ρ = some (k, ρ1)) (e : k = false) (h2 : u ρ1 = some (k', ρ2)) : tOr' t u ρ = some (k', ρ2) := by
  subst e
  unfold tOr'
  rw [h]
  exact h2
theorem tor_t (h : t ρ = some (k, ρ1)) (e : k = true) : tOr' t u ρ = some (true, ρ1) := by
  subst e
  unfold tOr'
  rw [h]
  rfl
theorem eif_t (h : t ρ = some (k, ρ1)) (e : k = true) (h2 : fa ρ1 = some (r, ρ2)) : eIf t fa fb ρ = some (r, ρ2) := by
  subst e
  unfold eIf
  rw [h]
  exact h2
theorem eif_f (h : t ρ = some (k, ρ1)) (e : k = false) (h2 : fb ρ1 = some (r, ρ2)) : eIf t fa fb ρ = some (r, ρ2) := by
  subst e
  unfold eIf
  rw [h]
  exact h2
theorem eif_ {x y : Dv} (h : t ρ = some (k, ρ)) (h1 : fa ρ = some (.sh x, ρ)) (h2 : fb ρ = some (.sh y, ρ)) : eIf t fa fb ρ = some (.sh (if k = true then x else y), ρ) := by
  cases k
  · exact eif_f h rfl h2
  · exact eif_t h rfl h1
theorem enot_ (h : pkM f ρ = some (r, ρ1)) (h1 : dat ρ1 r = some d) (h2 : truD d = some k) : eNot f ρ = some (.sh (.bool (!k)), ρ1) := by
  unfold eNot
  rw [tv_ h h1 h2]
  rfl
theorem eand_t (h : pkM fa ρ = some (r1, ρ1)) (h1 : dat ρ1 r1 = some d) (h2 : truD d = some k) (e : k = true) (h3 : fb ρ1 = some (r, ρ2)) : eAnd fa fb ρ = some (r, ρ2) := by
  subst e
  unfold eAnd
  rw [h]
  simp only [Option.bind_some]
  rw [h1]
  simp only [Option.bind_some]
  rw [h2]
  exact h3
theorem eand_f (h : pkM fa ρ = some (r1, ρ1)) (h1 : dat ρ1 r1 = some d) (h2 : truD d = some k) (e : k = false) : eAnd fa fb ρ = some (r1, ρ1) := by
  subst e
  unfold eAnd
  rw [h]
  simp only [Option.bind_some]
  rw [h1]
  simp only [Option.bind_some]
  rw [h2]
  rfl
theorem eor_f (h : pkM fa ρ = some (r1, ρ1)) (h1 : dat ρ1 r1 = some d) (h2 : truD d = some k) (e : k = false) (h3 : fb ρ1 = some (r, ρ2)) : eOr fa fb ρ = some (r, ρ2) := by
  subst e
  unfold eOr
  rw [h]
  simp only [Option.bind_some]
  rw [h1]
  simp only [Option.bind_some]
  rw [h2]
  exact h3
theorem eor_t (h : pkM fa ρ = some (r1, ρ1)) (h1 : dat ρ1 r1 = some d) (h2 : truD d = some k) (e : k = true) : eOr fa fb ρ = some (r1, ρ1) := by
  subst e
  unfold eOr
  rw [h]
  simp only [Option.bind_some]
  rw [h1]
  simp only [Option.bind_some]
  rw [h2]
  rfl
theorem eand_b {x y : Bool} (h : fa ρ = some (.sh (.bool x), ρ)) (h3 : fb ρ = some (.sh (.bool y), ρ)) : eAnd fa fb ρ = some (.sh (.bool (x && y)), ρ) := by
  cases x
  · exact eand_f (pk_s h) rfl rfl rfl
  · exact eand_t (pk_s h) rfl rfl rfl h3
theorem eor_b {x y : Bool} (h : fa ρ = some (.sh (.bool x), ρ)) (h3 : fb ρ = some (.sh (.bool y), ρ)) : eOr fa fb ρ = some (.sh (.bool (x || y)), ρ) := by
  cases x
  · exact eor_f (pk_s h) rfl rfl rfl h3
  · exact eor_t (pk_s h) rfl rfl rfl
/-! statements -/
theorem set_s {i : Nat} (h : f ρ = some (.sh d, ρ1)) : sSet i f ρ = some (.nx (ρ1.set i (.sh d))) := by
  unfold sSet
  rw [h]
  rfl
theorem set_o {i : Nat} (h : f ρ = some (.ow o, ρ1)) : sSet i f ρ = some (.nx (ρ1.set i (.ow o))) := by
  unfold sSet
  rw [h]
  rfl
theorem asg_ {m : MT} (h : frM f ρ = some (.sh d, ρ1)) (h2 : m d ρ1 = some ρ2) : sAsg f m ρ = some (.nx ρ2) := by
  unfold sAsg
  rw [h]
  simp only [Option.bind_some]
  rw [h2]
  rfl
theorem expr_ (h : f ρ = some (r, ρ1)) : sExpr f ρ = some (.nx ρ1) := by
  unfold sExpr
  rw [h]
  rfl
theorem par_ {i j : Nat} {ga : MA} (h : ga ρ = some ([r1, r2], ρ1)) (h1 : setR ρ1 i r1 = some ρ2) (h2 : setR ρ2 j r2 = some ρ3) : sPar i j ga ρ = some (.nx ρ3) := by
  unfold sPar
  rw [h]
  simp only [Option.bind_some]
  rw [h1]
  simp only [Option.bind_some]
  rw [h2]
  rfl
theorem par3_ {i j l : Nat} {ga : MA} (h : ga ρ = some ([.sh a, .sh b, .sh c], ρ1)) : sPar3 i j l ga ρ = some (.nx (((ρ1.set i (.sh a)).set j (.sh b)).set l (.sh c))) := by
  unfold sPar3
  rw [h]
  rfl
theorem aug_ {i : Nat} {g : Dv → Dv → Option Rz} (h0 : ρ[i]? = some (.sh a)) (h : pkM f ρ = some (r, ρ1)) (h1 : dat ρ1 r = some b) (h2 : g a b = some (.sh z)) : sAug i g f ρ = some (.nx (ρ1.set i (.sh z))) := by
  unfold sAug
  rw [h0]
  simp only [h, Option.bind_some, h1, h2]
/-! o[k] op= v -/
theorem augS_ {g : Dv → Dv → Option Rz} {fo fi fe : M} {j : Nat} {ri re : Rv} {k d0 d1 : Dv} {ob ob' : Ob} (ho : fo ρ = some (.al j, ρ)) (hi : pkM fi ρ = some (ri, ρ)) (hk : dat ρ ri = some k) (hkk : (isKey k || okT k) = true) (hj : ρ[j]? = some (.ow ob)) (hg : getOb ob k = some d0)
    (he : pkM fe ρ = some (re, ρ1)) (h1 : dat ρ1 re = some d1) (h2 : g d0 d1 = some (.sh d)) (hj1 : ρ1[j]? = some (.ow ob)) (h3 : setOb ob k d = some ob') : sAugS g fo fi fe ρ = some (.nx (ρ1.set j (.ow ob'))) := by
  unfold sAugS
  rw [ho]
  simp only [Option.bind_some]
  rw [hi]
  simp only [Option.bind_some]
  rw [hk]
  simp only [Option.bind_some]
  rw [if_pos hkk, hj]
  simp only
  rw [hg]
  simp only [Option.bind_some]
  rw [he]
  simp only [Option.bind_some]
  rw [h1]
  simp only [Option.bind_some]
  rw [h2]
  simp only [Option.bind_some]
  rw [hj1]
  simp only
  rw [h3]
  rfl
/-! o[k] = v, as a target -/
theorem tsub_ {fo fi : M} {j : Nat} {ri : Rv} {k : Dv} {ob ob' : Ob} (ho : fo ρ = some (.al j, ρ)) (hi : pkM fi ρ = some (ri, ρ1)) (hk : dat ρ1 ri = some k) (hj : ρ1[j]? = some (.ow ob)) (h3 : setOb ob k d = some ob') : tSub fo fi d ρ = some (ρ1.set j (.ow ob')) := by
  unfold tSub
  rw [ho]
  simp only [Option.bind_some]
  rw [hi]
  simp only [Option.bind_some]
  rw [hk]
  simp only [Option.bind_some]
  rw [hj]
  simp only
  rw [h3]
  rfl
theorem app_ {fo : M} {ga : MA} {j : Nat} {xs : List Dv} (ho : fo ρ = some (.al j, ρ)) (hi : isOb "list" ρ[j]? = true) (ha : ga ρ = some ([.sh d], ρ1)) (hj : ρ1[j]? = some (.ow (.lst xs))) (hl : xs.length < sizeLine) : mutM "list" appG fo ga ρ = some (.sh .none, ρ1.set j (.ow (.lst (xs ++ [d])))) := by
  unfold mutM
  rw [ho]
  simp only [Option.bind_some]
  rw [if_pos hi, ha]
  simp only [Option.bind_some, shs, Option.map_some]
  rw [hj]
  simp only [appG]
  rw [if_pos hl]
  rfl
end
end DL

set_option Elab.async false
set_option linter.all false
set_option autoImplicit false
set_option maxRecDepth 100000
set_option maxHeartbeats 1000000
namespace DL
open PySem PySem.Spec PyProof.Rows L2
section
variable {α β γ σ τ r : Type}
/-! ### loops and comprehensions of typed functions -/
inductive Fo (σ r : Type) where
  | nx (s : σ) | bk (s : σ) | rt (x : r)
def mapO (f : α → Option β) : List α → Option (List β)
  | [] => some []
  | x :: xs => (f x).bind fun y => (mapO f xs).bind fun ys => some (y :: ys)
def lcO (f : α → Option (Option β)) : List α → Option (List β)
  | [] => some []
  | x :: xs => (f x).bind fun y => (lcO f xs).bind fun ys => some (match y with | none => ys | some y => y :: ys)
def lcwO (f : α → σ → Option (Option β × σ)) : List α → σ → Option (List β × σ)
  | [], s => some ([], s)
  | x :: xs, s => (f x s).bind fun y => (lcwO f xs y.2).bind fun ys => some (match y.1 with | none => ys | some y => (y :: ys.1, ys.2))
def catO (f : α → Option (List β)) : List α → Option (List β)
  | [] => some []
  | x :: xs => (f x).bind fun y => (catO f xs).bind fun ys => some (y ++ ys)
def szO (x : Option (List β)) : Option (List β) := x.bind fun ys => if ys.length ≤ sizeLine then some ys else none
def szwO (x : Option (List β × σ)) : Option (List β × σ) := x.bind fun ys => if ys.1.length ≤ sizeLine then some ys else none
def foldO (f : α → σ → Option σ) : List α → σ → Option σ
  | [], s => some s
  | x :: xs, s => (f x s).bind fun s1 => foldO f xs s1
def forO (f : α → σ → Option (Fo σ r)) : List α → σ → Option (Fo σ r)
  | [], s => some (.nx s)
  | x :: xs, s => (f x s).bind fun o => match o with
    | .nx s1 => forO f xs s1
    | .bk s1 => some (.nx s1)
    | .rt y => some (.rt y)
def forB (f : α → σ → Option (Fo σ r)) (xs : List α) (s : σ) (k : σ → Option τ) (kr : r → Option τ) : Option τ := (forO f xs s).bind fun o => match o with
  | .nx s => k s
  | .bk s => k s
  | .rt x => kr x
def whileO (c : σ → Option Bool) (f : σ → Option (Fo σ r)) : Nat → σ → Option (Fo σ r)
  | 0, _ => none
  | n + 1, s => (c s).bind fun b => if b = true then (f s).bind fun o => (match o with
    | .nx s1 => whileO c f n s1
    | .bk s1 => some (.nx s1)
    | .rt y => some (.rt y)) else some (.nx s)
def whileB (c : σ → Option Bool) (f : σ → Option (Fo σ r)) (n : Nat) (s : σ) (k : σ → Option τ) (kr : r → Option τ) : Option τ := (whileO c f n s).bind fun o => match o with
  | .nx s => k s
  | .bk s => k s
  | .rt x => kr x
theorem forO_nb {f : α → σ → Option (Fo σ r)} {s' : σ} : ∀ {xs : List α} {s : σ}, forO f xs s ≠ some (.bk s')
  | [], s => by simp [forO]
  | x :: xs, s => by
    unfold forO
    intro h
    obtain ⟨o, h1, h⟩ := bnd h
    cases o with
    | nx s1 => exact forO_nb h
    | bk s1 => cases h
    | rt y => cases h
/-! their readings -/
/-- what a loop's body ends with -/
def Pb (R : σ → Rho → Prop) (Qr : r → Fl → Prop) : Fo σ r → Fl → Prop
  | .nx s, fl => ∃ ρ, (fl = .nx ρ ∨ fl = .ct ρ) ∧ R s ρ
  | .bk s, fl => ∃ ρ, fl = .bk ρ ∧ R s ρ
  | .rt x, fl => ∃ rv ρ, fl = .rt rv ρ ∧ Qr x fl
theorem forS_o {t : MT} {b : MS} {e : α → Dv} {R : σ → Rho → Prop} {Qr : r → Fl → Prop} {f : α → σ → Option (Fo σ r)} : ∀ {xs : List α} {s : σ} {o : Fo σ r} {ρ : Rho},
    (∀ x s o ρ, x ∈ xs → R s ρ → f x s = some o → ∃ ρ2, t (e x) ρ = some ρ2 ∧ Wp (b ρ2) (Pb R Qr o)) → R s ρ → forO f xs s = some o →
    ∃ fl, forS t b (xs.map e) ρ = some fl ∧ (match o with | .nx s' => ∃ ρ', fl = .nx ρ' ∧ R s' ρ' | .bk _ => False | .rt x => ∃ rv ρ', fl = .rt rv ρ' ∧ Qr x fl)
  | [], s, o, ρ, _, h0, h => by
    simp only [forO, Option.some.injEq] at h
    subst h
    exact ⟨_, rfl, ρ, rfl, h0⟩
  | x :: xs, s, o, ρ, hb, h0, h => by
    unfold forO at h
    obtain ⟨o1, h1, h⟩ := bnd h
    obtain ⟨ρ2, e1, fl, e2, q⟩ := hb x s o1 ρ (List.mem_cons_self ..) h0 h1
    have hb' := fun y s o ρ (hy : y ∈ xs) => hb y s o ρ (List.mem_cons_of_mem _ hy)
    rw [List.map_cons]
    unfold forS
    rw [e1]
    simp only [Option.bind_some]
    rw [e2]
    cases o1 with
    | nx s1 =>
      obtain ⟨ρ3, rfl | rfl, hR⟩ := q
      · exact forS_o hb' hR h
      · exact forS_o hb' hR h
    | bk s1 =>
      obtain ⟨ρ3, rfl, hR⟩ := q
      cases h
      exact ⟨_, rfl, ρ3, rfl, hR⟩
    | rt y =>
      obtain ⟨rv, ρ3, rfl, hQ⟩ := q
      cases h
      exact ⟨_, rfl, rv, ρ3, rfl, hQ⟩
theorem wp_for {fi : ML} {t : MT} {b : MS} {xs : List α} {e : α → Dv} {R : σ → Rho → Prop} {Qr : r → Fl → Prop} {f : α → σ → Option (Fo σ r)} {s0 : σ} {k : σ → Option τ} {kr : r → Option τ} {v : τ} {ρ ρ1 : Rho} {Q : Fl → Prop}
    (hi : fi ρ = some (xs.map e, ρ1)) (h0 : R s0 ρ1) (hb : ∀ x s o ρ, x ∈ xs → R s ρ → f x s = some o → ∃ ρ2, t (e x) ρ = some ρ2 ∧ Wp (b ρ2) (Pb R Qr o)) (h : forB f xs s0 k kr = some v)
    (k1 : ∀ s ρ', R s ρ' → k s = some v → Q (.nx ρ')) (k2 : ∀ x rv ρ', kr x = some v → Qr x (.rt rv ρ') → Q (.rt rv ρ')) : Wp (sFor fi t b ρ) Q := by
  unfold forB at h
  obtain ⟨o, h1, h⟩ := bnd h
  obtain ⟨fl, e1, q⟩ := forS_o hb h0 h1
  unfold sFor
  rw [hi]
  refine ⟨fl, e1, ?_⟩
  cases o with
  | nx s =>
    obtain ⟨ρ', rfl, hR⟩ := q
    exact k1 s ρ' hR h
  | bk s => exact False.elim q
  | rt x =>
    obtain ⟨rv, ρ', rfl, hQ⟩ := q
    exact k2 x rv ρ' h hQ
theorem forS_f {t : MT} {b : MS} {e : α → Dv} {R : σ → Rho → Prop} {f : α → σ → Option σ} : ∀ {xs : List α} {s v : σ} {ρ : Rho},
    (∀ x s s' ρ, x ∈ xs → R s ρ → f x s = some s' → ∃ ρ2, t (e x) ρ = some ρ2 ∧ Wp (b ρ2) (fun fl => ∃ ρ', (fl = .nx ρ' ∨ fl = .ct ρ') ∧ R s' ρ')) → R s ρ → foldO f xs s = some v →
    ∃ ρ', forS t b (xs.map e) ρ = some (.nx ρ') ∧ R v ρ'
  | [], s, o, ρ, _, h0, h => by
    simp only [foldO, Option.some.injEq] at h
    subst h
    exact ⟨_, rfl, h0⟩
  | x :: xs, s, o, ρ, hb, h0, h => by
    unfold foldO at h
    obtain ⟨o1, h1, h⟩ := bnd h
    obtain ⟨ρ2, e1, fl, e2, ρ3, q, hR⟩ := hb x s o1 ρ (List.mem_cons_self ..) h0 h1
    have hb' := fun y s o ρ (hy : y ∈ xs) => hb y s o ρ (List.mem_cons_of_mem _ hy)
    rw [List.map_cons]
    unfold forS
    rw [e1]
    simp only [Option.bind_some]
    rw [e2]
    rcases q with rfl | rfl
    · exact forS_f hb' hR h
    · exact forS_f hb' hR h
theorem wp_fold {fi : ML} {t : MT} {b : MS} {xs : List α} {e : α → Dv} {R : σ → Rho → Prop} {f : α → σ → Option σ} {s0 : σ} {k : σ → Option τ} {v : τ} {ρ ρ1 : Rho} {Q : Fl → Prop}
    (hi : fi ρ = some (xs.map e, ρ1)) (h0 : R s0 ρ1) (hb : ∀ x s s' ρ, x ∈ xs → R s ρ → f x s = some s' → ∃ ρ2, t (e x) ρ = some ρ2 ∧ Wp (b ρ2) (fun fl => ∃ ρ', (fl = .nx ρ' ∨ fl = .ct ρ') ∧ R s' ρ')) (h : (foldO f xs s0).bind k = some v)
    (k1 : ∀ s ρ', R s ρ' → k s = some v → Q (.nx ρ')) : Wp (sFor fi t b ρ) Q := by
  obtain ⟨o, h1, h⟩ := bnd h
  obtain ⟨ρ', e1, q⟩ := forS_f hb h0 h1
  unfold sFor
  rw [hi]
  exact ⟨_, e1, k1 o ρ' q h⟩
theorem whileS_o {c : MB} {b : MS} {R : σ → Rho → Prop} {Qr : r → Fl → Prop} {cT : σ → Option Bool} {f : σ → Option (Fo σ r)} (hc : ∀ s ρ k, R s ρ → cT s = some k → ∃ ρ', c ρ = some (k, ρ') ∧ R s ρ')
    (hb : ∀ s o ρ, R s ρ → cT s = some true → f s = some o → Wp (b ρ) (Pb R Qr o)) : ∀ {n : Nat} {s : σ} {o : Fo σ r} {ρ : Rho}, R s ρ → whileO cT f n s = some o →
    ∃ fl, whileS c b n ρ = some fl ∧ (match o with | .nx s' => ∃ ρ', fl = .nx ρ' ∧ R s' ρ' | .bk _ => False | .rt x => ∃ rv ρ', fl = .rt rv ρ' ∧ Qr x fl)
  | 0, s, o, ρ, _, h => by cases h
  | n + 1, s, o, ρ, h0, h => by
    unfold whileO at h
    obtain ⟨k, h1, h⟩ := bnd h
    obtain ⟨ρ1, e1, R1⟩ := hc s ρ k h0 h1
    unfold whileS
    rw [e1]
    simp only [Option.bind_some]
    cases k with
    | false =>
      cases h
      exact ⟨_, rfl, ρ1, rfl, R1⟩
    | true =>
      simp only [if_true] at h ⊢
      obtain ⟨o1, h2, h⟩ := bnd h
      obtain ⟨fl, e2, q⟩ := hb s o1 ρ1 R1 h1 h2
      rw [e2]
      cases o1 with
      | nx s1 =>
        obtain ⟨ρ3, rfl | rfl, hR⟩ := q
        · exact whileS_o hc hb hR h
        · exact whileS_o hc hb hR h
      | bk s1 =>
        obtain ⟨ρ3, rfl, hR⟩ := q
        cases h
        exact ⟨_, rfl, ρ3, rfl, hR⟩
      | rt y =>
        obtain ⟨rv, ρ3, rfl, hQ⟩ := q
        cases h
        exact ⟨_, rfl, rv, ρ3, rfl, hQ⟩
theorem wp_while {c : MB} {b : MS} {R : σ → Rho → Prop} {Qr : r → Fl → Prop} {cT : σ → Option Bool} {f : σ → Option (Fo σ r)} {n : Nat} {s0 : σ} {k : σ → Option τ} {kr : r → Option τ} {v : τ} {ρ : Rho} {Q : Fl → Prop}
    (h0 : R s0 ρ) (hc : ∀ s ρ k, R s ρ → cT s = some k → ∃ ρ', c ρ = some (k, ρ') ∧ R s ρ') (hb : ∀ s o ρ, R s ρ → cT s = some true → f s = some o → Wp (b ρ) (Pb R Qr o)) (h : whileB cT f n s0 k kr = some v)
    (k1 : ∀ s ρ', R s ρ' → k s = some v → Q (.nx ρ')) (k2 : ∀ x rv ρ', kr x = some v → Qr x (.rt rv ρ') → Q (.rt rv ρ')) : Wp (whileS c b n ρ) Q := by
  unfold whileB at h
  obtain ⟨o, h1, h⟩ := bnd h
  obtain ⟨fl, e1, q⟩ := whileS_o hc hb h0 h1
  refine ⟨fl, e1, ?_⟩
  cases o with
  | nx s =>
    obtain ⟨ρ', rfl, hR⟩ := q
    exact k1 s ρ' hR h
  | bk s => exact False.elim q
  | rt x =>
    obtain ⟨rv, ρ', rfl, hQ⟩ := q
    exact k2 x rv ρ' h hQ
theorem wp_join {g : MS} {R : σ → Rho → Prop} {x : Option σ} {k : σ → Option τ} {v : τ} {ρ : Rho} {Q : Fl → Prop} (a : ∀ s, x = some s → Wp (g ρ) (fun fl => ∃ ρ', fl = .nx ρ' ∧ R s ρ')) (h : x.bind k = some v) (k1 : ∀ s ρ', R s ρ' → k s = some v → Q (.nx ρ')) : Wp (g ρ) Q := by
  obtain ⟨s, h1, h⟩ := bnd h
  exact wp_mono (a s h1) fun fl ⟨ρ', e, hR⟩ => e ▸ k1 s ρ' hR h
/-! comprehensions -/
theorem putB_wipe {own : List Nat} {ρ ρ1 B : Rho} (h : wipeR ρ own = wipeR B own) (h2 : own.map (fun i => B[i]?) = own.map (fun i => ρ1[i]?)) : putB ρ ρ1 own = B := by
  have hl : ρ.length = B.length := by rw [← wipeR_length ρ own, h, wipeR_length]
  refine List.ext_getElem? fun j => ?_
  by_cases hj : j ∈ own
  · have e : B[j]? = ρ1[j]? := by
      have : ∀ (l : List Nat), l.map (fun i => B[i]?) = l.map (fun i => ρ1[i]?) → j ∈ l → B[j]? = ρ1[j]? := by
        intro l
        induction l with
        | nil => intro _ h; cases h
        | cons i l ih =>
          intro e h
          rw [List.map_cons, List.map_cons, List.cons.injEq] at e
          rcases List.mem_cons.mp h with rfl | h
          · exact e.1
          · exact ih e.2 h
      exact this own h2 hj
    rw [e]
    have : ∀ (l : List Nat), j ∈ l → (ρ1[j]? ≠ none → (putB ρ ρ1 l)[j]? = ρ1[j]? ∨ ρ.length ≤ j) := by
      intro l
      induction l with
      | nil => intro h; cases h
      | cons i l ih =>
        intro hm hn
        unfold putB
        by_cases hi : i = j
        · subst hi
          cases e2 : ρ1[i]? with
          | none => exact absurd e2 hn
          | some s =>
            simp only
            by_cases hlt : i < ρ.length
            · left
              rw [List.getElem?_set_self (by rw [putB_length]; exact hlt)]
            · right; omega
        · have hm' : j ∈ l := by
            rcases List.mem_cons.mp hm with h | h
            · exact absurd h.symm hi
            · exact h
          have := ih hm' hn
          split
          · rw [List.getElem?_set_ne hi]; exact this
          · exact this
    by_cases hn : ρ1[j]? = none
    · rw [hn] at e
      rw [hn]
      have : B.length ≤ j := by simpa using e
      rw [List.getElem?_eq_none]
      rw [putB_length]; omega
    · rcases this own hj hn with h | h
      · exact h
      · have : B[j]? = none := by rw [List.getElem?_eq_none]; omega
        rw [e] at this
        exact absurd this hn
  · rw [putB_out hj]
    have e1 := wipeR_out (ρ := ρ) hj
    have e2 := wipeR_out (ρ := B) hj
    rw [← e1, h, e2]
theorem lcS_o {own : List Nat} {t : MT} {c : MB} {fe : M} {e : α → Dv} {e' : β → Dv} {f : α → Option (Option β)} {W : Rho} : ∀ {xs : List α} {ys : List β} {acc : List Dv} {ρ : Rho},
    (∀ x r, x ∈ xs → f x = some r → ∃ ρ2, t (e x) W = some ρ2 ∧ (match r with
      | none => ∃ ρ3, c ρ2 = some (false, ρ3) ∧ wipeR ρ3 own = W
      | some y => ∃ ρ3 ρ4, c ρ2 = some (true, ρ3) ∧ frM fe ρ3 = some (.sh (e' y), ρ4) ∧ wipeR ρ4 own = W)) →
    wipeR ρ own = W → lcO f xs = some ys → acc.length + ys.length ≤ sizeLine → ∃ ρ', lcS own t c fe (xs.map e) acc ρ = some (acc ++ ys.map e', ρ') ∧ wipeR ρ' own = W
  | [], ys, acc, ρ, _, hw, h, _ => by
    simp only [lcO, Option.some.injEq] at h
    subst h
    exact ⟨ρ, by simp [lcS], hw⟩
  | x :: xs, ys, acc, ρ, hb, hw, h, hl => by
    unfold lcO at h
    obtain ⟨y, h1, h⟩ := bnd h
    obtain ⟨zs, h2, h⟩ := bnd h
    obtain ⟨ρ2, e1, q⟩ := hb x y (List.mem_cons_self ..) h1
    have hb' := fun y r (hy : y ∈ xs) => hb y r (List.mem_cons_of_mem _ hy)
    rw [List.map_cons]
    unfold lcS
    rw [hw, e1]
    simp only [Option.bind_some]
    cases y with
    | none =>
      obtain ⟨ρ3, e2, w2⟩ := q
      cases h
      rw [e2]
      exact lcS_o hb' w2 h2 hl
    | some y =>
      obtain ⟨ρ3, ρ4, e2, e3, w2⟩ := q
      cases h
      rw [List.length_cons] at hl
      rw [e2]
      simp only [Option.bind_some, if_true]
      rw [e3]
      simp only [Option.bind_some]
      rw [if_pos (by omega)]
      obtain ⟨ρ', e4, w4⟩ := lcS_o (acc := acc ++ [e' y]) hb' w2 h2 (by simp; omega)
      exact ⟨ρ', by rw [e4]; simp, w4⟩
theorem szO_inv {x : Option (List β)} {ys : List β} (h : szO x = some ys) : x = some ys ∧ ys.length ≤ sizeLine := by
  unfold szO at h
  obtain ⟨zs, h1, h⟩ := bnd h
  split at h
  · cases h; exact ⟨h1, by assumption⟩
  · cases h
theorem lc_ {own : List Nat} {fi : ML} {t : MT} {c : MB} {fe : M} {e : α → Dv} {e' : β → Dv} {f : α → Option (Option β)} {W : Rho} {xs : List α} {ys : List β} {ρ ρ1 : Rho} (hi : fi ρ = some (xs.map e, ρ1)) (hn : noOw ρ1 own = true) (hw : wipeR ρ1 own = W)
    (hb : ∀ x r, x ∈ xs → f x = some r → ∃ ρ2, t (e x) W = some ρ2 ∧ (match r with
      | none => ∃ ρ3, c ρ2 = some (false, ρ3) ∧ wipeR ρ3 own = W
      | some y => ∃ ρ3 ρ4, c ρ2 = some (true, ρ3) ∧ frM fe ρ3 = some (.sh (e' y), ρ4) ∧ wipeR ρ4 own = W))
    (h : szO (lcO f xs) = some ys) : eLc own fi t c fe ρ = some (.ow (.lst (ys.map e')), ρ1) := by
  obtain ⟨h1, h2⟩ := szO_inv h
  obtain ⟨ρ', e1, w⟩ := lcS_o (acc := []) (ρ := ρ1) hb hw h1 (by simpa using h2)
  unfold eLc
  rw [hi]
  simp only [Option.bind_some]
  rw [if_pos hn, e1]
  simp only [Option.bind_some, List.nil_append]
  rw [putB_wipe (B := ρ1) (w.trans hw.symm) rfl]
theorem mapO_lc {f : α → Option β} : ∀ {xs : List α} {ys : List β}, mapO f xs = some ys → lcO (fun x => (f x).map some) xs = some ys
  | [], _, h => h
  | x :: xs, ys, h => by
    unfold mapO at h
    obtain ⟨y, h1, h⟩ := bnd h
    obtain ⟨zs, h2, h⟩ := bnd h
    unfold lcO
    rw [h1, mapO_lc h2]
    exact h
/-- without a condition -/
theorem lm_ {own : List Nat} {fi : ML} {t : MT} {fe : M} {e : α → Dv} {e' : β → Dv} {f : α → Option β} {W : Rho} {xs : List α} {ys : List β} {ρ ρ1 : Rho} (hi : fi ρ = some (xs.map e, ρ1)) (hn : noOw ρ1 own = true) (hw : wipeR ρ1 own = W)
    (hb : ∀ x y, x ∈ xs → f x = some y → ∃ ρ2 ρ4, t (e x) W = some ρ2 ∧ frM fe ρ2 = some (.sh (e' y), ρ4) ∧ wipeR ρ4 own = W)
    (h : szO (mapO f xs) = some ys) : eLc own fi t cYes fe ρ = some (.ow (.lst (ys.map e')), ρ1) := by
  obtain ⟨h1, h2⟩ := szO_inv h
  refine lc_ (f := fun x => (f x).map some) hi hn hw (fun x r hx hr => ?_) (show szO (lcO _ xs) = some ys by unfold szO; rw [mapO_lc h1]; exact if_pos h2)
  obtain ⟨y, hy, rfl⟩ := Option.map_eq_some_iff.mp hr
  obtain ⟨ρ2, ρ4, a, b, c⟩ := hb x y hx hy
  exact ⟨ρ2, a, ρ2, ρ4, rfl, b, c⟩
/-! with a state -/
theorem lcS_w {own : List Nat} {t : MT} {c : MB} {fe : M} {e : α → Dv} {e' : β → Dv} {f : α → σ → Option (Option β × σ)} {W : σ → Rho} : ∀ {xs : List α} {ys : List β} {s s' : σ} {acc : List Dv} {ρ : Rho},
    (∀ x s r, x ∈ xs → f x s = some r → ∃ ρ2, t (e x) (W s) = some ρ2 ∧ (match r.1 with
      | none => ∃ ρ3, c ρ2 = some (false, ρ3) ∧ wipeR ρ3 own = W r.2
      | some y => ∃ ρ3 ρ4, c ρ2 = some (true, ρ3) ∧ frM fe ρ3 = some (.sh (e' y), ρ4) ∧ wipeR ρ4 own = W r.2)) →
    wipeR ρ own = W s → lcwO f xs s = some (ys, s') → acc.length + ys.length ≤ sizeLine → ∃ ρ', lcS own t c fe (xs.map e) acc ρ = some (acc ++ ys.map e', ρ') ∧ wipeR ρ' own = W s'
  | [], ys, s, s', acc, ρ, _, hw, h, _ => by
    simp only [lcwO, Option.some.injEq, Prod.mk.injEq] at h
    obtain ⟨rfl, rfl⟩ := h
    exact ⟨ρ, by simp [lcS], hw⟩
  | x :: xs, ys, s, s', acc, ρ, hb, hw, h, hl => by
    unfold lcwO at h
    obtain ⟨⟨y, s1⟩, h1, h⟩ := bnd h
    obtain ⟨⟨zs, s2⟩, h2, h⟩ := bnd h
    obtain ⟨ρ2, e1, q⟩ := hb x s _ (List.mem_cons_self ..) h1
    have hb' := fun y s r (hy : y ∈ xs) => hb y s r (List.mem_cons_of_mem _ hy)
    rw [List.map_cons]
    unfold lcS
    rw [hw, e1]
    simp only [Option.bind_some]
    cases y with
    | none =>
      obtain ⟨ρ3, e2, w2⟩ := q
      cases h
      rw [e2]
      exact lcS_w hb' w2 h2 hl
    | some y =>
      obtain ⟨ρ3, ρ4, e2, e3, w2⟩ := q
      cases h
      have hl : acc.length + (zs.length + 1) ≤ sizeLine := hl
      rw [e2]
      simp only [Option.bind_some, if_true]
      rw [e3]
      simp only [Option.bind_some]
      rw [if_pos (by omega)]
      obtain ⟨ρ', e4, w4⟩ := lcS_w (acc := acc ++ [e' y]) hb' w2 h2 (by simp; omega)
      exact ⟨ρ', by rw [e4]; simp, w4⟩
theorem lcw_ {own : List Nat} {fi : ML} {t : MT} {c : MB} {fe : M} {e : α → Dv} {e' : β → Dv} {f : α → σ → Option (Option β × σ)} {W : σ → Rho} {B : σ → Rho} {xs : List α} {ys : List β} {s s' : σ} {ρ ρ1 : Rho} (hi : fi ρ = some (xs.map e, ρ1)) (hn : noOw ρ1 own = true) (hw : wipeR ρ1 own = W s)
    (hb : ∀ x s r, x ∈ xs → f x s = some r → ∃ ρ2, t (e x) (W s) = some ρ2 ∧ (match r.1 with
      | none => ∃ ρ3, c ρ2 = some (false, ρ3) ∧ wipeR ρ3 own = W r.2
      | some y => ∃ ρ3 ρ4, c ρ2 = some (true, ρ3) ∧ frM fe ρ3 = some (.sh (e' y), ρ4) ∧ wipeR ρ4 own = W r.2))
    (hB1 : ∀ s, W s = wipeR (B s) own) (hB2 : ∀ s, own.map (fun i => (B s)[i]?) = own.map (fun i => ρ1[i]?))
    (h : szwO (lcwO f xs s) = some (ys, s')) : eLc own fi t c fe ρ = some (.ow (.lst (ys.map e')), B s') := by
  unfold szwO at h
  obtain ⟨⟨zs, s2⟩, h1, h⟩ := bnd h
  simp only at h
  split at h
  rotate_left
  · cases h
  rename_i h2
  cases h
  obtain ⟨ρ', e1, w⟩ := lcS_w (acc := []) (ρ := ρ1) hb hw h1 (by simpa using h2)
  unfold eLc
  rw [hi]
  simp only [Option.bind_some]
  rw [if_pos hn, e1]
  simp only [Option.bind_some, List.nil_append]
  rw [putB_wipe (B := B s') (w.trans (hB1 s')) (hB2 s')]
/-! two clauses -/
theorem catO_len_le {f : α → Option (List β)} : ∀ {xs : List α} {ys : List β}, catO f xs = some ys → ∀ x ∈ xs, ∃ zs, f x = some zs
  | [], _, _, x, hx => by cases hx
  | x :: xs, ys, h, y, hy => by
    unfold catO at h
    obtain ⟨a, h1, h⟩ := bnd h
    obtain ⟨b, h2, h⟩ := bnd h
    rcases List.mem_cons.mp hy with rfl | hy
    · exact ⟨a, h1⟩
    · exact catO_len_le h2 y hy
theorem lcS2_o {own vs1 : List Nat} {t t1 : MT} {c c1 : MB} {fi1 : ML} {fe : M} {e : α → Dv} {e' : β → Dv} {f : α → Option (List β)} {W : Rho} : ∀ {xs : List α} {ys : List β} {acc : List Dv} {ρ : Rho},
    (∀ x zs acc, x ∈ xs → f x = some zs → acc.length + zs.length ≤ sizeLine → ∃ ρ2, t (e x) W = some ρ2 ∧ ((∃ ρ3, c ρ2 = some (false, ρ3) ∧ zs = [] ∧ wipeR ρ3 own = W) ∨
      ∃ ρ3 ρ4 ρ5 ds, c ρ2 = some (true, ρ3) ∧ fi1 ρ3 = some (ds, ρ4) ∧ lcS vs1 t1 c1 fe ds acc ρ4 = some (acc ++ zs.map e', ρ5) ∧ wipeR ρ5 own = W)) →
    wipeR ρ own = W → catO f xs = some ys → acc.length + ys.length ≤ sizeLine → ∃ ρ', lcS2 own vs1 t c fi1 t1 c1 fe (xs.map e) acc ρ = some (acc ++ ys.map e', ρ') ∧ wipeR ρ' own = W
  | [], ys, acc, ρ, _, hw, h, _ => by
    simp only [catO, Option.some.injEq] at h
    subst h
    exact ⟨ρ, by simp [lcS2], hw⟩
  | x :: xs, ys, acc, ρ, hb, hw, h, hl => by
    unfold catO at h
    obtain ⟨y, h1, h⟩ := bnd h
    obtain ⟨zs, h2, h⟩ := bnd h
    cases h
    rw [List.length_append] at hl
    obtain ⟨ρ2, e1, q⟩ := hb x y acc (List.mem_cons_self ..) h1 (by omega)
    have hb' := fun y zs acc (hy : y ∈ xs) => hb y zs acc (List.mem_cons_of_mem _ hy)
    rw [List.map_cons]
    unfold lcS2
    rw [hw, e1]
    simp only [Option.bind_some]
    rcases q with ⟨ρ3, e2, rfl, w⟩ | ⟨ρ3, ρ4, ρ5, ds, e2, e3, e4, w⟩
    · rw [e2]
      exact lcS2_o hb' w h2 (by simpa using hl)
    · rw [e2]
      simp only [Option.bind_some, if_true]
      rw [e3]
      simp only [Option.bind_some]
      rw [e4]
      simp only [Option.bind_some]
      obtain ⟨ρ', e5, w5⟩ := lcS2_o (acc := acc ++ y.map e') hb' w h2 (by simp; omega)
      exact ⟨ρ', by rw [e5]; simp, w5⟩
def Inn (own vs1 : List Nat) (c : MB) (fi1 : ML) (t1 : MT) (c1 : MB) (fe : M) (e' : β → Dv) (W ρ2 : Rho) (zs : List β) : Prop := ∀ acc : List Dv, acc.length + zs.length ≤ sizeLine → ((∃ ρ3, c ρ2 = some (false, ρ3) ∧ zs = [] ∧ wipeR ρ3 own = W) ∨
      ∃ ρ3 ρ4 ρ5 ds, c ρ2 = some (true, ρ3) ∧ fi1 ρ3 = some (ds, ρ4) ∧ lcS vs1 t1 c1 fe ds acc ρ4 = some (acc ++ zs.map e', ρ5) ∧ wipeR ρ5 own = W)
section
variable {own vs1 : List Nat} {c c1 : MB} {fi fi1 : ML} {t t1 : MT} {fe : M} {e : α → Dv} {e1 : γ → Dv} {e' : β → Dv} {W W1 ρ ρ1 ρ2 ρ3 ρ4 : Rho} {zs : List β} {ys : List γ}
theorem inn_f (hc : c ρ2 = some (false, ρ3)) (hw : wipeR ρ3 own = W) : Inn own vs1 c fi1 t1 c1 fe e' W ρ2 [] := fun _ _ => .inl ⟨ρ3, hc, rfl, hw⟩
theorem inn_t {f : γ → Option (Option β)} (hc : c ρ2 = some (true, ρ3)) (hi : fi1 ρ3 = some (ys.map e1, ρ4)) (hs : ∀ i ∈ vs1, i ∈ own) (hw1 : wipeR ρ4 vs1 = W1) (hw : wipeR W1 own = W) (h : lcO f ys = some zs)
    (hb : ∀ y r, y ∈ ys → f y = some r → ∃ ρ5, t1 (e1 y) W1 = some ρ5 ∧ (match r with
          | none => ∃ ρ6, c1 ρ5 = some (false, ρ6) ∧ wipeR ρ6 vs1 = W1
          | some z => ∃ ρ6 ρ7, c1 ρ5 = some (true, ρ6) ∧ frM fe ρ6 = some (.sh (e' z), ρ7) ∧ wipeR ρ7 vs1 = W1)) : Inn own vs1 c fi1 t1 c1 fe e' W ρ2 zs := fun acc hl => by
  obtain ⟨ρ5, c1', c2'⟩ := lcS_o (own := vs1) (acc := acc) (ρ := ρ4) (W := W1) (e' := e') hb hw1 h hl
  refine .inr ⟨ρ3, ρ4, ρ5, _, hc, hi, c1', ?_⟩
  rw [← hw, ← c2', wipeR_sub _ hs]
theorem inn_m {f : γ → Option β} (hc : c ρ2 = some (true, ρ3)) (hi : fi1 ρ3 = some (ys.map e1, ρ4)) (hs : ∀ i ∈ vs1, i ∈ own) (hw1 : wipeR ρ4 vs1 = W1) (hw : wipeR W1 own = W) (h : mapO f ys = some zs)
    (hb : ∀ y z, y ∈ ys → f y = some z → ∃ ρ5 ρ7, t1 (e1 y) W1 = some ρ5 ∧ frM fe ρ5 = some (.sh (e' z), ρ7) ∧ wipeR ρ7 vs1 = W1) : Inn own vs1 c fi1 t1 cYes fe e' W ρ2 zs :=
  inn_t (f := fun x => (f x).map some) hc hi hs hw1 hw (mapO_lc h) fun y r hy hr => by
    obtain ⟨z, hz, rfl⟩ := Option.map_eq_some_iff.mp hr
    obtain ⟨ρ5, ρ7, a, b, d⟩ := hb y z hy hz
    exact ⟨ρ5, a, ρ5, ρ7, rfl, b, d⟩
theorem lc2_ {xs : List α} {F : α → Option (List β)} (hi : fi ρ = some (xs.map e, ρ1)) (hn : noOw ρ1 own = true) (hw : wipeR ρ1 own = W)
    (hb : ∀ x zs, x ∈ xs → F x = some zs → ∃ ρ2, t (e x) W = some ρ2 ∧ Inn own vs1 c fi1 t1 c1 fe e' W ρ2 zs)
    (h : szO (catO F xs) = some zs) : eLc2 own vs1 fi t c fi1 t1 c1 fe ρ = some (.ow (.lst (zs.map e')), ρ1) := by
  obtain ⟨h1, h2⟩ := szO_inv h
  obtain ⟨ρ', e0, w⟩ := lcS2_o (own := own) (vs1 := vs1) (t := t) (t1 := t1) (c := c) (c1 := c1) (fi1 := fi1) (fe := fe) (e := e) (e' := e') (f := F) (W := W) (acc := []) (ρ := ρ1) (fun x zs acc hx hz hl => by
    obtain ⟨ρ2, a1, a2⟩ := hb x zs hx hz
    exact ⟨ρ2, a1, a2 acc hl⟩) hw h1 (by simpa using h2)
  unfold eLc2
  rw [hi]
  simp only [Option.bind_some]
  rw [if_pos hn, e0]
  simp only [Option.bind_some, List.nil_append]
  rw [putB_wipe (B := ρ1) (w.trans hw.symm) rfl]
end
end
end DL

set_option Elab.async false
set_option linter.all false
set_option autoImplicit false
set_option maxRecDepth 100000
set_option maxHeartbeats 1000000
namespace DL
open PySem PySem.Spec PyProof.Rows L2
/-! ### data of types: equal, less -/
class EqE {α : Type} (e : α → Dv) where
  eq : α → α → Bool
  dep : Nat
  lay : ∀ a, (e a).canLay0 = true
  hd : ∀ a, (e a).depth ≤ dep
  eqv : ∀ a b, PyData.eqv (e a) (e b) = eq a b
  iff : ∀ a b, eq a b = true ↔ a = b
def eqE {α : Type} (e : α → Dv) [EqE e] (a b : α) : Bool := EqE.eq e a b
class OrdE {α : Type} (e : α → Dv) extends EqE e where
  lt : α → α → Bool
  alike : ∀ a b, PySem.W.alike (e a) (e b) = true
  notNone : ∀ a, e a ≠ .none
  ltEq : ∀ a b, PySem.W.dataLt (e a) (e b) = lt a b
  ok : α → Bool
  kind : (∀ a, noTup (e a) = true) ∨ (∀ a, ok a = true → isTup (e a) = true)
  tot : ∀ a b, lt a b = false → lt b a = false → a = b
def ltE {α : Type} (e : α → Dv) [OrdE e] (a b : α) : Bool := OrdE.lt e a b
section
variable {α β γ δ : Type} {e : α → Dv} {ea : α → Dv} {eb : β → Dv} {ecc : γ → Dv} {ed : δ → Dv}
theorem eqE_iff [EqE e] {a b : α} : eqE e a b = true ↔ a = b := EqE.iff a b
theorem eqE_self [EqE e] (a : α) : eqE e a a = true := eqE_iff.mpr rfl
theorem eqE_ne [EqE e] {a b : α} : eqE e a b = false ↔ a ≠ b := by
  rw [← Bool.not_eq_true, eqE_iff]
theorem layAll [EqE e] : ∀ xs : List α, PyData.canLayAll0 (xs.map e) = true
  | [] => rfl
  | x :: xs => by
    rw [List.map_cons, PyData.canLayAll0, EqE.lay x, layAll xs]
    rfl
theorem depAll [EqE e] : ∀ xs : List α, PyData.depthAll (xs.map e) ≤ EqE.dep e
  | [] => by simp [PyData.depthAll]
  | x :: xs => by
    have := depAll xs
    have := EqE.hd (e := e) x
    simp only [List.map_cons, PyData.depthAll]
    omega
def eqLs (f : α → α → Bool) : List α → List α → Bool
  | [], [] => true
  | x :: xs, y :: ys => f x y && eqLs f xs ys
  | _, _ => false
theorem eqvAll_ls [EqE e] : ∀ xs ys : List α, PyData.eqvAll (xs.map e) (ys.map e) = eqLs (EqE.eq e) xs ys
  | [], [] => rfl
  | [], _ :: _ => rfl
  | _ :: _, [] => rfl
  | x :: xs, y :: ys => by
    rw [List.map_cons, List.map_cons, PyData.eqvAll, EqE.eqv, eqvAll_ls xs ys]
    rfl
theorem eqLs_iff [EqE e] : ∀ xs ys : List α, eqLs (EqE.eq e) xs ys = true ↔ xs = ys
  | [], [] => by simp [eqLs]
  | [], _ :: _ => by simp [eqLs]
  | _ :: _, [] => by simp [eqLs]
  | x :: xs, y :: ys => by simp [eqLs, EqE.iff, eqLs_iff xs ys]
instance : EqE eI where
  eq a b := decide (a = b)
  dep := 0
  lay _ := rfl
  hd a := by simp [eI, PyData.depth]
  eqv a b := by
    show (a == b) = _
    exact Bool.eq_iff_iff.mpr (by simp)
  iff a b := by simp
instance : EqE eB where
  eq a b := a == b
  dep := 0
  lay _ := rfl
  hd a := by simp [eB, PyData.depth]
  eqv a b := rfl
  iff a b := by simp
instance : EqE eN where
  eq _ _ := true
  dep := 0
  lay _ := rfl
  hd a := by simp [eN, PyData.depth]
  eqv a b := rfl
  iff a b := by simp
instance [EqE e] : EqE (eT e) where
  eq := eqLs (EqE.eq e)
  dep := EqE.dep e + 1
  lay xs := layAll xs
  hd xs := by
    have := depAll (e := e) xs
    simp only [eT, PyData.depth]
    omega
  eqv xs ys := by
    show PyData.eqvAll _ _ = _
    exact eqvAll_ls xs ys
  iff := eqLs_iff
instance [EqE e] : EqE (eL e) where
  eq := eqLs (EqE.eq e)
  dep := EqE.dep e + 1
  lay xs := layAll xs
  hd xs := by
    have := depAll (e := e) xs
    simp only [eL, PyData.depth]
    omega
  eqv xs ys := by
    show PyData.eqvAll _ _ = _
    exact eqvAll_ls xs ys
  iff := eqLs_iff
instance [EqE ea] [EqE eb] : EqE (e2 ea eb) where
  eq x y := EqE.eq ea x.1 y.1 && EqE.eq eb x.2 y.2
  dep := max (EqE.dep ea) (EqE.dep eb) + 1
  lay x := by
    show PyData.canLayAll0 [ea x.1, eb x.2] = true
    simp [PyData.canLayAll0, EqE.lay]
  hd x := by
    have := EqE.hd (e := ea) x.1
    have := EqE.hd (e := eb) x.2
    simp only [e2, PyData.depth, PyData.depthAll]
    omega
  eqv x y := by
    show PyData.eqvAll _ _ = _
    simp [PyData.eqvAll, EqE.eqv]
  iff x y := by
    obtain ⟨x1, x2⟩ := x
    obtain ⟨y1, y2⟩ := y
    simp [EqE.iff]
instance [EqE ea] [EqE eb] [EqE ecc] : EqE (e3 ea eb ecc) where
  eq x y := EqE.eq ea x.1 y.1 && (EqE.eq eb x.2.1 y.2.1 && EqE.eq ecc x.2.2 y.2.2)
  dep := max (EqE.dep ea) (max (EqE.dep eb) (EqE.dep ecc)) + 1
  lay x := by
    show PyData.canLayAll0 [_, _, _] = true
    simp [PyData.canLayAll0, EqE.lay]
  hd x := by
    have := EqE.hd (e := ea) x.1
    have := EqE.hd (e := eb) x.2.1
    have := EqE.hd (e := ecc) x.2.2
    simp only [e3, PyData.depth, PyData.depthAll]
    omega
  eqv x y := by
    show PyData.eqvAll _ _ = _
    simp [PyData.eqvAll, EqE.eqv]
  iff x y := by
    obtain ⟨x1, x2, x3⟩ := x
    obtain ⟨y1, y2, y3⟩ := y
    simp [EqE.iff]
instance [EqE ea] [EqE eb] [EqE ecc] [EqE ed] : EqE (e4 ea eb ecc ed) where
  eq x y := EqE.eq ea x.1 y.1 && (EqE.eq eb x.2.1 y.2.1 && (EqE.eq ecc x.2.2.1 y.2.2.1 && EqE.eq ed x.2.2.2 y.2.2.2))
  dep := max (EqE.dep ea) (max (EqE.dep eb) (max (EqE.dep ecc) (EqE.dep ed))) + 1
  lay x := by
    show PyData.canLayAll0 [_, _, _, _] = true
    simp [PyData.canLayAll0, EqE.lay]
  hd x := by
    have := EqE.hd (e := ea) x.1
    have := EqE.hd (e := eb) x.2.1
    have := EqE.hd (e := ecc) x.2.2.1
    have := EqE.hd (e := ed) x.2.2.2
    simp only [e4, PyData.depth, PyData.depthAll]
    omega
  eqv x y := by
    show PyData.eqvAll _ _ = _
    simp [PyData.eqvAll, EqE.eqv]
  iff x y := by
    obtain ⟨x1, x2, x3, x4⟩ := x
    obtain ⟨y1, y2, y3, y4⟩ := y
    simp [EqE.iff]
theorem shaped_e [EqE e] (h : EqE.dep e ≤ 64) (a : α) : SeqAt.shaped (e a) = true := by
  unfold SeqAt.shaped
  rw [EqE.lay a, decide_eq_true (Nat.le_trans (EqE.hd a) h)]
  rfl
theorem eqD_e [EqE e] (h : EqE.dep e ≤ 64) (a b : α) : eqD (e a) (e b) = some (eqE e a b) := by
  have h1 := shaped_e h a
  have h2 := shaped_e h b
  have h3 := EqE.eqv (e := e) a b
  unfold eqD
  split
  · rename_i i j e1 e2
    rw [e1, e2] at h3
    refine congrArg some ?_
    unfold eqE
    rw [← h3]
    exact Bool.eq_iff_iff.mpr (by simp [PyData.eqv])
  · rename_i i j e1 e2
    rw [e1, e2] at h3
    refine congrArg some ?_
    unfold eqE
    rw [← h3]
    exact Bool.eq_iff_iff.mpr (by simp [PyData.eqv])
  · rw [if_pos ⟨h1, h2⟩, h3]
    rfl
theorem eq_e [EqE e] (a b : α) (h : EqE.dep e ≤ 64 := by decide) : eqqD (e a) (e b) = some (.sh (.bool (eqE e a b))) := by
  unfold eqqD
  rw [eqD_e h]
  rfl
theorem ne_e [EqE e] (a b : α) (h : EqE.dep e ≤ 64 := by decide) : neqD (e a) (e b) = some (.sh (.bool (!eqE e a b))) := by
  unfold neqD
  rw [eqD_e h]
  rfl
/-! option -/
instance [OrdE e] : EqE (eO e) where
  eq x y := match x, y with
    | none, none => true
    | some a, some b => EqE.eq e a b
    | _, _ => false
  dep := EqE.dep e
  lay x := by
    cases x with
    | none => rfl
    | some a => exact EqE.lay a
  hd x := by
    cases x with
    | none => simp [eO, PyData.depth]
    | some a => exact EqE.hd a
  eqv x y := by
    cases x with
    | none =>
      cases y with
      | none => rfl
      | some b =>
        have := OrdE.notNone (e := e) b
        show PyData.eqv .none (e b) = false
        cases h : e b <;> first | exact absurd h this | rfl
    | some a =>
      cases y with
      | none =>
        have := OrdE.notNone (e := e) a
        show PyData.eqv (e a) .none = false
        cases h : e a <;> first | exact absurd h this | rfl
      | some b => exact EqE.eqv a b
  iff x y := by
    cases x <;> cases y <;> simp [EqE.iff]
theorem isN_e [OrdE e] (x : Option α) : isNone (eO e x) = x.isNone := by
  cases x with
  | none => rfl
  | some a =>
    have := OrdE.notNone (e := e) a
    show isNone (e a) = false
    cases h : e a <;> first | exact absurd h this | rfl
theorem isnd_e [OrdE e] (x : Option α) : isND (eO e x) .none = some (.sh (.bool x.isNone)) := by
  show some (Rz.sh (.bool (isNone (eO e x)))) = _
  rw [isN_e]
theorem notnd_e [OrdE e] (x : Option α) : notND (eO e x) .none = some (.sh (.bool (!x.isNone))) := by
  show some (Rz.sh (.bool (!isNone (eO e x)))) = _
  rw [isN_e]
theorem isnd_s [OrdE e] (x : α) : isND (e x) .none = some (.sh (.bool false)) := isnd_e (some x)
theorem notnd_s [OrdE e] (x : α) : notND (e x) .none = some (.sh (.bool true)) := notnd_e (some x)
theorem isnd_a (x : Dv) : isND x .none = some (.sh (.bool (isNone x))) := rfl
theorem notnd_a (x : Dv) : notND x .none = some (.sh (.bool (!isNone x))) := rfl
/-! in -/
theorem any_e [EqE e] (xs : List α) (a : α) : (xs.map e).any (fun z => PyData.eqv z (e a)) = xs.any fun z => eqE e z a := by
  rw [List.any_map]
  congr 1
  funext z
  exact EqE.eqv z a
theorem shapedL_e [EqE e] (h : EqE.dep e + 1 ≤ 64) (xs : List α) : SeqAt.shaped (.list (xs.map e)) = true := by
  unfold SeqAt.shaped
  have := depAll (e := e) xs
  rw [show (PyData.list (xs.map e)).canLay0 = true from layAll xs, decide_eq_true (by simp only [PyData.depth]; omega)]
  rfl
theorem shapedT_e [EqE e] (h : EqE.dep e + 1 ≤ 64) (xs : List α) : SeqAt.shaped (.tuple (xs.map e)) = true := by
  unfold SeqAt.shaped
  have := depAll (e := e) xs
  rw [show (PyData.tuple (xs.map e)).canLay0 = true from layAll xs, decide_eq_true (by simp only [PyData.depth]; omega)]
  rfl
def inE {α : Type} (e : α → Dv) [EqE e] (a : α) (xs : List α) : Bool := xs.any fun z => eqE e z a
theorem inE_iff [EqE e] {a : α} {xs : List α} : inE e a xs = true ↔ a ∈ xs := by
  unfold inE
  rw [List.any_eq_true]
  constructor
  · rintro ⟨z, hz, h⟩
    rw [eqE_iff.mp h] at hz
    exact hz
  · exact fun h => ⟨a, h, eqE_self a⟩
theorem inl_e [EqE e] (a : α) (xs : List α) (h : EqE.dep e + 1 ≤ 64 := by decide) : inAD (e a) (.list (xs.map e)) = some (.sh (.bool (inE e a xs))) := by
  unfold inAD inA inSeq
  simp only
  rw [if_pos ⟨shaped_e (by omega) a, shapedL_e h xs⟩, any_e]
  rfl
theorem int_e [EqE e] (a : α) (xs : List α) (h : EqE.dep e + 1 ≤ 64 := by decide) : inAD (e a) (.tuple (xs.map e)) = some (.sh (.bool (inE e a xs))) := by
  unfold inAD inA inSeq
  simp only
  rw [if_pos ⟨shaped_e (by omega) a, shapedT_e h xs⟩, any_e]
  rfl
theorem ninl_e [EqE e] (a : α) (xs : List α) (h : EqE.dep e + 1 ≤ 64 := by decide) : ninAD (e a) (.list (xs.map e)) = some (.sh (.bool (!inE e a xs))) := by
  unfold ninAD inA inSeq
  simp only
  rw [if_pos ⟨shaped_e (by omega) a, shapedL_e h xs⟩, any_e]
  rfl
theorem nint_e [EqE e] (a : α) (xs : List α) (h : EqE.dep e + 1 ≤ 64 := by decide) : ninAD (e a) (.tuple (xs.map e)) = some (.sh (.bool (!inE e a xs))) := by
  unfold ninAD inA inSeq
  simp only
  rw [if_pos ⟨shaped_e (by omega) a, shapedT_e h xs⟩, any_e]
  rfl
/-! less -/
def lsLt (q f : α → α → Bool) : List α → List α → Bool
  | [], [] => false
  | [], _ :: _ => true
  | _ :: _, [] => false
  | x :: xs, y :: ys => if q x y = true then lsLt q f xs ys else f x y
theorem alikeAll_e [OrdE e] : ∀ xs ys : List α, PySem.W.alikeAll (xs.map e) (ys.map e) = true
  | [], _ => by rw [List.map_nil, PySem.W.alikeAll]
  | _ :: _, [] => by rw [List.map_nil, List.map_cons, PySem.W.alikeAll]
  | x :: xs, y :: ys => by
    rw [List.map_cons, List.map_cons, PySem.W.alikeAll, OrdE.alike x y, alikeAll_e xs ys]
    rfl
theorem lexAll_e [OrdE e] : ∀ xs ys : List α, PyProof.Rows.lexLt itemOrd (PySem.W.keyToksAll (xs.map e)) (PySem.W.keyToksAll (ys.map e)) = lsLt (EqE.eq e) (OrdE.lt e) xs ys
  | [], [] => lex_irrefl _
  | [], y :: ys => by
    rw [List.map_nil, List.map_cons, PySem.W.toks_all_cons]
    simp only [PySem.W.keyToksAll]
    rw [lex_diff (O := itemOrd) (by simp)]
    rfl
  | x :: xs, [] => by
    rw [List.map_nil, List.map_cons, PySem.W.toks_all_cons]
    simp only [PySem.W.keyToksAll]
    rw [lex_diff (O := itemOrd) (by simp)]
    rfl
  | x :: xs, y :: ys => by
    rw [List.map_cons, List.map_cons, lsLt]
    by_cases h : EqE.eq e x y = true
    · rw [if_pos h, PySem.W.dataLt_all_yes (OrdE.alike x y) (by rw [EqE.eqv]; exact h), lexAll_e xs ys]
    · rw [if_neg h, PySem.W.dataLt_all_no (OrdE.alike x y) (by rw [EqE.eqv]; simpa using h)]
      exact OrdE.ltEq x y
instance : OrdE eI where
  lt a b := decide (a < b)
  alike a b := by show PySem.W.alike (.int a) (.int b) = true; simp only [PySem.W.alike]
  notNone a := fun h => by cases h
  ltEq a b := PySem.W.dataLt_int a b
  ok _ := true
  kind := .inl fun a => rfl
  tot a b h1 h2 := by
    simp at h1 h2
    omega
instance : OrdE eB where
  lt a b := !a && b
  alike a b := by show PySem.W.alike (.bool a) (.bool b) = true; simp only [PySem.W.alike]
  notNone a := fun h => by cases h
  ltEq a b := by
    refine (PySem.W.dataLt_bool a b).trans ?_
    cases a <;> cases b <;> rfl
  ok _ := true
  kind := .inl fun a => rfl
  tot a b h1 h2 := by cases a <;> cases b <;> simp_all
theorem ls_tot [OrdE e] : ∀ xs ys : List α, lsLt (EqE.eq e) (OrdE.lt e) xs ys = false → lsLt (EqE.eq e) (OrdE.lt e) ys xs = false → xs = ys
  | [], [], _, _ => rfl
  | [], _ :: _, h, _ => by cases h
  | _ :: _, [], _, h => by cases h
  | x :: xs, y :: ys, h1, h2 => by
    unfold lsLt at h1 h2
    by_cases h : x = y
    · subst h
      rw [if_pos ((EqE.iff x x).mpr rfl)] at h1 h2
      rw [ls_tot xs ys h1 h2]
    · rw [if_neg (fun z => h ((EqE.iff _ _).mp z))] at h1
      rw [if_neg (fun z => h ((EqE.iff _ _).mp z).symm)] at h2
      exact absurd (OrdE.tot x y h1 h2) h
instance [OrdE e] : OrdE (eT e) where
  lt := lsLt (EqE.eq e) (OrdE.lt e)
  alike xs ys := by show PySem.W.alike (.tuple _) (.tuple _) = true; simp only [PySem.W.alike]; exact alikeAll_e xs ys
  notNone a := fun h => by cases h
  ltEq xs ys := (PySem.W.dataLt_tuple _ _).trans (lexAll_e xs ys)
  ok xs := !xs.isEmpty
  kind := .inr fun xs h => by cases xs with
    | nil => cases h
    | cons x xs => rfl
  tot := ls_tot
instance [OrdE e] : OrdE (eL e) where
  lt := lsLt (EqE.eq e) (OrdE.lt e)
  alike xs ys := by show PySem.W.alike (.list _) (.list _) = true; simp only [PySem.W.alike]; exact alikeAll_e xs ys
  notNone a := fun h => by cases h
  ltEq xs ys := (PySem.W.dataLt_list _ _).trans (lexAll_e xs ys)
  ok _ := true
  kind := .inl fun a => rfl
  tot := ls_tot
theorem lt_pair {x y x' y' : Dv} {xs ys : List Dv} (h : PySem.W.alike x x' = true) : PyProof.Rows.lexLt itemOrd (PySem.W.keyToksAll (x :: xs)) (PySem.W.keyToksAll (x' :: ys)) = if PyData.eqv x x' = true then PyProof.Rows.lexLt itemOrd (PySem.W.keyToksAll xs) (PySem.W.keyToksAll ys) else PySem.W.dataLt x x' := PySem.W.dataLt_cons h xs ys
theorem lex_nil : PyProof.Rows.lexLt itemOrd (PySem.W.keyToksAll []) (PySem.W.keyToksAll []) = false := lex_irrefl _
theorem or_tot [OrdE e] {a b : α} {f g : Bool} (h1 : (if EqE.eq e a b = true then f else OrdE.lt e a b) = false) (h2 : (if EqE.eq e b a = true then g else OrdE.lt e b a) = false) : a = b ∧ f = false ∧ g = false := by
  by_cases h : a = b
  · subst h
    rw [if_pos ((EqE.iff a a).mpr rfl)] at h1 h2
    exact ⟨rfl, h1, h2⟩
  · rw [if_neg (fun z => h ((EqE.iff _ _).mp z))] at h1
    rw [if_neg (fun z => h ((EqE.iff _ _).mp z).symm)] at h2
    exact absurd (OrdE.tot a b h1 h2) h
theorem lt_irr [OrdE e] (a : α) : OrdE.lt e a a = false := by
  rw [← OrdE.ltEq]
  exact lex_irrefl _
theorem lt_last [OrdE e] (a b : α) : (if EqE.eq e a b = true then false else OrdE.lt e a b) = OrdE.lt e a b := by
  split
  · rename_i h
    rw [(EqE.iff a b).mp h, lt_irr]
  · rfl
instance [OrdE ea] [OrdE eb] : OrdE (e2 ea eb) where
  lt x y := if EqE.eq ea x.1 y.1 = true then OrdE.lt eb x.2 y.2 else OrdE.lt ea x.1 y.1
  alike x y := by
    show PySem.W.alike (.tuple _) (.tuple _) = true
    simp [PySem.W.alike, PySem.W.alikeAll, OrdE.alike]
  notNone a := fun h => by cases h
  ltEq x y := by
    refine (PySem.W.dataLt_tuple _ _).trans ?_
    rw [PySem.W.dataLt_cons (OrdE.alike x.1 y.1), PySem.W.dataLt_cons (OrdE.alike x.2 y.2), lex_nil, EqE.eqv, EqE.eqv, OrdE.ltEq, OrdE.ltEq, lt_last]
  ok _ := true
  kind := .inr fun _ _ => rfl
  tot x y h1 h2 := by
    obtain ⟨x1, x2⟩ := x
    obtain ⟨y1, y2⟩ := y
    obtain ⟨rfl, h3, h4⟩ := or_tot h1 h2
    obtain rfl := OrdE.tot _ _ h3 h4
    rfl
instance [OrdE ea] [OrdE eb] [OrdE ecc] : OrdE (e3 ea eb ecc) where
  lt x y := if EqE.eq ea x.1 y.1 = true then (if EqE.eq eb x.2.1 y.2.1 = true then OrdE.lt ecc x.2.2 y.2.2 else OrdE.lt eb x.2.1 y.2.1) else OrdE.lt ea x.1 y.1
  alike x y := by
    show PySem.W.alike (.tuple _) (.tuple _) = true
    simp [PySem.W.alike, PySem.W.alikeAll, OrdE.alike]
  notNone a := fun h => by cases h
  ltEq x y := by
    refine (PySem.W.dataLt_tuple _ _).trans ?_
    rw [PySem.W.dataLt_cons (OrdE.alike x.1 y.1), PySem.W.dataLt_cons (OrdE.alike x.2.1 y.2.1), PySem.W.dataLt_cons (OrdE.alike x.2.2 y.2.2), lex_nil, EqE.eqv, EqE.eqv, EqE.eqv, OrdE.ltEq, OrdE.ltEq, OrdE.ltEq, lt_last]
  ok _ := true
  kind := .inr fun _ _ => rfl
  tot x y h1 h2 := by
    obtain ⟨x1, x2, x3⟩ := x
    obtain ⟨y1, y2, y3⟩ := y
    obtain ⟨rfl, h3, h4⟩ := or_tot h1 h2
    obtain ⟨rfl, h5, h6⟩ := or_tot h3 h4
    obtain rfl := OrdE.tot _ _ h5 h6
    rfl
instance [OrdE ea] [OrdE eb] [OrdE ecc] [OrdE ed] : OrdE (e4 ea eb ecc ed) where
  lt x y := if EqE.eq ea x.1 y.1 = true then (if EqE.eq eb x.2.1 y.2.1 = true then (if EqE.eq ecc x.2.2.1 y.2.2.1 = true then OrdE.lt ed x.2.2.2 y.2.2.2 else OrdE.lt ecc x.2.2.1 y.2.2.1) else OrdE.lt eb x.2.1 y.2.1) else OrdE.lt ea x.1 y.1
  alike x y := by
    show PySem.W.alike (.tuple _) (.tuple _) = true
    simp [PySem.W.alike, PySem.W.alikeAll, OrdE.alike]
  notNone a := fun h => by cases h
  ltEq x y := by
    refine (PySem.W.dataLt_tuple _ _).trans ?_
    rw [PySem.W.dataLt_cons (OrdE.alike x.1 y.1), PySem.W.dataLt_cons (OrdE.alike x.2.1 y.2.1), PySem.W.dataLt_cons (OrdE.alike x.2.2.1 y.2.2.1), PySem.W.dataLt_cons (OrdE.alike x.2.2.2 y.2.2.2), lex_nil, EqE.eqv, EqE.eqv, EqE.eqv, EqE.eqv, OrdE.ltEq, OrdE.ltEq, OrdE.ltEq, OrdE.ltEq, lt_last]
  ok _ := true
  kind := .inr fun _ _ => rfl
  tot x y h1 h2 := by
    obtain ⟨x1, x2, x3, x4⟩ := x
    obtain ⟨y1, y2, y3, y4⟩ := y
    obtain ⟨rfl, h3, h4⟩ := or_tot h1 h2
    obtain ⟨rfl, h5, h6⟩ := or_tot h3 h4
    obtain ⟨rfl, h7, h8⟩ := or_tot h5 h6
    obtain rfl := OrdE.tot _ _ h7 h8
    rfl
/-! min, max -/
def minE {α : Type} (e : α → Dv) [OrdE e] (x : α) (xs : List α) : α := xs.foldl (fun a y => if ltE e y a = true then y else a) x
def maxE {α : Type} (e : α → Dv) [OrdE e] (x : α) (xs : List α) : α := xs.foldl (fun a y => if ltE e a y = true then y else a) x
def minO {α : Type} (e : α → Dv) [OrdE e] : List α → Option α
  | [] => none
  | x :: xs => some (minE e x xs)
def maxO {α : Type} (e : α → Dv) [OrdE e] : List α → Option α
  | [] => none
  | x :: xs => some (maxE e x xs)
theorem minD_e [OrdE e] (x : α) : ∀ xs : List α, PySem.W.minD (e x) (xs.map e) = e (minE e x xs) := fun xs => by
  unfold PySem.W.minD minE
  induction xs generalizing x with
  | nil => rfl
  | cons y ys ih =>
    rw [List.map_cons, List.foldl_cons, List.foldl_cons, ← ih]
    (try dsimp only)
    rw [OrdE.ltEq y x]
    unfold ltE
    cases OrdE.lt e y x <;> rfl
theorem maxD_e [OrdE e] (x : α) : ∀ xs : List α, PySem.W.maxD (e x) (xs.map e) = e (maxE e x xs) := fun xs => by
  unfold PySem.W.maxD maxE
  induction xs generalizing x with
  | nil => rfl
  | cons y ys ih =>
    rw [List.map_cons, List.foldl_cons, List.foldl_cons, ← ih]
    (try dsimp only)
    rw [OrdE.ltEq x y]
    unfold ltE
    cases OrdE.lt e x y <;> rfl
theorem notN [OrdE e] (x : α) : isNone (e x) = false := by
  have := OrdE.notNone (e := e) x
  cases h : e x <;> first | exact absurd h this | rfl
theorem okAl_e [OrdE e] (xs : List α) (h : EqE.dep e ≤ 64) : okAl (xs.map e) = true := by
  unfold okAl
  simp only [Bool.and_eq_true, List.all_eq_true, decide_eq_true_eq, List.mem_map]
  refine ⟨⟨?_, ?_⟩, Nat.le_trans (depAll xs) h⟩
  · rintro _ ⟨a, _, rfl⟩ _ ⟨b, _, rfl⟩
    exact OrdE.alike a b
  · rintro _ ⟨a, _, rfl⟩
    rw [notN]
    rfl
theorem minL_e [OrdE e] {xs : List α} {v : α} (h : minO e xs = some v) (hd : EqE.dep e ≤ 64 := by decide) : minG [.list (xs.map e)] = some (.sh (e v)) := by
  cases xs with
  | nil => cases h
  | cons x xs =>
    cases h
    show (if okAl (List.map e (x :: xs)) = true then _ else _) = _
    rw [if_pos (okAl_e _ hd), minD_e]
theorem minT_e [OrdE e] {xs : List α} {v : α} (h : minO e xs = some v) (hd : EqE.dep e ≤ 64 := by decide) : minG [.tuple (xs.map e)] = some (.sh (e v)) := by
  cases xs with
  | nil => cases h
  | cons x xs =>
    cases h
    show (if okAl (List.map e (x :: xs)) = true then _ else _) = _
    rw [if_pos (okAl_e _ hd), minD_e]
theorem maxL_e [OrdE e] {xs : List α} {v : α} (h : maxO e xs = some v) (hd : EqE.dep e ≤ 64 := by decide) : maxG [.list (xs.map e)] = some (.sh (e v)) := by
  cases xs with
  | nil => cases h
  | cons x xs =>
    cases h
    show (if okAl (List.map e (x :: xs)) = true then _ else _) = _
    rw [if_pos (okAl_e _ hd), maxD_e]
theorem maxT_e [OrdE e] {xs : List α} {v : α} (h : maxO e xs = some v) (hd : EqE.dep e ≤ 64 := by decide) : maxG [.tuple (xs.map e)] = some (.sh (e v)) := by
  cases xs with
  | nil => cases h
  | cons x xs =>
    cases h
    show (if okAl (List.map e (x :: xs)) = true then _ else _) = _
    rw [if_pos (okAl_e _ hd), maxD_e]
/-! sorted -/
def insE (lt : α → α → Bool) (x : α) : List α → List α
  | [] => [x]
  | y :: ys => if lt y x = true then y :: insE lt x ys else x :: y :: ys
def isort (lt : α → α → Bool) : List α → List α
  | [] => []
  | x :: xs => insE lt x (isort lt xs)
theorem ins_perm (lt : α → α → Bool) (x : α) : ∀ ys : List α, List.Perm (insE lt x ys) (x :: ys)
  | [] => .refl _
  | y :: ys => by
    unfold insE
    split
    · exact ((ins_perm lt x ys).cons y).trans (List.Perm.swap x y ys)
    · exact .refl _
theorem isort_perm (lt : α → α → Bool) : ∀ xs : List α, List.Perm (isort lt xs) xs
  | [] => .refl _
  | x :: xs => (ins_perm lt x _).trans ((isort_perm lt xs).cons x)
theorem lt_tr [OrdE e] {a b c : α} (h1 : OrdE.lt e b a = false) (h2 : OrdE.lt e c b = false) : OrdE.lt e c a = false := by
  rw [← OrdE.ltEq] at h1 h2 ⊢
  exact KeyOrd.kle_trans (O := listOrd itemOrd) h1 h2
theorem lt_as [OrdE e] {a b : α} (h : OrdE.lt e a b = true) : OrdE.lt e b a = false := by
  rw [← OrdE.ltEq] at h ⊢
  cases h2 : PySem.W.dataLt (e b) (e a) with
  | false => rfl
  | true =>
    have := lex_trans (O := itemOrd) _ _ _ h h2
    rw [lex_irrefl] at this
    cases this
theorem ins_sorted [OrdE e] (x : α) : ∀ {ys : List α}, ys.Pairwise (fun a b => OrdE.lt e b a = false) → (insE (OrdE.lt e) x ys).Pairwise (fun a b => OrdE.lt e b a = false)
  | [], _ => by simp [insE]
  | y :: ys, h => by
    obtain ⟨h1, h2⟩ := List.pairwise_cons.mp h
    unfold insE
    split
    · rename_i hlt
      refine List.pairwise_cons.mpr ⟨fun z hz => ?_, ins_sorted x h2⟩
      rcases List.mem_cons.mp ((ins_perm _ x ys).mem_iff.mp hz) with rfl | hz
      · exact lt_as hlt
      · exact h1 z hz
    · rename_i hlt
      have hlt : OrdE.lt e y x = false := by simpa using hlt
      refine List.pairwise_cons.mpr ⟨fun z hz => ?_, h⟩
      rcases List.mem_cons.mp hz with rfl | hz
      · exact hlt
      · exact lt_tr hlt (h1 z hz)
theorem isort_sorted [OrdE e] : ∀ xs : List α, (isort (OrdE.lt e) xs).Pairwise (fun a b => OrdE.lt e b a = false)
  | [] => .nil
  | x :: xs => ins_sorted x (isort_sorted xs)
theorem sortD_e [OrdE e] (xs : List α) : sortD (xs.map e) = (isort (OrdE.lt e) xs).map e := by
  have T := PySem.W.sortLe_total (listOrd itemOrd) false fun d : Dv => PySem.W.keyToks d
  have h1 : (sortD (xs.map e)).Pairwise (fun a b => PySem.W.dataLe false (fun d : Dv => d) a b = true) := List.pairwise_mergeSort (fun a b c => T.trans a b c) (fun a b => Bool.or_eq_true _ _ ▸ T.total a b) _
  have h2 : ((isort (OrdE.lt e) xs).map e).Pairwise (fun a b => PySem.W.dataLe false (fun d : Dv => d) a b = true) := by
    rw [List.pairwise_map]
    refine (isort_sorted xs).imp fun {a b} h => ?_
    show (!PySem.W.dataLt (e b) (e a)) = true
    rw [OrdE.ltEq, h]
    rfl
  have p1 : List.Perm (sortD (xs.map e)) ((isort (OrdE.lt e) xs).map e) := (List.mergeSort_perm _ _).trans ((isort_perm _ xs).symm.map e)
  refine p1.eq_of_pairwise (fun a b ha hb h3 h4 => ?_) h1 h2
  obtain ⟨x, _, rfl⟩ := List.mem_map.mp (((List.mergeSort_perm _ _).mem_iff).mp ha)
  obtain ⟨y, _, rfl⟩ := List.mem_map.mp hb
  have h3 : (!PySem.W.dataLt (e y) (e x)) = true := h3
  have h4 : (!PySem.W.dataLt (e x) (e y)) = true := h4
  rw [OrdE.ltEq, Bool.not_eq_true'] at h3 h4
  rw [OrdE.tot x y h4 h3]
theorem okSo_e [OrdE e] (xs : List α) (h : EqE.dep e ≤ 64) (h2 : xs.all (OrdE.ok e) = true) (hl : xs.length ≤ sizeLine) : okSo (xs.map e) = true := by
  unfold okSo
  simp only [Bool.and_eq_true, Bool.or_eq_true, List.all_eq_true, decide_eq_true_eq, List.mem_map, List.length_map]
  refine ⟨⟨⟨?_, ?_⟩, ?_⟩, hl⟩
  · rcases OrdE.kind (e := e) with k | k
    · right
      rintro _ ⟨a, _, rfl⟩
      exact k a
    · left
      rintro _ ⟨a, ha, rfl⟩
      exact k a (List.all_eq_true.mp h2 a ha)
  · rintro _ ⟨a, _, rfl⟩ _ ⟨b, _, rfl⟩
    exact OrdE.alike a b
  · rintro _ ⟨a, _, rfl⟩
    exact Nat.le_trans (EqE.hd a) h
def sortO {α : Type} (e : α → Dv) [OrdE e] (xs : List α) : Option (List α) := if xs.all (OrdE.ok e) = true ∧ xs.length ≤ sizeLine then some (isort (OrdE.lt e) xs) else none
theorem sort_e [OrdE e] {xs ys : List α} (h : sortO e xs = some ys) (hd : EqE.dep e ≤ 64 := by decide) : sortG [.list (xs.map e)] = some (.ow (.lst (ys.map e))) := by
  unfold sortO at h
  split at h
  · rename_i hc
    cases h
    unfold sortG
    simp only
    rw [if_pos (okSo_e xs hd hc.1 hc.2), sortD_e]
  · cases h
end
end DL

set_option Elab.async false
set_option linter.all false
set_option autoImplicit false
set_option maxRecDepth 100000
set_option maxHeartbeats 1000000
namespace DL
open PySem PySem.Spec PyProof.Rows L2
/-! ### typed operators -/
section intS
theorem add_i (a b : Int) : addD (eI a) (eI b) = some (.sh (eI (a + b))) := rfl
theorem sub_i (a b : Int) : subD (eI a) (eI b) = some (.sh (eI (a - b))) := rfl
theorem iadd_i (a b : Int) : iaddD (eI a) (eI b) = some (.sh (eI (a + b))) := rfl
theorem neg_i (a : Int) : negD (eI a) = some (.sh (eI (-a))) := rfl
theorem bit_i (g : Int → Int → Int) (a b : Int) : bitD g (eI a) (eI b) = some (.sh (eI (g a b))) := rfl
theorem cmp_i (g : Int → Int → Bool) (a b : Int) : cmpD g (eI a) (eI b) = some (.sh (eB (g a b))) := rfl
def fits (a : Int) : Prop := -(18446744073709551616) < a ∧ a < 18446744073709551616
instance (a : Int) : Decidable (fits a) := by unfold fits; infer_instance
def mulO (a b : Int) : Option Int := if fits a ∨ fits b then some (a * b) else none
theorem mul_t {a b v : Int} (h : mulO a b = some v) : mulD (eI a) (eI b) = some (.sh (eI v)) := by
  unfold mulO at h
  split at h
  · rename_i hc
    cases h
    exact if_pos hc
  · cases h
theorem mul_l (a b : Int) (h : fits a := by decide) : mulD (eI a) (eI b) = some (.sh (eI (a * b))) := if_pos (.inl h)
theorem mul_r (a b : Int) (h : fits b := by decide) : mulD (eI a) (eI b) = some (.sh (eI (a * b))) := if_pos (.inr h)
theorem mulO_l {a : Int} (b : Int) (h : fits a) : mulO a b = some (a * b) := if_pos (.inl h)
theorem mulO_r (a : Int) {b : Int} (h : fits b) : mulO a b = some (a * b) := if_pos (.inr h)
theorem fits_of {a : Int} (h1 : -1000000000000 ≤ a) (h2 : a ≤ 1000000000000) : fits a := ⟨by omega, by omega⟩
def divO (a b : Int) : Option Int := if 0 < b ∧ b < 1073741824 then some (a / b) else none
theorem div_t {a b v : Int} (h : divO a b = some v) : divD (eI a) (eI b) = some (.sh (eI v)) := by
  unfold divO at h
  split at h
  · rename_i hc
    cases h
    exact if_pos hc
  · cases h
theorem div_l (a b : Int) (h : 0 < b ∧ b < 1073741824 := by decide) : divD (eI a) (eI b) = some (.sh (eI (a / b))) := if_pos h
def modO (a b : Int) : Option Int := if 0 < b then some (a % b) else none
theorem mod_t {a b v : Int} (h : modO a b = some v) : modD (eI a) (eI b) = some (.sh (eI v)) := by
  unfold modO at h
  split at h
  · rename_i hc
    cases h
    exact if_pos hc
  · cases h
theorem mod_l (a b : Int) (h : 0 < b := by decide) : modD (eI a) (eI b) = some (.sh (eI (a % b))) := if_pos h
theorem modO_p (a : Int) {b : Int} (h : 0 < b) : modO a b = some (a % b) := if_pos h
def powO (a b : Int) : Option Int := if 0 ≤ b ∧ b ≤ 1000000 ∧ a.natAbs < 18446744073709551616 then some (a ^ b.toNat) else none
theorem pow_t {a b v : Int} (h : powO a b = some v) : powD (eI a) (eI b) = some (.sh (eI v)) := by
  unfold powO at h
  split at h
  · rename_i hc
    cases h
    exact if_pos hc
  · cases h
def shlO (a b : Int) : Option Int := if 0 ≤ b ∧ b ≤ 1000000 ∧ a.natAbs < 18446744073709551616 then some (a * 2 ^ b.toNat) else none
theorem shl_t {a b v : Int} (h : shlO a b = some v) : shlD (eI a) (eI b) = some (.sh (eI v)) := by
  unfold shlO at h
  split at h
  · rename_i hc
    cases h
    exact if_pos hc
  · cases h
def shrO (a b : Int) : Option Int := if 0 ≤ b then some (a / 2 ^ b.toNat) else none
theorem shr_t {a b v : Int} (h : shrO a b = some v) : shrD (eI a) (eI b) = some (.sh (eI v)) := by
  unfold shrO at h
  split at h
  · rename_i hc
    cases h
    exact if_pos hc
  · cases h
theorem shr_l (a b : Int) (h : 0 ≤ b := by decide) : shrD (eI a) (eI b) = some (.sh (eI (a / 2 ^ b.toNat))) := if_pos h
theorem abs_i (a : Int) : absG [eI a] = some (.sh (eI (if a < 0 then -a else a))) := rfl
theorem int_i (a : Int) : intG [eI a] = some (.sh (eI a)) := rfl
theorem int_b (a : Bool) : intG [eB a] = some (.sh (eI (if a = true then 1 else 0))) := rfl
theorem max2_i (a b : Int) : max2G [eI a, eI b] = some (.sh (eI (if b > a then b else a))) := rfl
theorem min2_i (a b : Int) : min2G [eI a, eI b] = some (.sh (eI (if b < a then b else a))) := rfl
theorem eq_s (a b : Str) : eqqD (eS a) (eS b) = some (.sh (eB (decide (a = b)))) := rfl
theorem ne_s (a b : Str) : neqD (eS a) (eS b) = some (.sh (eB (!decide (a = b)))) := rfl
theorem eq_a {a b : Dv} {v : Bool} (h : eqD a b = some v) : eqqD a b = some (.sh (eB v)) := by
  unfold eqqD
  rw [h]
  rfl
theorem ne_a {a b : Dv} {v : Bool} (h : eqD a b = some v) : neqD a b = some (.sh (eB (!v))) := by
  unfold neqD
  rw [h]
  rfl
end intS
/-! ### lists -/
section
variable {α β : Type} {e : α → Dv}
def rangeI (lo : Int) (n : Nat) : List Int := (List.range n).map fun i => lo + (i : Nat)
def rangeC (lo : Int) (n : Nat) : List Int := (List.range n).map fun i => lo + (i : Nat) * -1
theorem rangeI_e (lo : Int) (n : Nat) : rangeD lo n = (rangeI lo n).map eI := by
  unfold rangeD rangeI
  rw [List.map_map]
  rfl
theorem rangeC_e (lo : Int) (n : Nat) : rangeDC lo (-1) n = (rangeC lo n).map eI := by
  unfold rangeDC rangeC
  rw [List.map_map]
  rfl
def rngO1 (n : Int) : Option (List Int) := if bnd62 n = true then some (rangeI 0 n.toNat) else none
def rngO2 (i j : Int) : Option (List Int) := if bnd62 i = true ∧ bnd62 j = true then some (rangeI i (j - i).toNat) else none
def rngO3 (i j : Int) : Option (List Int) := if bnd62 i = true ∧ bnd62 j = true then some (rangeC i (i - j).toNat) else none
theorem rng1_t {n : Int} {xs : List Int} (h : rngO1 n = some xs) : rng1 [eI n] = some (xs.map eI) := by
  unfold rngO1 at h
  split at h
  · rename_i hc
    cases h
    show (if bnd62 n = true then _ else _) = _
    rw [if_pos hc, rangeI_e]
  · cases h
theorem rng1_l (n : Int) (h : bnd62 n = true := by decide) : rng1 [eI n] = some ((rangeI 0 n.toNat).map eI) := rng1_t (if_pos h)
theorem rng2_t {i j : Int} {xs : List Int} (h : rngO2 i j = some xs) : rng2 [eI i, eI j] = some (xs.map eI) := by
  unfold rngO2 at h
  split at h
  · rename_i hc
    cases h
    show (if bnd62 i = true ∧ bnd62 j = true then _ else _) = _
    rw [if_pos hc, rangeI_e]
  · cases h
theorem rng3_t {i j : Int} {xs : List Int} (h : rngO3 i j = some xs) : rng3 [eI i, eI j, eI (-1)] = some (xs.map eI) := by
  unfold rngO3 at h
  split at h
  · rename_i hc
    cases h
    show (if bnd62 i = true ∧ bnd62 j = true ∧ (-1 : Int) = -1 then _ else _) = _
    rw [if_pos ⟨hc.1, hc.2, rfl⟩, rangeC_e]
  · cases h
theorem irng_ {r : List Dv → Option (List Dv)} {ga : MA} {ρ ρ1 : Rho} {rs : List Rv} {ds : List Dv} {xs : List α} (h : ga ρ = some (rs, ρ1)) (h1 : dats ρ1 rs = some ds) (h2 : r ds = some (xs.map e)) : iRng r ga ρ = some (xs.map e, ρ1) := iRng_eq h h1 h2
theorem iseq_l {f : M} {ρ ρ1 : Rho} {xs : List α} (h : frM f ρ = some (.sh (.list (xs.map e)), ρ1)) : iSeq f ρ = some (xs.map e, ρ1) := by
  unfold iSeq
  rw [h]
  rfl
theorem iseq_t {f : M} {ρ ρ1 : Rho} {xs : List α} (h : frM f ρ = some (.sh (.tuple (xs.map e)), ρ1)) : iSeq f ρ = some (xs.map e, ρ1) := by
  unfold iSeq
  rw [h]
  rfl
theorem irev_ {f : M} {ρ ρ1 : Rho} {xs : List α} (h : iSeq f ρ = some (xs.map e, ρ1)) : iRevS f ρ = some (xs.reverse.map e, ρ1) := by
  unfold iRevS
  rw [h]
  simp
def itemsO (d : Dv) : Option (List Dv) := itemsOf d
theorem iseq_a {f : M} {ρ ρ1 : Rho} {d : Dv} {xs : List Dv} (h : frM f ρ = some (.sh d, ρ1)) (h2 : itemsO d = some xs) : iSeq f ρ = some (xs.map eA, ρ1) := by
  unfold iSeq
  rw [h]
  unfold itemsO at h2
  simp only [Option.bind_some, h2]
  simp [show (eA : Dv → Dv) = id from rfl]
theorem atI_map' (xs : List α) (i : Int) : atI (xs.map e) i = (atI xs i).map e := by
  unfold atI
  rw [List.length_map]
  cases ixN xs.length i with
  | none => rfl
  | some j => simp
theorem ixl_e {xs : List α} {i : Int} {v : α} (h : atI xs i = some v) : ixA (.list (xs.map e)) (eI i) = some (.sh (e v)) := by
  show (atI (xs.map e) i).map Rz.sh = _
  rw [atI_map', h]
  rfl
theorem ixt_e {xs : List α} {i : Int} {v : α} (h : atI xs i = some v) : ixA (.tuple (xs.map e)) (eI i) = some (.sh (e v)) := by
  show (atI (xs.map e) i).map Rz.sh = _
  rw [atI_map', h]
  rfl
def ixaO (d k : Dv) : Option Dv := match ixA d k with
  | some (.sh z) => some z
  | _ => none
theorem ixa_e {d k z : Dv} (h : ixaO d k = some z) : ixA d k = some (.sh z) := by
  unfold ixaO at h
  split at h
  · rename_i h2
    cases h
    exact h2
  · cases h
def plusO (xs ys : List α) : Option (List α) := if xs.length + ys.length ≤ sizeLine then some (xs ++ ys) else none
theorem plusT_e {xs ys zs : List α} (h : plusO xs ys = some zs) : addD (.tuple (xs.map e)) (.tuple (ys.map e)) = some (.sh (.tuple (zs.map e))) := by
  unfold plusO at h
  split at h
  · rename_i hc
    cases h
    show (if (xs.map e).length + (ys.map e).length ≤ sizeLine then _ else _) = _
    rw [List.length_map, List.length_map, if_pos hc, List.map_append]
  · cases h
theorem plusL_e {xs ys zs : List α} (h : plusO xs ys = some zs) : addD (.list (xs.map e)) (.list (ys.map e)) = some (.ow (.lst (zs.map e))) := by
  unfold plusO at h
  split at h
  · rename_i hc
    cases h
    show (if (xs.map e).length + (ys.map e).length ≤ sizeLine then _ else _) = _
    rw [List.length_map, List.length_map, if_pos hc, List.map_append]
  · cases h
def repLO (xs : List α) (k : Int) : Option (List α) := if -(9223372036854775808) ≤ k ∧ k < 9223372036854775808 ∧ xs.length * k.toNat ≤ sizeLine then some (List.replicate k.toNat xs).flatten else none
theorem repL_e {xs zs : List α} {k : Int} (h : repLO xs k = some zs) : mulD (.list (xs.map e)) (eI k) = some (.ow (.lst (zs.map e))) := by
  unfold repLO at h
  split at h
  · rename_i hc
    cases h
    show (if -(9223372036854775808) ≤ k ∧ k < 9223372036854775808 ∧ (xs.map e).length * k.toNat ≤ sizeLine then _ else _) = _
    rw [List.length_map, if_pos hc, List.map_flatten, List.map_replicate]
  · cases h
def repTO (xs : List α) (k : Int) : Option (List α) := if xs.isEmpty = false ∧ 2 ≤ k ∧ k ≤ 1000 ∧ xs.length ≤ 1000 then some (List.replicate k.toNat xs).flatten else none
theorem repT_e {xs zs : List α} {k : Int} (h : repTO xs k = some zs) : mulD (.tuple (xs.map e)) (eI k) = some (.sh (.tuple (zs.map e))) := by
  unfold repTO at h
  split at h
  · rename_i hc
    cases h
    show (if (xs.map e) ≠ [] ∧ 2 ≤ k ∧ k ≤ 1000 ∧ (xs.map e).length ≤ 1000 then _ else _) = _
    rw [List.length_map, if_pos ⟨by cases xs <;> simp_all, hc.2⟩, List.map_flatten, List.map_replicate]
  · cases h
def pushO (xs : List α) (v : α) : Option (List α) := if xs.length < sizeLine then some (xs ++ [v]) else none
theorem push_ {fo : M} {ga : MA} {j : Nat} {ρ ρ1 : Rho} {xs zs : List α} {v : α} (h : pushO xs v = some zs) (ho : fo ρ = some (.al j, ρ)) (hi : isOb "list" ρ[j]? = true) (ha : ga ρ = some ([.sh (e v)], ρ1)) (hj : ρ1[j]? = some (.ow (.lst (xs.map e)))) : mutM "list" appG fo ga ρ = some (.sh .none, ρ1.set j (.ow (.lst (zs.map e)))) := by
  unfold pushO at h
  split at h
  · rename_i hc
    cases h
    rw [app_ ho hi ha hj (by rw [List.length_map]; exact hc)]
    simp
  · cases h
def setO (xs : List α) (k : Int) (v : α) : Option (List α) := (ixN xs.length k).map fun j => xs.set j v
theorem set_e {xs zs : List α} {k : Int} {v : α} (h : setO xs k v = some zs) : setOb (.lst (xs.map e)) (eI k) (e v) = some (.lst (zs.map e)) := by
  unfold setO at h
  obtain ⟨j, h1, rfl⟩ := Option.map_eq_some_iff.mp h
  show (ixN (xs.map e).length k).map _ = _
  rw [List.length_map, h1]
  simp
theorem getl_e {xs : List α} {i : Int} {v : α} (h : atI xs i = some v) : getOb (.lst (xs.map e)) (eI i) = some (e v) := by
  show atI (xs.map e) i = _
  rw [atI_map', h]
  rfl
def cutT (xs : List α) (lo hi : Option Int) : List α := (xs.drop (HT.sIx xs.length 0 lo)).take (HT.sIx xs.length xs.length hi - HT.sIx xs.length 0 lo)
theorem cut_e (xs : List α) (lo hi : Option Int) : cutD (xs.map e) lo hi = (cutT xs lo hi).map e := by
  unfold cutD cutT
  rw [List.length_map, List.map_take, List.map_drop]
theorem cutL_ {f : M} {lo hi : MO} {ρ ρ1 ρ2 ρ3 : Rho} {r : Rv} {l h : Option Int} {xs : List α} (ha : pkM f ρ = some (r, ρ1)) (h1 : lo ρ1 = some (l, ρ2)) (h2 : hi ρ2 = some (h, ρ3)) (h3 : dat ρ3 r = some (.list (xs.map e))) : eCut f lo hi ρ = some (.ow (.lst ((cutT xs l h).map e)), ρ3) := by
  unfold eCut
  rw [ha]
  simp only [Option.bind_some]
  rw [h1]
  simp only [Option.bind_some]
  rw [h2]
  simp only [Option.bind_some]
  rw [h3]
  simp only [Option.bind_some, cutG, cut_e]
  rfl
theorem cutT_ {f : M} {lo hi : MO} {ρ ρ1 ρ2 ρ3 : Rho} {r : Rv} {l h : Option Int} {xs : List α} (ha : pkM f ρ = some (r, ρ1)) (h1 : lo ρ1 = some (l, ρ2)) (h2 : hi ρ2 = some (h, ρ3)) (h3 : dat ρ3 r = some (.tuple (xs.map e))) : eCut f lo hi ρ = some (.sh (.tuple ((cutT xs l h).map e)), ρ3) := by
  unfold eCut
  rw [ha]
  simp only [Option.bind_some]
  rw [h1]
  simp only [Option.bind_some]
  rw [h2]
  simp only [Option.bind_some]
  rw [h3]
  simp only [Option.bind_some, cutG, cut_e]
  rfl
theorem ono_ (ρ : Rho) : oNo ρ = some (none, ρ) := rfl
theorem oint_ {f : M} {ρ ρ1 : Rho} {i : Int} (h : f ρ = some (.sh (eI i), ρ1)) : oInt f ρ = some (some i, ρ1) := by
  unfold oInt
  rw [h]
  rfl
theorem revT_e (xs : List α) : revD (.tuple (xs.map e)) = some (.sh (.tuple (xs.reverse.map e))) := by
  show some (Rz.sh (.tuple (xs.map e).reverse)) = _
  rw [List.map_reverse]
theorem revL_e (xs : List α) : revD (.list (xs.map e)) = some (.ow (.lst (xs.reverse.map e))) := by
  show some (Rz.ow (.lst (xs.map e).reverse)) = _
  rw [List.map_reverse]
theorem tupL_e (xs : List α) : tupleG [.list (xs.map e)] = some (.sh (.tuple (xs.map e))) := rfl
theorem tupT_e (xs : List α) : tupleG [.tuple (xs.map e)] = some (.sh (.tuple (xs.map e))) := rfl
theorem lstL_e (xs : List α) : listG [.list (xs.map e)] = some (.ow (.lst (xs.map e))) := rfl
theorem lstT_e (xs : List α) : listG [.tuple (xs.map e)] = some (.ow (.lst (xs.map e))) := rfl
theorem lenL_e (xs : List α) : lenG [.list (xs.map e)] = some (.sh (eI (xs.length : Int))) := by
  show some (Rz.sh (.int ((xs.map e).length : Int))) = _
  rw [List.length_map]
  rfl
theorem lenT_e (xs : List α) : lenG [.tuple (xs.map e)] = some (.sh (eI (xs.length : Int))) := by
  show some (Rz.sh (.int ((xs.map e).length : Int))) = _
  rw [List.length_map]
  rfl
theorem lenAL_e (xs : List α) : lenA [.list (xs.map e)] = some (.sh (eI (xs.length : Int))) := lenL_e xs
theorem lenAT_e (xs : List α) : lenA [.tuple (xs.map e)] = some (.sh (eI (xs.length : Int))) := lenT_e xs
def lenaO (d : Dv) : Option Int := match lenG [d] with
  | some (.sh (.int z)) => some z
  | _ => none
theorem lena_e {d : Dv} {z : Int} (h : lenaO d = some z) : lenG [d] = some (.sh (eI z)) := by
  unfold lenaO at h
  split at h
  · rename_i h2
    cases h
    exact h2
  · cases h
theorem sumL_e (xs : List Int) : sumG [.list (xs.map eI)] = some (.sh (eI xs.sum)) := by
  show (intsOf (xs.map PyData.int)).map _ = _
  rw [intsOf_map]
  rfl
theorem sumT_e (xs : List Int) : sumG [.tuple (xs.map eI)] = some (.sh (eI xs.sum)) := by
  show (intsOf (xs.map PyData.int)).map _ = _
  rw [intsOf_map]
  rfl
theorem isEmpty_map (xs : List α) : (xs.map e).isEmpty = xs.isEmpty := by cases xs <;> rfl
theorem truL_e (xs : List α) : truD (.list (xs.map e)) = some (!xs.isEmpty) := by
  show some (!(xs.map e).isEmpty) = _
  rw [isEmpty_map]
theorem truT_e (xs : List α) : truD (.tuple (xs.map e)) = some (!xs.isEmpty) := by
  show some (!(xs.map e).isEmpty) = _
  rw [isEmpty_map]
theorem tru_i (i : Int) : truD (eI i) = some (i != 0) := rfl
theorem tru_b (i : Bool) : truD (eB i) = some i := rfl
/-! `is True`, isinstance -/
theorem isi_e {T : String} {d : Dv} {b : Bool} (h : tagD d = false) (h2 : isT T d = b) : isiD T d = some (.sh (eB b)) := by
  unfold isiD
  rw [if_neg (by rw [h]; decide), h2]
  rfl
def isiO (T : String) (d : Dv) : Option Bool := if tagD d = true then none else some (isT T d)
theorem isi_a {T : String} {d : Dv} {b : Bool} (h : isiO T d = some b) : isiD T d = some (.sh (eB b)) := by
  unfold isiO at h
  unfold isiD
  split at h
  · cases h
  · rename_i hc
    cases h
    rw [if_neg hc]
    rfl
/-! ### dicts -/
def ekv {κ ν : Type} (ek : κ → Dv) (ev : ν → Dv) : κ × ν → Dv × Dv := fun p => (ek p.1, ev p.2)
class KeyE {κ : Type} (ek : κ → Dv) extends EqE ek where
  okt : ∀ a, okT (ek a) = true
  same : ∀ a b, decide (keyN (ek a) = keyN (ek b)) = EqE.eq ek a b
class KeyI {κ : Type} (ek : κ → Dv) extends EqE ek where
  okt : ∀ a, isKey (ek a) = true
  same : ∀ a b, eqKey (ek a) (ek b) = EqE.eq ek a b
instance : KeyI eI where
  okt _ := rfl
  same _ _ := rfl
section
variable {κ ν : Type} {ek : κ → Dv} {ev : ν → Dv}
def dgetO (q : κ → κ → Bool) : List (κ × ν) → κ → Option ν
  | [], _ => none
  | p :: r, k => if q p.1 k = true then some p.2 else dgetO q r k
def dput (q : κ → κ → Bool) (kvs : List (κ × ν)) (k : κ) (v : ν) : List (κ × ν) := if kvs.any (fun p => q p.1 k) = true then kvs.map (fun p => if q p.1 k = true then (p.1, v) else p) else kvs ++ [(k, v)]
def dputO (q : κ → κ → Bool) (kvs : List (κ × ν)) (k : κ) (v : ν) : Option (List (κ × ν)) := if kvs.length < sizeLine then some (dput q kvs k v) else none
theorem getD_e [KeyI ek] (k : κ) : ∀ kvs : List (κ × ν), getD (kvs.map (ekv ek ev)) (ek k) = (dgetO (EqE.eq ek) kvs k).map ev
  | [] => rfl
  | p :: r => by
    rw [List.map_cons]
    show (if eqKey (ek p.1) (ek k) = true then some (ev p.2) else getD (r.map _) (ek k)) = _
    unfold dgetO
    rw [KeyI.same, getD_e k r]
    split <;> rfl
theorem putD_e [KeyI ek] (kvs : List (κ × ν)) (k : κ) (v : ν) : putD (kvs.map (ekv ek ev)) (ek k) (ev v) = (dput (EqE.eq ek) kvs k v).map (ekv ek ev) := by
  unfold putD dput
  rw [List.any_map]
  rw [show ((fun p : Dv × Dv => eqKey p.1 (ek k)) ∘ ekv ek ev) = fun p : κ × ν => EqE.eq ek p.1 k from funext fun p => KeyI.same p.1 k]
  split
  · rw [List.map_map, List.map_map]
    congr 1
    funext p
    show (if eqKey (ek p.1) (ek k) = true then _ else _) = ekv ek ev (if _ then _ else _)
    rw [KeyI.same]
    split <;> rfl
  · simp [ekv]
theorem getN_e [KeyE ek] (k : κ) : ∀ kvs : List (κ × ν), getN (kvs.map (ekv ek ev)) (ek k) = (dgetO (EqE.eq ek) kvs k).map ev
  | [] => rfl
  | p :: r => by
    rw [List.map_cons]
    show (if keyN (ek p.1) = keyN (ek k) then some (ev p.2) else getN (r.map _) (ek k)) = _
    unfold dgetO
    rw [← KeyE.same (ek := ek), getN_e k r]
    by_cases h : keyN (ek p.1) = keyN (ek k)
    · rw [if_pos h, if_pos (decide_eq_true h)]
      rfl
    · rw [if_neg h, if_neg (by simpa using h)]
theorem putN_e [KeyE ek] (kvs : List (κ × ν)) (k : κ) (v : ν) : putN (kvs.map (ekv ek ev)) (ek k) (ev v) = (dput (EqE.eq ek) kvs k v).map (ekv ek ev) := by
  unfold putN dput
  rw [List.any_map]
  rw [show ((fun p : Dv × Dv => decide (keyN p.1 = keyN (ek k))) ∘ ekv ek ev) = fun p : κ × ν => EqE.eq ek p.1 k from funext fun p => KeyE.same p.1 k]
  split
  · rw [List.map_map, List.map_map]
    congr 1
    funext p
    show (if keyN (ek p.1) = keyN (ek k) then _ else _) = ekv ek ev (if _ then _ else _)
    rw [← KeyE.same (ek := ek)]
    by_cases h : keyN (ek p.1) = keyN (ek k)
    · rw [if_pos h, if_pos (decide_eq_true h)]
      rfl
    · rw [if_neg h, if_neg (by simpa using h)]
  · simp [ekv]
theorem setI_e [KeyI ek] {kvs zs : List (κ × ν)} {k : κ} {v : ν} (h : dputO (EqE.eq ek) kvs k v = some zs) : setOb (.dct (kvs.map (ekv ek ev))) (ek k) (ev v) = some (.dct (zs.map (ekv ek ev))) := by
  unfold dputO at h
  split at h
  · rename_i hc
    cases h
    have hk := KeyI.okt (ek := ek) k
    show (if isKey (ek k) = true ∧ (kvs.map (ekv ek ev)).length < sizeLine then some (Ob.dct (putD (kvs.map (ekv ek ev)) (ek k) (ev v))) else none) = _
    rw [if_pos ⟨hk, by rw [List.length_map]; exact hc⟩, putD_e]
  · cases h
theorem setN_e [KeyE ek] {kvs zs : List (κ × ν)} {k : κ} {v : ν} (h : dputO (EqE.eq ek) kvs k v = some zs) : setOb (.dtn (kvs.map (ekv ek ev))) (ek k) (ev v) = some (.dtn (zs.map (ekv ek ev))) := by
  unfold dputO at h
  split at h
  · rename_i hc
    cases h
    have hk := KeyE.okt (ek := ek) k
    show (if okT (ek k) = true ∧ (kvs.map (ekv ek ev)).length < sizeLine then some (Ob.dtn (putN (kvs.map (ekv ek ev)) (ek k) (ev v))) else none) = _
    rw [if_pos ⟨hk, by rw [List.length_map]; exact hc⟩, putN_e]
  · cases h
def dhas (q : κ → κ → Bool) (kvs : List (κ × ν)) (k : κ) : Bool := (dgetO q kvs k).isSome
theorem isKey_okT {d : Dv} (h : okT d = true) : isKey d = false := by
  cases d <;> first | rfl | cases h
theorem inN_e [KeyE ek] (kvs : List (κ × ν)) (k : κ) : inAD (ek k) (obD (.dtn (kvs.map (ekv ek ev)))) = some (.sh (eB (dhas (EqE.eq ek) kvs k))) := by
  have hk := KeyE.okt (ek := ek) k
  unfold inAD inA obD
  simp only [plD, isKey_okT hk, List.tail_cons, getN_e, hk]
  simp [dhas]
  rfl
theorem ninN_e [KeyE ek] (kvs : List (κ × ν)) (k : κ) : ninAD (ek k) (obD (.dtn (kvs.map (ekv ek ev)))) = some (.sh (eB (!dhas (EqE.eq ek) kvs k))) := by
  have hk := KeyE.okt (ek := ek) k
  unfold ninAD inA obD
  simp only [plD, isKey_okT hk, List.tail_cons, getN_e, hk]
  simp [dhas]
  rfl
theorem plD_ek [KeyI ek] : ∀ kvs : List (κ × ν), plD (kvs.map (ekv ek ev)) = true
  | [] => rfl
  | p :: r => by
    have := KeyI.okt (ek := ek) p.1
    show plD ((ek p.1, _) :: _) = true
    cases h : ek p.1 <;> first | rfl | (rw [h] at this; cases this)
theorem inI_e [KeyI ek] (kvs : List (κ × ν)) (k : κ) : inAD (ek k) (obD (.dct (kvs.map (ekv ek ev)))) = some (.sh (eB (dhas (EqE.eq ek) kvs k))) := by
  have hk := KeyI.okt (ek := ek) k
  unfold inAD inA obD
  simp only [plD_ek, hk, getD_e]
  simp [dhas]
  rfl
theorem ninI_e [KeyI ek] (kvs : List (κ × ν)) (k : κ) : ninAD (ek k) (obD (.dct (kvs.map (ekv ek ev)))) = some (.sh (eB (!dhas (EqE.eq ek) kvs k))) := by
  have hk := KeyI.okt (ek := ek) k
  unfold ninAD inA obD
  simp only [plD_ek, hk, getD_e]
  simp [dhas]
  rfl
theorem ixI_e [KeyI ek] {kvs : List (κ × ν)} {k : κ} {v : ν} (h : dgetO (EqE.eq ek) kvs k = some v) : ixA (obD (.dct (kvs.map (ekv ek ev)))) (ek k) = some (.sh (ev v)) := by
  have hk := KeyI.okt (ek := ek) k
  unfold ixA obD
  simp only [plD_ek, hk, getD_e, h]
  rfl
theorem getI_e [KeyI ek] {kvs : List (κ × ν)} {k : κ} {v : ν} (h : dgetO (EqE.eq ek) kvs k = some v) : getOb (.dct (kvs.map (ekv ek ev))) (ek k) = some (ev v) := by
  have hk := KeyI.okt (ek := ek) k
  show (if isKey (ek k) = true then getD (kvs.map (ekv ek ev)) (ek k) else none) = _
  rw [if_pos hk, getD_e, h]
  rfl
end
/-! keys that are tuples of ints, and of such -/
theorem keyN_i (i : Int) : keyN (eI i) = some (.num i) := rfl
class NestE {κ : Type} (ek : κ → Dv) extends EqE ek where
  key : κ → NestedKey
  dpt : Nat
  kn : ∀ a, keyN (ek a) = some (key a)
  kd : ∀ a, (key a).depth ≤ dpt
  ki : ∀ a b, key a = key b → a = b
instance : NestE eI where
  key i := .num i
  dpt := 0
  kn _ := rfl
  kd _ := Nat.le_refl _
  ki a b h := by cases h; rfl
theorem keyNs_map {κ : Type} {ek : κ → Dv} [NestE ek] : ∀ xs : List κ, keyNs (xs.map ek) = some (xs.map (NestE.key ek))
  | [] => rfl
  | x :: xs => by
    rw [List.map_cons]
    show (keyN (ek x)).bind _ = _
    rw [NestE.kn, keyNs_map xs]
    rfl
theorem keyd_map {κ : Type} {ek : κ → Dv} [NestE ek] : ∀ xs : List κ, NestedKey.depthAll (xs.map (NestE.key ek)) ≤ NestE.dpt ek
  | [] => Nat.zero_le _
  | x :: xs => by
    have := NestE.kd (ek := ek) x
    have := keyd_map (ek := ek) xs
    simp only [List.map_cons, NestedKey.depthAll]
    omega
theorem keyi_map {κ : Type} {ek : κ → Dv} [NestE ek] : ∀ xs ys : List κ, xs.map (NestE.key ek) = ys.map (NestE.key ek) → xs = ys
  | [], [], _ => rfl
  | [], _ :: _, h => by cases h
  | _ :: _, [], h => by cases h
  | x :: xs, y :: ys, h => by
    simp only [List.map_cons, List.cons.injEq] at h
    rw [NestE.ki x y h.1, keyi_map xs ys h.2]
instance {κ : Type} {ek : κ → Dv} [NestE ek] : NestE (eT ek) where
  key xs := .tup (xs.map (NestE.key ek))
  dpt := NestE.dpt ek + 1
  kn xs := by
    show (keyNs (xs.map ek)).map _ = _
    rw [keyNs_map]
    rfl
  kd xs := by
    have := keyd_map (ek := ek) xs
    simp only [NestedKey.depth]
    omega
  ki xs ys h := keyi_map xs ys (NestedKey.tup.inj h)
instance {κ κ' : Type} {ek : κ → Dv} {ek' : κ' → Dv} [NestE ek] [NestE ek'] : NestE (e2 ek ek') where
  key x := .tup [NestE.key ek x.1, NestE.key ek' x.2]
  dpt := max (NestE.dpt ek) (NestE.dpt ek') + 1
  kn x := by
    show (keyNs [ek x.1, ek' x.2]).map _ = _
    simp [keyNs, NestE.kn]
  kd x := by
    have := NestE.kd (ek := ek) x.1
    have := NestE.kd (ek := ek') x.2
    simp only [NestedKey.depth, NestedKey.depthAll]
    omega
  ki x y h := by
    obtain ⟨x1, x2⟩ := x
    obtain ⟨y1, y2⟩ := y
    have h := NestedKey.tup.inj h
    simp only [List.cons.injEq] at h
    rw [NestE.ki _ _ h.1, NestE.ki _ _ h.2.1]
instance {κ κ' κ'' : Type} {ek : κ → Dv} {ek' : κ' → Dv} {ek'' : κ'' → Dv} [NestE ek] [NestE ek'] [NestE ek''] : NestE (e3 ek ek' ek'') where
  key x := .tup [NestE.key ek x.1, NestE.key ek' x.2.1, NestE.key ek'' x.2.2]
  dpt := max (NestE.dpt ek) (max (NestE.dpt ek') (NestE.dpt ek'')) + 1
  kn x := by
    show (keyNs [ek x.1, ek' x.2.1, ek'' x.2.2]).map _ = _
    simp [keyNs, NestE.kn]
  kd x := by
    have := NestE.kd (ek := ek) x.1
    have := NestE.kd (ek := ek') x.2.1
    have := NestE.kd (ek := ek'') x.2.2
    simp only [NestedKey.depth, NestedKey.depthAll]
    omega
  ki x y h := by
    obtain ⟨x1, x2, x3⟩ := x
    obtain ⟨y1, y2, y3⟩ := y
    have h := NestedKey.tup.inj h
    simp only [List.cons.injEq] at h
    rw [NestE.ki _ _ h.1, NestE.ki _ _ h.2.1, NestE.ki _ _ h.2.2.1]
class IsTupE {κ : Type} (ek : κ → Dv) where
  tup : ∀ a, ∃ ds, ek a = .tuple ds
instance {κ : Type} {ek : κ → Dv} : IsTupE (eT ek) := ⟨fun xs => ⟨_, rfl⟩⟩
instance {κ κ' : Type} {ek : κ → Dv} {ek' : κ' → Dv} : IsTupE (e2 ek ek') := ⟨fun xs => ⟨_, rfl⟩⟩
instance {κ κ' κ'' : Type} {ek : κ → Dv} {ek' : κ' → Dv} {ek'' : κ'' → Dv} : IsTupE (e3 ek ek' ek'') := ⟨fun xs => ⟨_, rfl⟩⟩
class Le8 (n : Nat) : Prop where
  le : n ≤ 8
@[reducible] def keyE_of {κ : Type} (ek : κ → Dv) [NestE ek] [IsTupE ek] (h : NestE.dpt ek ≤ 8) : KeyE ek where
  okt a := by
    obtain ⟨ds, hd⟩ := IsTupE.tup (ek := ek) a
    have hk := NestE.kn (ek := ek) a
    rw [hd] at hk ⊢
    unfold okT okN
    rw [hk]
    exact decide_eq_true (Nat.le_trans (NestE.kd a) h)
  same a b := by
    rw [NestE.kn, NestE.kn]
    by_cases hab : a = b
    · subst hab
      rw [(EqE.iff a a).mpr rfl]
      simp
    · rw [eqE_ne.mpr hab |> (fun h => (show EqE.eq ek a b = false from h))]
      refine decide_eq_false fun h => hab (NestE.ki _ _ (Option.some.inj h))
instance : KeyE (eT eI) := keyE_of _ (by decide)
instance : KeyE (e2 eI eI) := keyE_of _ (by decide)
instance : KeyE (e3 eI eI eI) := keyE_of _ (by decide)
instance : KeyE (eT (eT eI)) := keyE_of _ (by decide)
instance : KeyE (eT (e2 eI eI)) := keyE_of _ (by decide)
instance : KeyE (e2 (eT eI) (eT eI)) := keyE_of _ (by decide)
end
end DL

set_option Elab.async false
set_option linter.all false
set_option autoImplicit false
set_option maxRecDepth 100000
namespace DL
open PySem PySem.Spec PyProof.Rows L2
theorem ev_0 {d : Dv} {r : Rho} : eVar 0 (.sh d :: r) = some (.sh d, .sh d :: r) := rfl
theorem eva_0 {o : Ob} {r : Rho} : eVar 0 (.ow o :: r) = some (.al 0, .ow o :: r) := rfl
theorem ev_1 {s0 : Sl} {d : Dv} {r : Rho} : eVar 1 (s0 :: .sh d :: r) = some (.sh d, s0 :: .sh d :: r) := rfl
theorem eva_1 {s0 : Sl} {o : Ob} {r : Rho} : eVar 1 (s0 :: .ow o :: r) = some (.al 1, s0 :: .ow o :: r) := rfl
theorem ev_2 {s0 s1 : Sl} {d : Dv} {r : Rho} : eVar 2 (s0 :: s1 :: .sh d :: r) = some (.sh d, s0 :: s1 :: .sh d :: r) := rfl
theorem eva_2 {s0 s1 : Sl} {o : Ob} {r : Rho} : eVar 2 (s0 :: s1 :: .ow o :: r) = some (.al 2, s0 :: s1 :: .ow o :: r) := rfl
theorem ev_3 {s0 s1 s2 : Sl} {d : Dv} {r : Rho} : eVar 3 (s0 :: s1 :: s2 :: .sh d :: r) = some (.sh d, s0 :: s1 :: s2 :: .sh d :: r) := rfl
theorem eva_3 {s0 s1 s2 : Sl} {o : Ob} {r : Rho} : eVar 3 (s0 :: s1 :: s2 :: .ow o :: r) = some (.al 3, s0 :: s1 :: s2 :: .ow o :: r) := rfl
theorem ev_4 {s0 s1 s2 s3 : Sl} {d : Dv} {r : Rho} : eVar 4 (s0 :: s1 :: s2 :: s3 :: .sh d :: r) = some (.sh d, s0 :: s1 :: s2 :: s3 :: .sh d :: r) := rfl
theorem eva_4 {s0 s1 s2 s3 : Sl} {o : Ob} {r : Rho} : eVar 4 (s0 :: s1 :: s2 :: s3 :: .ow o :: r) = some (.al 4, s0 :: s1 :: s2 :: s3 :: .ow o :: r) := rfl
theorem ev_5 {s0 s1 s2 s3 s4 : Sl} {d : Dv} {r : Rho} : eVar 5 (s0 :: s1 :: s2 :: s3 :: s4 :: .sh d :: r) = some (.sh d, s0 :: s1 :: s2 :: s3 :: s4 :: .sh d :: r) := rfl
theorem eva_5 {s0 s1 s2 s3 s4 : Sl} {o : Ob} {r : Rho} : eVar 5 (s0 :: s1 :: s2 :: s3 :: s4 :: .ow o :: r) = some (.al 5, s0 :: s1 :: s2 :: s3 :: s4 :: .ow o :: r) := rfl
theorem ev_6 {s0 s1 s2 s3 s4 s5 : Sl} {d : Dv} {r : Rho} : eVar 6 (s0 :: s1 :: s2 :: s3 :: s4 :: s5 :: .sh d :: r) = some (.sh d, s0 :: s1 :: s2 :: s3 :: s4 :: s5 :: .sh d :: r) := rfl
theorem eva_6 {s0 s1 s2 s3 s4 s5 : Sl} {o : Ob} {r : Rho} : eVar 6 (s0 :: s1 :: s2 :: s3 :: s4 :: s5 :: .ow o :: r) = some (.al 6, s0 :: s1 :: s2 :: s3 :: s4 :: s5 :: .ow o :: r) := rfl
theorem ev_7 {s0 s1 s2 s3 s4 s5 s6 : Sl} {d : Dv} {r : Rho} : eVar 7 (s0 :: s1 :: s2 :: s3 :: s4 :: s5 :: s6 :: .sh d :: r) = some (.sh d, s0 :: s1 :: s2 :: s3 :: s4 :: s5 :: s6 :: .sh d :: r) := rfl
theorem eva_7 {s0 s1 s2 s3 s4 s5 s6 : Sl} {o : Ob} {r : Rho} : eVar 7 (s0 :: s1 :: s2 :: s3 :: s4 :: s5 :: s6 :: .ow o :: r) = some (.al 7, s0 :: s1 :: s2 :: s3 :: s4 :: s5 :: s6 :: .ow o :: r) := rfl
theorem ev_8 {s0 s1 s2 s3 s4 s5 s6 s7 : Sl} {d : Dv} {r : Rho} : eVar 8 (s0 :: s1 :: s2 :: s3 :: s4 :: s5 :: s6 :: s7 :: .sh d :: r) = some (.sh d, s0 :: s1 :: s2 :: s3 :: s4 :: s5 :: s6 :: s7 :: .sh d :: r) := rfl
theorem eva_8 {s0 s1 s2 s3 s4 s5 s6 s7 : Sl} {o : Ob} {r : Rho} : eVar 8 (s0 :: s1 :: s2 :: s3 :: s4 :: s5 :: s6 :: s7 :: .ow o :: r) = some (.al 8, s0 :: s1 :: s2 :: s3 :: s4 :: s5 :: s6 :: s7 :: .ow o :: r) := rfl
theorem ev_9 {s0 s1 s2 s3 s4 s5 s6 s7 s8 : Sl} {d : Dv} {r : Rho} : eVar 9 (s0 :: s1 :: s2 :: s3 :: s4 :: s5 :: s6 :: s7 :: s8 :: .sh d :: r) = some (.sh d, s0 :: s1 :: s2 :: s3 :: s4 :: s5 :: s6 :: s7 :: s8 :: .sh d :: r) := rfl
theorem eva_9 {s0 s1 s2 s3 s4 s5 s6 s7 s8 : Sl} {o : Ob} {r : Rho} : eVar 9 (s0 :: s1 :: s2 :: s3 :: s4 :: s5 :: s6 :: s7 :: s8 :: .ow o :: r) = some (.al 9, s0 :: s1 :: s2 :: s3 :: s4 :: s5 :: s6 :: s7 :: s8 :: .ow o :: r) := rfl
theorem ev_10 {s0 s1 s2 s3 s4 s5 s6 s7 s8 s9 : Sl} {d : Dv} {r : Rho} : eVar 10 (s0 :: s1 :: s2 :: s3 :: s4 :: s5 :: s6 :: s7 :: s8 :: s9 :: .sh d :: r) = some (.sh d, s0 :: s1 :: s2 :: s3 :: s4 :: s5 :: s6 :: s7 :: s8 :: s9 :: .sh d :: r) := rfl
theorem eva_10 {s0 s1 s2 s3 s4 s5 s6 s7 s8 s9 : Sl} {o : Ob} {r : Rho} : eVar 10 (s0 :: s1 :: s2 :: s3 :: s4 :: s5 :: s6 :: s7 :: s8 :: s9 :: .ow o :: r) = some (.al 10, s0 :: s1 :: s2 :: s3 :: s4 :: s5 :: s6 :: s7 :: s8 :: s9 :: .ow o :: r) := rfl
theorem ev_11 {s0 s1 s2 s3 s4 s5 s6 s7 s8 s9 s10 : Sl} {d : Dv} {r : Rho} : eVar 11 (s0 :: s1 :: s2 :: s3 :: s4 :: s5 :: s6 :: s7 :: s8 :: s9 :: s10 :: .sh d :: r) = some (.sh d, s0 :: s1 :: s2 :: s3 :: s4 :: s5 :: s6 :: s7 :: s8 :: s9 :: s10 :: .sh d :: r) := rfl
theorem eva_11 {s0 s1 s2 s3 s4 s5 s6 s7 s8 s9 s10 : Sl} {o : Ob} {r : Rho} : eVar 11 (s0 :: s1 :: s2 :: s3 :: s4 :: s5 :: s6 :: s7 :: s8 :: s9 :: s10 :: .ow o :: r) = some (.al 11, s0 :: s1 :: s2 :: s3 :: s4 :: s5 :: s6 :: s7 :: s8 :: s9 :: s10 :: .ow o :: r) := rfl
theorem ev_12 {s0 s1 s2 s3 s4 s5 s6 s7 s8 s9 s10 s11 : Sl} {d : Dv} {r : Rho} : eVar 12 (s0 :: s1 :: s2 :: s3 :: s4 :: s5 :: s6 :: s7 :: s8 :: s9 :: s10 :: s11 :: .sh d :: r) = some (.sh d, s0 :: s1 :: s2 :: s3 :: s4 :: s5 :: s6 :: s7 :: s8 :: s9 :: s10 :: s11 :: .sh d :: r) := rfl
theorem eva_12 {s0 s1 s2 s3 s4 s5 s6 s7 s8 s9 s10 s11 : Sl} {o : Ob} {r : Rho} : eVar 12 (s0 :: s1 :: s2 :: s3 :: s4 :: s5 :: s6 :: s7 :: s8 :: s9 :: s10 :: s11 :: .ow o :: r) = some (.al 12, s0 :: s1 :: s2 :: s3 :: s4 :: s5 :: s6 :: s7 :: s8 :: s9 :: s10 :: s11 :: .ow o :: r) := rfl
theorem ev_13 {s0 s1 s2 s3 s4 s5 s6 s7 s8 s9 s10 s11 s12 : Sl} {d : Dv} {r : Rho} : eVar 13 (s0 :: s1 :: s2 :: s3 :: s4 :: s5 :: s6 :: s7 :: s8 :: s9 :: s10 :: s11 :: s12 :: .sh d :: r) = some (.sh d, s0 :: s1 :: s2 :: s3 :: s4 :: s5 :: s6 :: s7 :: s8 :: s9 :: s10 :: s11 :: s12 :: .sh d :: r) := rfl
theorem eva_13 {s0 s1 s2 s3 s4 s5 s6 s7 s8 s9 s10 s11 s12 : Sl} {o : Ob} {r : Rho} : eVar 13 (s0 :: s1 :: s2 :: s3 :: s4 :: s5 :: s6 :: s7 :: s8 :: s9 :: s10 :: s11 :: s12 :: .ow o :: r) = some (.al 13, s0 :: s1 :: s2 :: s3 :: s4 :: s5 :: s6 :: s7 :: s8 :: s9 :: s10 :: s11 :: s12 :: .ow o :: r) := rfl
theorem ev_14 {s0 s1 s2 s3 s4 s5 s6 s7 s8 s9 s10 s11 s12 s13 : Sl} {d : Dv} {r : Rho} : eVar 14 (s0 :: s1 :: s2 :: s3 :: s4 :: s5 :: s6 :: s7 :: s8 :: s9 :: s10 :: s11 :: s12 :: s13 :: .sh d :: r) = some (.sh d, s0 :: s1 :: s2 :: s3 :: s4 :: s5 :: s6 :: s7 :: s8 :: s9 :: s10 :: s11 :: s12 :: s13 :: .sh d :: r) := rfl
theorem eva_14 {s0 s1 s2 s3 s4 s5 s6 s7 s8 s9 s10 s11 s12 s13 : Sl} {o : Ob} {r : Rho} : eVar 14 (s0 :: s1 :: s2 :: s3 :: s4 :: s5 :: s6 :: s7 :: s8 :: s9 :: s10 :: s11 :: s12 :: s13 :: .ow o :: r) = some (.al 14, s0 :: s1 :: s2 :: s3 :: s4 :: s5 :: s6 :: s7 :: s8 :: s9 :: s10 :: s11 :: s12 :: s13 :: .ow o :: r) := rfl
theorem ev_15 {s0 s1 s2 s3 s4 s5 s6 s7 s8 s9 s10 s11 s12 s13 s14 : Sl} {d : Dv} {r : Rho} : eVar 15 (s0 :: s1 :: s2 :: s3 :: s4 :: s5 :: s6 :: s7 :: s8 :: s9 :: s10 :: s11 :: s12 :: s13 :: s14 :: .sh d :: r) = some (.sh d, s0 :: s1 :: s2 :: s3 :: s4 :: s5 :: s6 :: s7 :: s8 :: s9 :: s10 :: s11 :: s12 :: s13 :: s14 :: .sh d :: r) := rfl
theorem eva_15 {s0 s1 s2 s3 s4 s5 s6 s7 s8 s9 s10 s11 s12 s13 s14 : Sl} {o : Ob} {r : Rho} : eVar 15 (s0 :: s1 :: s2 :: s3 :: s4 :: s5 :: s6 :: s7 :: s8 :: s9 :: s10 :: s11 :: s12 :: s13 :: s14 :: .ow o :: r) = some (.al 15, s0 :: s1 :: s2 :: s3 :: s4 :: s5 :: s6 :: s7 :: s8 :: s9 :: s10 :: s11 :: s12 :: s13 :: s14 :: .ow o :: r) := rfl
theorem ev_16 {s0 s1 s2 s3 s4 s5 s6 s7 s8 s9 s10 s11 s12 s13 s14 s15 : Sl} {d : Dv} {r : Rho} : eVar 16 (s0 :: s1 :: s2 :: s3 :: s4 :: s5 :: s6 :: s7 :: s8 :: s9 :: s10 :: s11 :: s12 :: s13 :: s14 :: s15 :: .sh d :: r) = some (.sh d, s0 :: s1 :: s2 :: s3 :: s4 :: s5 :: s6 :: s7 :: s8 :: s9 :: s10 :: s11 :: s12 :: s13 :: s14 :: s15 :: .sh d :: r) := rfl
theorem eva_16 {s0 s1 s2 s3 s4 s5 s6 s7 s8 s9 s10 s11 s12 s13 s14 s15 : Sl} {o : Ob} {r : Rho} : eVar 16 (s0 :: s1 :: s2 :: s3 :: s4 :: s5 :: s6 :: s7 :: s8 :: s9 :: s10 :: s11 :: s12 :: s13 :: s14 :: s15 :: .ow o :: r) = some (.al 16, s0 :: s1 :: s2 :: s3 :: s4 :: s5 :: s6 :: s7 :: s8 :: s9 :: s10 :: s11 :: s12 :: s13 :: s14 :: s15 :: .ow o :: r) := rfl
theorem ev_17 {s0 s1 s2 s3 s4 s5 s6 s7 s8 s9 s10 s11 s12 s13 s14 s15 s16 : Sl} {d : Dv} {r : Rho} : eVar 17 (s0 :: s1 :: s2 :: s3 :: s4 :: s5 :: s6 :: s7 :: s8 :: s9 :: s10 :: s11 :: s12 :: s13 :: s14 :: s15 :: s16 :: .sh d :: r) = some (.sh d, s0 :: s1 :: s2 :: s3 :: s4 :: s5 :: s6 :: s7 :: s8 :: s9 :: s10 :: s11 :: s12 :: s13 :: s14 :: s15 :: s16 :: .sh d :: r) := rfl
theorem eva_17 {s0 s1 s2 s3 s4 s5 s6 s7 s8 s9 s10 s11 s12 s13 s14 s15 s16 : Sl} {o : Ob} {r : Rho} : eVar 17 (s0 :: s1 :: s2 :: s3 :: s4 :: s5 :: s6 :: s7 :: s8 :: s9 :: s10 :: s11 :: s12 :: s13 :: s14 :: s15 :: s16 :: .ow o :: r) = some (.al 17, s0 :: s1 :: s2 :: s3 :: s4 :: s5 :: s6 :: s7 :: s8 :: s9 :: s10 :: s11 :: s12 :: s13 :: s14 :: s15 :: s16 :: .ow o :: r) := rfl
theorem ev_18 {s0 s1 s2 s3 s4 s5 s6 s7 s8 s9 s10 s11 s12 s13 s14 s15 s16 s17 : Sl} {d : Dv} {r : Rho} : eVar 18 (s0 :: s1 :: s2 :: s3 :: s4 :: s5 :: s6 :: s7 :: s8 :: s9 :: s10 :: s11 :: s12 :: s13 :: s14 :: s15 :: s16 :: s17 :: .sh d :: r) = some (.sh d, s0 :: s1 :: s2 :: s3 :: s4 :: s5 :: s6 :: s7 :: s8 :: s9 :: s10 :: s11 :: s12 :: s13 :: s14 :: s15 :: s16 :: s17 :: .sh d :: r) := rfl
theorem eva_18 {s0 s1 s2 s3 s4 s5 s6 s7 s8 s9 s10 s11 s12 s13 s14 s15 s16 s17 : Sl} {o : Ob} {r : Rho} : eVar 18 (s0 :: s1 :: s2 :: s3 :: s4 :: s5 :: s6 :: s7 :: s8 :: s9 :: s10 :: s11 :: s12 :: s13 :: s14 :: s15 :: s16 :: s17 :: .ow o :: r) = some (.al 18, s0 :: s1 :: s2 :: s3 :: s4 :: s5 :: s6 :: s7 :: s8 :: s9 :: s10 :: s11 :: s12 :: s13 :: s14 :: s15 :: s16 :: s17 :: .ow o :: r) := rfl
theorem ev_19 {s0 s1 s2 s3 s4 s5 s6 s7 s8 s9 s10 s11 s12 s13 s14 s15 s16 s17 s18 : Sl} {d : Dv} {r : Rho} : eVar 19 (s0 :: s1 :: s2 :: s3 :: s4 :: s5 :: s6 :: s7 :: s8 :: s9 :: s10 :: s11 :: s12 :: s13 :: s14 :: s15 :: s16 :: s17 :: s18 :: .sh d :: r) = some (.sh d, s0 :: s1 :: s2 :: s3 :: s4 :: s5 :: s6 :: s7 :: s8 :: s9 :: s10 :: s11 :: s12 :: s13 :: s14 :: s15 :: s16 :: s17 :: s18 :: .sh d :: r) := rfl
theorem eva_19 {s0 s1 s2 s3 s4 s5 s6 s7 s8 s9 s10 s11 s12 s13 s14 s15 s16 s17 s18 : Sl} {o : Ob} {r : Rho} : eVar 19 (s0 :: s1 :: s2 :: s3 :: s4 :: s5 :: s6 :: s7 :: s8 :: s9 :: s10 :: s11 :: s12 :: s13 :: s14 :: s15 :: s16 :: s17 :: s18 :: .ow o :: r) = some (.al 19, s0 :: s1 :: s2 :: s3 :: s4 :: s5 :: s6 :: s7 :: s8 :: s9 :: s10 :: s11 :: s12 :: s13 :: s14 :: s15 :: s16 :: s17 :: s18 :: .ow o :: r) := rfl
theorem ev_20 {s0 s1 s2 s3 s4 s5 s6 s7 s8 s9 s10 s11 s12 s13 s14 s15 s16 s17 s18 s19 : Sl} {d : Dv} {r : Rho} : eVar 20 (s0 :: s1 :: s2 :: s3 :: s4 :: s5 :: s6 :: s7 :: s8 :: s9 :: s10 :: s11 :: s12 :: s13 :: s14 :: s15 :: s16 :: s17 :: s18 :: s19 :: .sh d :: r) = some (.sh d, s0 :: s1 :: s2 :: s3 :: s4 :: s5 :: s6 :: s7 :: s8 :: s9 :: s10 :: s11 :: s12 :: s13 :: s14 :: s15 :: s16 :: s17 :: s18 :: s19 :: .sh d :: r) := rfl
theorem eva_20 {s0 s1 s2 s3 s4 s5 s6 s7 s8 s9 s10 s11 s12 s13 s14 s15 s16 s17 s18 s19 : Sl} {o : Ob} {r : Rho} : eVar 20 (s0 :: s1 :: s2 :: s3 :: s4 :: s5 :: s6 :: s7 :: s8 :: s9 :: s10 :: s11 :: s12 :: s13 :: s14 :: s15 :: s16 :: s17 :: s18 :: s19 :: .ow o :: r) = some (.al 20, s0 :: s1 :: s2 :: s3 :: s4 :: s5 :: s6 :: s7 :: s8 :: s9 :: s10 :: s11 :: s12 :: s13 :: s14 :: s15 :: s16 :: s17 :: s18 :: s19 :: .ow o :: r) := rfl
theorem ev_21 {s0 s1 s2 s3 s4 s5 s6 s7 s8 s9 s10 s11 s12 s13 s14 s15 s16 s17 s18 s19 s20 : Sl} {d : Dv} {r : Rho} : eVar 21 (s0 :: s1 :: s2 :: s3 :: s4 :: s5 :: s6 :: s7 :: s8 :: s9 :: s10 :: s11 :: s12 :: s13 :: s14 :: s15 :: s16 :: s17 :: s18 :: s19 :: s20 :: .sh d :: r) = some (.sh d, s0 :: s1 :: s2 :: s3 :: s4 :: s5 :: s6 :: s7 :: s8 :: s9 :: s10 :: s11 :: s12 :: s13 :: s14 :: s15 :: s16 :: s17 :: s18 :: s19 :: s20 :: .sh d :: r) := rfl
theorem eva_21 {s0 s1 s2 s3 s4 s5 s6 s7 s8 s9 s10 s11 s12 s13 s14 s15 s16 s17 s18 s19 s20 : Sl} {o : Ob} {r : Rho} : eVar 21 (s0 :: s1 :: s2 :: s3 :: s4 :: s5 :: s6 :: s7 :: s8 :: s9 :: s10 :: s11 :: s12 :: s13 :: s14 :: s15 :: s16 :: s17 :: s18 :: s19 :: s20 :: .ow o :: r) = some (.al 21, s0 :: s1 :: s2 :: s3 :: s4 :: s5 :: s6 :: s7 :: s8 :: s9 :: s10 :: s11 :: s12 :: s13 :: s14 :: s15 :: s16 :: s17 :: s18 :: s19 :: s20 :: .ow o :: r) := rfl
theorem ev_22 {s0 s1 s2 s3 s4 s5 s6 s7 s8 s9 s10 s11 s12 s13 s14 s15 s16 s17 s18 s19 s20 s21 : Sl} {d : Dv} {r : Rho} : eVar 22 (s0 :: s1 :: s2 :: s3 :: s4 :: s5 :: s6 :: s7 :: s8 :: s9 :: s10 :: s11 :: s12 :: s13 :: s14 :: s15 :: s16 :: s17 :: s18 :: s19 :: s20 :: s21 :: .sh d :: r) = some (.sh d, s0 :: s1 :: s2 :: s3 :: s4 :: s5 :: s6 :: s7 :: s8 :: s9 :: s10 :: s11 :: s12 :: s13 :: s14 :: s15 :: s16 :: s17 :: s18 :: s19 :: s20 :: s21 :: .sh d :: r) := rfl
theorem eva_22 {s0 s1 s2 s3 s4 s5 s6 s7 s8 s9 s10 s11 s12 s13 s14 s15 s16 s17 s18 s19 s20 s21 : Sl} {o : Ob} {r : Rho} : eVar 22 (s0 :: s1 :: s2 :: s3 :: s4 :: s5 :: s6 :: s7 :: s8 :: s9 :: s10 :: s11 :: s12 :: s13 :: s14 :: s15 :: s16 :: s17 :: s18 :: s19 :: s20 :: s21 :: .ow o :: r) = some (.al 22, s0 :: s1 :: s2 :: s3 :: s4 :: s5 :: s6 :: s7 :: s8 :: s9 :: s10 :: s11 :: s12 :: s13 :: s14 :: s15 :: s16 :: s17 :: s18 :: s19 :: s20 :: s21 :: .ow o :: r) := rfl
theorem ev_23 {s0 s1 s2 s3 s4 s5 s6 s7 s8 s9 s10 s11 s12 s13 s14 s15 s16 s17 s18 s19 s20 s21 s22 : Sl} {d : Dv} {r : Rho} : eVar 23 (s0 :: s1 :: s2 :: s3 :: s4 :: s5 :: s6 :: s7 :: s8 :: s9 :: s10 :: s11 :: s12 :: s13 :: s14 :: s15 :: s16 :: s17 :: s18 :: s19 :: s20 :: s21 :: s22 :: .sh d :: r) = some (.sh d, s0 :: s1 :: s2 :: s3 :: s4 :: s5 :: s6 :: s7 :: s8 :: s9 :: s10 :: s11 :: s12 :: s13 :: s14 :: s15 :: s16 :: s17 :: s18 :: s19 :: s20 :: s21 :: s22 :: .sh d :: r) := rfl
theorem eva_23 {s0 s1 s2 s3 s4 s5 s6 s7 s8 s9 s10 s11 s12 s13 s14 s15 s16 s17 s18 s19 s20 s21 s22 : Sl} {o : Ob} {r : Rho} : eVar 23 (s0 :: s1 :: s2 :: s3 :: s4 :: s5 :: s6 :: s7 :: s8 :: s9 :: s10 :: s11 :: s12 :: s13 :: s14 :: s15 :: s16 :: s17 :: s18 :: s19 :: s20 :: s21 :: s22 :: .ow o :: r) = some (.al 23, s0 :: s1 :: s2 :: s3 :: s4 :: s5 :: s6 :: s7 :: s8 :: s9 :: s10 :: s11 :: s12 :: s13 :: s14 :: s15 :: s16 :: s17 :: s18 :: s19 :: s20 :: s21 :: s22 :: .ow o :: r) := rfl
theorem ev_24 {s0 s1 s2 s3 s4 s5 s6 s7 s8 s9 s10 s11 s12 s13 s14 s15 s16 s17 s18 s19 s20 s21 s22 s23 : Sl} {d : Dv} {r : Rho} : eVar 24 (s0 :: s1 :: s2 :: s3 :: s4 :: s5 :: s6 :: s7 :: s8 :: s9 :: s10 :: s11 :: s12 :: s13 :: s14 :: s15 :: s16 :: s17 :: s18 :: s19 :: s20 :: s21 :: s22 :: s23 :: .sh d :: r) = some (.sh d, s0 :: s1 :: s2 :: s3 :: s4 :: s5 :: s6 :: s7 :: s8 :: s9 :: s10 :: s11 :: s12 :: s13 :: s14 :: s15 :: s16 :: s17 :: s18 :: s19 :: s20 :: s21 :: s22 :: s23 :: .sh d :: r) := rfl
theorem eva_24 {s0 s1 s2 s3 s4 s5 s6 s7 s8 s9 s10 s11 s12 s13 s14 s15 s16 s17 s18 s19 s20 s21 s22 s23 : Sl} {o : Ob} {r : Rho} : eVar 24 (s0 :: s1 :: s2 :: s3 :: s4 :: s5 :: s6 :: s7 :: s8 :: s9 :: s10 :: s11 :: s12 :: s13 :: s14 :: s15 :: s16 :: s17 :: s18 :: s19 :: s20 :: s21 :: s22 :: s23 :: .ow o :: r) = some (.al 24, s0 :: s1 :: s2 :: s3 :: s4 :: s5 :: s6 :: s7 :: s8 :: s9 :: s10 :: s11 :: s12 :: s13 :: s14 :: s15 :: s16 :: s17 :: s18 :: s19 :: s20 :: s21 :: s22 :: s23 :: .ow o :: r) := rfl
theorem ev_25 {s0 s1 s2 s3 s4 s5 s6 s7 s8 s9 s10 s11 s12 s13 s14 s15 s16 s17 s18 s19 s20 s21 s22 s23 s24 : Sl} {d : Dv} {r : Rho} : eVar 25 (s0 :: s1 :: s2 :: s3 :: s4 :: s5 :: s6 :: s7 :: s8 :: s9 :: s10 :: s11 :: s12 :: s13 :: s14 :: s15 :: s16 :: s17 :: s18 :: s19 :: s20 :: s21 :: s22 :: s23 :: s24 :: .sh d :: r) = some (.sh d, s0 :: s1 :: s2 :: s3 :: s4 :: s5 :: s6 :: s7 :: s8 :: s9 :: s10 :: s11 :: s12 :: s13 :: s14 :: s15 :: s16 :: s17 :: s18 :: s19 :: s20 :: s21 :: s22 :: s23 :: s24 :: .sh d :: r) := rfl
theorem eva_25 {s0 s1 s2 s3 s4 s5 s6 s7 s8 s9 s10 s11 s12 s13 s14 s15 s16 s17 s18 s19 s20 s21 s22 s23 s24 : Sl} {o : Ob} {r : Rho} : eVar 25 (s0 :: s1 :: s2 :: s3 :: s4 :: s5 :: s6 :: s7 :: s8 :: s9 :: s10 :: s11 :: s12 :: s13 :: s14 :: s15 :: s16 :: s17 :: s18 :: s19 :: s20 :: s21 :: s22 :: s23 :: s24 :: .ow o :: r) = some (.al 25, s0 :: s1 :: s2 :: s3 :: s4 :: s5 :: s6 :: s7 :: s8 :: s9 :: s10 :: s11 :: s12 :: s13 :: s14 :: s15 :: s16 :: s17 :: s18 :: s19 :: s20 :: s21 :: s22 :: s23 :: s24 :: .ow o :: r) := rfl
theorem ev_26 {s0 s1 s2 s3 s4 s5 s6 s7 s8 s9 s10 s11 s12 s13 s14 s15 s16 s17 s18 s19 s20 s21 s22 s23 s24 s25 : Sl} {d : Dv} {r : Rho} : eVar 26 (s0 :: s1 :: s2 :: s3 :: s4 :: s5 :: s6 :: s7 :: s8 :: s9 :: s10 :: s11 :: s12 :: s13 :: s14 :: s15 :: s16 :: s17 :: s18 :: s19 :: s20 :: s21 :: s22 :: s23 :: s24 :: s25 :: .sh d :: r) = some (.sh d, s0 :: s1 :: s2 :: s3 :: s4 :: s5 :: s6 :: s7 :: s8 :: s9 :: s10 :: s11 :: s12 :: s13 :: s14 :: s15 :: s16 :: s17 :: s18 :: s19 :: s20 :: s21 :: s22 :: s23 :: s24 :: s25 :: .sh d :: r) := rfl
theorem eva_26 {s0 s1 s2 s3 s4 s5 s6 s7 s8 s9 s10 s11 s12 s13 s14 s15 s16 s17 s18 s19 s20 s21 s22 s23 s24 s25 : Sl} {o : Ob} {r : Rho} : eVar 26 (s0 :: s1 :: s2 :: s3 :: s4 :: s5 :: s6 :: s7 :: s8 :: s9 :: s10 :: s11 :: s12 :: s13 :: s14 :: s15 :: s16 :: s17 :: s18 :: s19 :: s20 :: s21 :: s22 :: s23 :: s24 :: s25 :: .ow o :: r) = some (.al 26, s0 :: s1 :: s2 :: s3 :: s4 :: s5 :: s6 :: s7 :: s8 :: s9 :: s10 :: s11 :: s12 :: s13 :: s14 :: s15 :: s16 :: s17 :: s18 :: s19 :: s20 :: s21 :: s22 :: s23 :: s24 :: s25 :: .ow o :: r) := rfl
theorem ev_27 {s0 s1 s2 s3 s4 s5 s6 s7 s8 s9 s10 s11 s12 s13 s14 s15 s16 s17 s18 s19 s20 s21 s22 s23 s24 s25 s26 : Sl} {d : Dv} {r : Rho} : eVar 27 (s0 :: s1 :: s2 :: s3 :: s4 :: s5 :: s6 :: s7 :: s8 :: s9 :: s10 :: s11 :: s12 :: s13 :: s14 :: s15 :: s16 :: s17 :: s18 :: s19 :: s20 :: s21 :: s22 :: s23 :: s24 :: s25 :: s26 :: .sh d :: r) = some (.sh d, s0 :: s1 :: s2 :: s3 :: s4 :: s5 :: s6 :: s7 :: s8 :: s9 :: s10 :: s11 :: s12 :: s13 :: s14 :: s15 :: s16 :: s17 :: s18 :: s19 :: s20 :: s21 :: s22 :: s23 :: s24 :: s25 :: s26 :: .sh d :: r) := rfl
theorem eva_27 {s0 s1 s2 s3 s4 s5 s6 s7 s8 s9 s10 s11 s12 s13 s14 s15 s16 s17 s18 s19 s20 s21 s22 s23 s24 s25 s26 : Sl} {o : Ob} {r : Rho} : eVar 27 (s0 :: s1 :: s2 :: s3 :: s4 :: s5 :: s6 :: s7 :: s8 :: s9 :: s10 :: s11 :: s12 :: s13 :: s14 :: s15 :: s16 :: s17 :: s18 :: s19 :: s20 :: s21 :: s22 :: s23 :: s24 :: s25 :: s26 :: .ow o :: r) = some (.al 27, s0 :: s1 :: s2 :: s3 :: s4 :: s5 :: s6 :: s7 :: s8 :: s9 :: s10 :: s11 :: s12 :: s13 :: s14 :: s15 :: s16 :: s17 :: s18 :: s19 :: s20 :: s21 :: s22 :: s23 :: s24 :: s25 :: s26 :: .ow o :: r) := rfl
theorem ev_28 {s0 s1 s2 s3 s4 s5 s6 s7 s8 s9 s10 s11 s12 s13 s14 s15 s16 s17 s18 s19 s20 s21 s22 s23 s24 s25 s26 s27 : Sl} {d : Dv} {r : Rho} : eVar 28 (s0 :: s1 :: s2 :: s3 :: s4 :: s5 :: s6 :: s7 :: s8 :: s9 :: s10 :: s11 :: s12 :: s13 :: s14 :: s15 :: s16 :: s17 :: s18 :: s19 :: s20 :: s21 :: s22 :: s23 :: s24 :: s25 :: s26 :: s27 :: .sh d :: r) = some (.sh d, s0 :: s1 :: s2 :: s3 :: s4 :: s5 :: s6 :: s7 :: s8 :: s9 :: s10 :: s11 :: s12 :: s13 :: s14 :: s15 :: s16 :: s17 :: s18 :: s19 :: s20 :: s21 :: s22 :: s23 :: s24 :: s25 :: s26 :: s27 :: .sh d :: r) := rfl
theorem eva_28 {s0 s1 s2 s3 s4 s5 s6 s7 s8 s9 s10 s11 s12 s13 s14 s15 s16 s17 s18 s19 s20 s21 s22 s23 s24 s25 s26 s27 : Sl} {o : Ob} {r : Rho} : eVar 28 (s0 :: s1 :: s2 :: s3 :: s4 :: s5 :: s6 :: s7 :: s8 :: s9 :: s10 :: s11 :: s12 :: s13 :: s14 :: s15 :: s16 :: s17 :: s18 :: s19 :: s20 :: s21 :: s22 :: s23 :: s24 :: s25 :: s26 :: s27 :: .ow o :: r) = some (.al 28, s0 :: s1 :: s2 :: s3 :: s4 :: s5 :: s6 :: s7 :: s8 :: s9 :: s10 :: s11 :: s12 :: s13 :: s14 :: s15 :: s16 :: s17 :: s18 :: s19 :: s20 :: s21 :: s22 :: s23 :: s24 :: s25 :: s26 :: s27 :: .ow o :: r) := rfl
theorem ev_29 {s0 s1 s2 s3 s4 s5 s6 s7 s8 s9 s10 s11 s12 s13 s14 s15 s16 s17 s18 s19 s20 s21 s22 s23 s24 s25 s26 s27 s28 : Sl} {d : Dv} {r : Rho} : eVar 29 (s0 :: s1 :: s2 :: s3 :: s4 :: s5 :: s6 :: s7 :: s8 :: s9 :: s10 :: s11 :: s12 :: s13 :: s14 :: s15 :: s16 :: s17 :: s18 :: s19 :: s20 :: s21 :: s22 :: s23 :: s24 :: s25 :: s26 :: s27 :: s28 :: .sh d :: r) = some (.sh d, s0 :: s1 :: s2 :: s3 :: s4 :: s5 :: s6 :: s7 :: s8 :: s9 :: s10 :: s11 :: s12 :: s13 :: s14 :: s15 :: s16 :: s17 :: s18 :: s19 :: s20 :: s21 :: s22 :: s23 :: s24 :: s25 :: s26 :: s27 :: s28 :: .sh d :: r) := rfl
theorem eva_29 {s0 s1 s2 s3 s4 s5 s6 s7 s8 s9 s10 s11 s12 s13 s14 s15 s16 s17 s18 s19 s20 s21 s22 s23 s24 s25 s26 s27 s28 : Sl} {o : Ob} {r : Rho} : eVar 29 (s0 :: s1 :: s2 :: s3 :: s4 :: s5 :: s6 :: s7 :: s8 :: s9 :: s10 :: s11 :: s12 :: s13 :: s14 :: s15 :: s16 :: s17 :: s18 :: s19 :: s20 :: s21 :: s22 :: s23 :: s24 :: s25 :: s26 :: s27 :: s28 :: .ow o :: r) = some (.al 29, s0 :: s1 :: s2 :: s3 :: s4 :: s5 :: s6 :: s7 :: s8 :: s9 :: s10 :: s11 :: s12 :: s13 :: s14 :: s15 :: s16 :: s17 :: s18 :: s19 :: s20 :: s21 :: s22 :: s23 :: s24 :: s25 :: s26 :: s27 :: s28 :: .ow o :: r) := rfl
theorem ev_30 {s0 s1 s2 s3 s4 s5 s6 s7 s8 s9 s10 s11 s12 s13 s14 s15 s16 s17 s18 s19 s20 s21 s22 s23 s24 s25 s26 s27 s28 s29 : Sl} {d : Dv} {r : Rho} : eVar 30 (s0 :: s1 :: s2 :: s3 :: s4 :: s5 :: s6 :: s7 :: s8 :: s9 :: s10 :: s11 :: s12 :: s13 :: s14 :: s15 :: s16 :: s17 :: s18 :: s19 :: s20 :: s21 :: s22 :: s23 :: s24 :: s25 :: s26 :: s27 :: s28 :: s29 :: .sh d :: r) = some (.sh d, s0 :: s1 :: s2 :: s3 :: s4 :: s5 :: s6 :: s7 :: s8 :: s9 :: s10 :: s11 :: s12 :: s13 :: s14 :: s15 :: s16 :: s17 :: s18 :: s19 :: s20 :: s21 :: s22 :: s23 :: s24 :: s25 :: s26 :: s27 :: s28 :: s29 :: .sh d :: r) := rfl
theorem eva_30 {s0 s1 s2 s3 s4 s5 s6 s7 s8 s9 s10 s11 s12 s13 s14 s15 s16 s17 s18 s19 s20 s21 s22 s23 s24 s25 s26 s27 s28 s29 : Sl} {o : Ob} {r : Rho} : eVar 30 (s0 :: s1 :: s2 :: s3 :: s4 :: s5 :: s6 :: s7 :: s8 :: s9 :: s10 :: s11 :: s12 :: s13 :: s14 :: s15 :: s16 :: s17 :: s18 :: s19 :: s20 :: s21 :: s22 :: s23 :: s24 :: s25 :: s26 :: s27 :: s28 :: s29 :: .ow o :: r) = some (.al 30, s0 :: s1 :: s2 :: s3 :: s4 :: s5 :: s6 :: s7 :: s8 :: s9 :: s10 :: s11 :: s12 :: s13 :: s14 :: s15 :: s16 :: s17 :: s18 :: s19 :: s20 :: s21 :: s22 :: s23 :: s24 :: s25 :: s26 :: s27 :: s28 :: s29 :: .ow o :: r) := rfl
theorem ev_31 {s0 s1 s2 s3 s4 s5 s6 s7 s8 s9 s10 s11 s12 s13 s14 s15 s16 s17 s18 s19 s20 s21 s22 s23 s24 s25 s26 s27 s28 s29 s30 : Sl} {d : Dv} {r : Rho} : eVar 31 (s0 :: s1 :: s2 :: s3 :: s4 :: s5 :: s6 :: s7 :: s8 :: s9 :: s10 :: s11 :: s12 :: s13 :: s14 :: s15 :: s16 :: s17 :: s18 :: s19 :: s20 :: s21 :: s22 :: s23 :: s24 :: s25 :: s26 :: s27 :: s28 :: s29 :: s30 :: .sh d :: r) = some (.sh d, s0 :: s1 :: s2 :: s3 :: s4 :: s5 :: s6 :: s7 :: s8 :: s9 :: s10 :: s11 :: s12 :: s13 :: s14 :: s15 :: s16 :: s17 :: s18 :: s19 :: s20 :: s21 :: s22 :: s23 :: s24 :: s25 :: s26 :: s27 :: s28 :: s29 :: s30 :: .sh d :: r) := rfl
theorem eva_31 {s0 s1 s2 s3 s4 s5 s6 s7 s8 s9 s10 s11 s12 s13 s14 s15 s16 s17 s18 s19 s20 s21 s22 s23 s24 s25 s26 s27 s28 s29 s30 : Sl} {o : Ob} {r : Rho} : eVar 31 (s0 :: s1 :: s2 :: s3 :: s4 :: s5 :: s6 :: s7 :: s8 :: s9 :: s10 :: s11 :: s12 :: s13 :: s14 :: s15 :: s16 :: s17 :: s18 :: s19 :: s20 :: s21 :: s22 :: s23 :: s24 :: s25 :: s26 :: s27 :: s28 :: s29 :: s30 :: .ow o :: r) = some (.al 31, s0 :: s1 :: s2 :: s3 :: s4 :: s5 :: s6 :: s7 :: s8 :: s9 :: s10 :: s11 :: s12 :: s13 :: s14 :: s15 :: s16 :: s17 :: s18 :: s19 :: s20 :: s21 :: s22 :: s23 :: s24 :: s25 :: s26 :: s27 :: s28 :: s29 :: s30 :: .ow o :: r) := rfl
theorem ev_32 {s0 s1 s2 s3 s4 s5 s6 s7 s8 s9 s10 s11 s12 s13 s14 s15 s16 s17 s18 s19 s20 s21 s22 s23 s24 s25 s26 s27 s28 s29 s30 s31 : Sl} {d : Dv} {r : Rho} : eVar 32 (s0 :: s1 :: s2 :: s3 :: s4 :: s5 :: s6 :: s7 :: s8 :: s9 :: s10 :: s11 :: s12 :: s13 :: s14 :: s15 :: s16 :: s17 :: s18 :: s19 :: s20 :: s21 :: s22 :: s23 :: s24 :: s25 :: s26 :: s27 :: s28 :: s29 :: s30 :: s31 :: .sh d :: r) = some (.sh d, s0 :: s1 :: s2 :: s3 :: s4 :: s5 :: s6 :: s7 :: s8 :: s9 :: s10 :: s11 :: s12 :: s13 :: s14 :: s15 :: s16 :: s17 :: s18 :: s19 :: s20 :: s21 :: s22 :: s23 :: s24 :: s25 :: s26 :: s27 :: s28 :: s29 :: s30 :: s31 :: .sh d :: r) := rfl
theorem eva_32 {s0 s1 s2 s3 s4 s5 s6 s7 s8 s9 s10 s11 s12 s13 s14 s15 s16 s17 s18 s19 s20 s21 s22 s23 s24 s25 s26 s27 s28 s29 s30 s31 : Sl} {o : Ob} {r : Rho} : eVar 32 (s0 :: s1 :: s2 :: s3 :: s4 :: s5 :: s6 :: s7 :: s8 :: s9 :: s10 :: s11 :: s12 :: s13 :: s14 :: s15 :: s16 :: s17 :: s18 :: s19 :: s20 :: s21 :: s22 :: s23 :: s24 :: s25 :: s26 :: s27 :: s28 :: s29 :: s30 :: s31 :: .ow o :: r) = some (.al 32, s0 :: s1 :: s2 :: s3 :: s4 :: s5 :: s6 :: s7 :: s8 :: s9 :: s10 :: s11 :: s12 :: s13 :: s14 :: s15 :: s16 :: s17 :: s18 :: s19 :: s20 :: s21 :: s22 :: s23 :: s24 :: s25 :: s26 :: s27 :: s28 :: s29 :: s30 :: s31 :: .ow o :: r) := rfl
theorem ev_33 {s0 s1 s2 s3 s4 s5 s6 s7 s8 s9 s10 s11 s12 s13 s14 s15 s16 s17 s18 s19 s20 s21 s22 s23 s24 s25 s26 s27 s28 s29 s30 s31 s32 : Sl} {d : Dv} {r : Rho} : eVar 33 (s0 :: s1 :: s2 :: s3 :: s4 :: s5 :: s6 :: s7 :: s8 :: s9 :: s10 :: s11 :: s12 :: s13 :: s14 :: s15 :: s16 :: s17 :: s18 :: s19 :: s20 :: s21 :: s22 :: s23 :: s24 :: s25 :: s26 :: s27 :: s28 :: s29 :: s30 :: s31 :: s32 :: .sh d :: r) = some (.sh d, s0 :: s1 :: s2 :: s3 :: s4 :: s5 :: s6 :: s7 :: s8 :: s9 :: s10 :: s11 :: s12 :: s13 :: s14 :: s15 :: s16 :: s17 :: s18 :: s19 :: s20 :: s21 :: s22 :: s23 :: s24 :: s25 :: s26 :: s27 :: s28 :: s29 :: s30 :: s31 :: s32 :: .sh d :: r) := rfl
theorem eva_33 {s0 s1 s2 s3 s4 s5 s6 s7 s8 s9 s10 s11 s12 s13 s14 s15 s16 s17 s18 s19 s20 s21 s22 s23 s24 s25 s26 s27 s28 s29 s30 s31 s32 : Sl} {o : Ob} {r : Rho} : eVar 33 (s0 :: s1 :: s2 :: s3 :: s4 :: s5 :: s6 :: s7 :: s8 :: s9 :: s10 :: s11 :: s12 :: s13 :: s14 :: s15 :: s16 :: s17 :: s18 :: s19 :: s20 :: s21 :: s22 :: s23 :: s24 :: s25 :: s26 :: s27 :: s28 :: s29 :: s30 :: s31 :: s32 :: .ow o :: r) = some (.al 33, s0 :: s1 :: s2 :: s3 :: s4 :: s5 :: s6 :: s7 :: s8 :: s9 :: s10 :: s11 :: s12 :: s13 :: s14 :: s15 :: s16 :: s17 :: s18 :: s19 :: s20 :: s21 :: s22 :: s23 :: s24 :: s25 :: s26 :: s27 :: s28 :: s29 :: s30 :: s31 :: s32 :: .ow o :: r) := rfl
theorem ev_34 {s0 s1 s2 s3 s4 s5 s6 s7 s8 s9 s10 s11 s12 s13 s14 s15 s16 s17 s18 s19 s20 s21 s22 s23 s24 s25 s26 s27 s28 s29 s30 s31 s32 s33 : Sl} {d : Dv} {r : Rho} : eVar 34 (s0 :: s1 :: s2 :: s3 :: s4 :: s5 :: s6 :: s7 :: s8 :: s9 :: s10 :: s11 :: s12 :: s13 :: s14 :: s15 :: s16 :: s17 :: s18 :: s19 :: s20 :: s21 :: s22 :: s23 :: s24 :: s25 :: s26 :: s27 :: s28 :: s29 :: s30 :: s31 :: s32 :: s33 :: .sh d :: r) = some (.sh d, s0 :: s1 :: s2 :: s3 :: s4 :: s5 :: s6 :: s7 :: s8 :: s9 :: s10 :: s11 :: s12 :: s13 :: s14 :: s15 :: s16 :: s17 :: s18 :: s19 :: s20 :: s21 :: s22 :: s23 :: s24 :: s25 :: s26 :: s27 :: s28 :: s29 :: s30 :: s31 :: s32 :: s33 :: .sh d :: r) := rfl
theorem eva_34 {s0 s1 s2 s3 s4 s5 s6 s7 s8 s9 s10 s11 s12 s13 s14 s15 s16 s17 s18 s19 s20 s21 s22 s23 s24 s25 s26 s27 s28 s29 s30 s31 s32 s33 : Sl} {o : Ob} {r : Rho} : eVar 34 (s0 :: s1 :: s2 :: s3 :: s4 :: s5 :: s6 :: s7 :: s8 :: s9 :: s10 :: s11 :: s12 :: s13 :: s14 :: s15 :: s16 :: s17 :: s18 :: s19 :: s20 :: s21 :: s22 :: s23 :: s24 :: s25 :: s26 :: s27 :: s28 :: s29 :: s30 :: s31 :: s32 :: s33 :: .ow o :: r) = some (.al 34, s0 :: s1 :: s2 :: s3 :: s4 :: s5 :: s6 :: s7 :: s8 :: s9 :: s10 :: s11 :: s12 :: s13 :: s14 :: s15 :: s16 :: s17 :: s18 :: s19 :: s20 :: s21 :: s22 :: s23 :: s24 :: s25 :: s26 :: s27 :: s28 :: s29 :: s30 :: s31 :: s32 :: s33 :: .ow o :: r) := rfl
theorem ev_35 {s0 s1 s2 s3 s4 s5 s6 s7 s8 s9 s10 s11 s12 s13 s14 s15 s16 s17 s18 s19 s20 s21 s22 s23 s24 s25 s26 s27 s28 s29 s30 s31 s32 s33 s34 : Sl} {d : Dv} {r : Rho} : eVar 35 (s0 :: s1 :: s2 :: s3 :: s4 :: s5 :: s6 :: s7 :: s8 :: s9 :: s10 :: s11 :: s12 :: s13 :: s14 :: s15 :: s16 :: s17 :: s18 :: s19 :: s20 :: s21 :: s22 :: s23 :: s24 :: s25 :: s26 :: s27 :: s28 :: s29 :: s30 :: s31 :: s32 :: s33 :: s34 :: .sh d :: r) = some (.sh d, s0 :: s1 :: s2 :: s3 :: s4 :: s5 :: s6 :: s7 :: s8 :: s9 :: s10 :: s11 :: s12 :: s13 :: s14 :: s15 :: s16 :: s17 :: s18 :: s19 :: s20 :: s21 :: s22 :: s23 :: s24 :: s25 :: s26 :: s27 :: s28 :: s29 :: s30 :: s31 :: s32 :: s33 :: s34 :: .sh d :: r) := rfl
theorem eva_35 {s0 s1 s2 s3 s4 s5 s6 s7 s8 s9 s10 s11 s12 s13 s14 s15 s16 s17 s18 s19 s20 s21 s22 s23 s24 s25 s26 s27 s28 s29 s30 s31 s32 s33 s34 : Sl} {o : Ob} {r : Rho} : eVar 35 (s0 :: s1 :: s2 :: s3 :: s4 :: s5 :: s6 :: s7 :: s8 :: s9 :: s10 :: s11 :: s12 :: s13 :: s14 :: s15 :: s16 :: s17 :: s18 :: s19 :: s20 :: s21 :: s22 :: s23 :: s24 :: s25 :: s26 :: s27 :: s28 :: s29 :: s30 :: s31 :: s32 :: s33 :: s34 :: .ow o :: r) = some (.al 35, s0 :: s1 :: s2 :: s3 :: s4 :: s5 :: s6 :: s7 :: s8 :: s9 :: s10 :: s11 :: s12 :: s13 :: s14 :: s15 :: s16 :: s17 :: s18 :: s19 :: s20 :: s21 :: s22 :: s23 :: s24 :: s25 :: s26 :: s27 :: s28 :: s29 :: s30 :: s31 :: s32 :: s33 :: s34 :: .ow o :: r) := rfl
theorem ev_36 {s0 s1 s2 s3 s4 s5 s6 s7 s8 s9 s10 s11 s12 s13 s14 s15 s16 s17 s18 s19 s20 s21 s22 s23 s24 s25 s26 s27 s28 s29 s30 s31 s32 s33 s34 s35 : Sl} {d : Dv} {r : Rho} : eVar 36 (s0 :: s1 :: s2 :: s3 :: s4 :: s5 :: s6 :: s7 :: s8 :: s9 :: s10 :: s11 :: s12 :: s13 :: s14 :: s15 :: s16 :: s17 :: s18 :: s19 :: s20 :: s21 :: s22 :: s23 :: s24 :: s25 :: s26 :: s27 :: s28 :: s29 :: s30 :: s31 :: s32 :: s33 :: s34 :: s35 :: .sh d :: r) = some (.sh d, s0 :: s1 :: s2 :: s3 :: s4 :: s5 :: s6 :: s7 :: s8 :: s9 :: s10 :: s11 :: s12 :: s13 :: s14 :: s15 :: s16 :: s17 :: s18 :: s19 :: s20 :: s21 :: s22 :: s23 :: s24 :: s25 :: s26 :: s27 :: s28 :: s29 :: s30 :: s31 :: s32 :: s33 :: s34 :: s35 :: .sh d :: r) := rfl
theorem eva_36 {s0 s1 s2 s3 s4 s5 s6 s7 s8 s9 s10 s11 s12 s13 s14 s15 s16 s17 s18 s19 s20 s21 s22 s23 s24 s25 s26 s27 s28 s29 s30 s31 s32 s33 s34 s35 : Sl} {o : Ob} {r : Rho} : eVar 36 (s0 :: s1 :: s2 :: s3 :: s4 :: s5 :: s6 :: s7 :: s8 :: s9 :: s10 :: s11 :: s12 :: s13 :: s14 :: s15 :: s16 :: s17 :: s18 :: s19 :: s20 :: s21 :: s22 :: s23 :: s24 :: s25 :: s26 :: s27 :: s28 :: s29 :: s30 :: s31 :: s32 :: s33 :: s34 :: s35 :: .ow o :: r) = some (.al 36, s0 :: s1 :: s2 :: s3 :: s4 :: s5 :: s6 :: s7 :: s8 :: s9 :: s10 :: s11 :: s12 :: s13 :: s14 :: s15 :: s16 :: s17 :: s18 :: s19 :: s20 :: s21 :: s22 :: s23 :: s24 :: s25 :: s26 :: s27 :: s28 :: s29 :: s30 :: s31 :: s32 :: s33 :: s34 :: s35 :: .ow o :: r) := rfl
theorem ev_37 {s0 s1 s2 s3 s4 s5 s6 s7 s8 s9 s10 s11 s12 s13 s14 s15 s16 s17 s18 s19 s20 s21 s22 s23 s24 s25 s26 s27 s28 s29 s30 s31 s32 s33 s34 s35 s36 : Sl} {d : Dv} {r : Rho} : eVar 37 (s0 :: s1 :: s2 :: s3 :: s4 :: s5 :: s6 :: s7 :: s8 :: s9 :: s10 :: s11 :: s12 :: s13 :: s14 :: s15 :: s16 :: s17 :: s18 :: s19 :: s20 :: s21 :: s22 :: s23 :: s24 :: s25 :: s26 :: s27 :: s28 :: s29 :: s30 :: s31 :: s32 :: s33 :: s34 :: s35 :: s36 :: .sh d :: r) = some (.sh d, s0 :: s1 :: s2 :: s3 :: s4 :: s5 :: s6 :: s7 :: s8 :: s9 :: s10 :: s11 :: s12 :: s13 :: s14 :: s15 :: s16 :: s17 :: s18 :: s19 :: s20 :: s21 :: s22 :: s23 :: s24 :: s25 :: s26 :: s27 :: s28 :: s29 :: s30 :: s31 :: s32 :: s33 :: s34 :: s35 :: s36 :: .sh d :: r) := rfl
theorem eva_37 {s0 s1 s2 s3 s4 s5 s6 s7 s8 s9 s10 s11 s12 s13 s14 s15 s16 s17 s18 s19 s20 s21 s22 s23 s24 s25 s26 s27 s28 s29 s30 s31 s32 s33 s34 s35 s36 : Sl} {o : Ob} {r : Rho} : eVar 37 (s0 :: s1 :: s2 :: s3 :: s4 :: s5 :: s6 :: s7 :: s8 :: s9 :: s10 :: s11 :: s12 :: s13 :: s14 :: s15 :: s16 :: s17 :: s18 :: s19 :: s20 :: s21 :: s22 :: s23 :: s24 :: s25 :: s26 :: s27 :: s28 :: s29 :: s30 :: s31 :: s32 :: s33 :: s34 :: s35 :: s36 :: .ow o :: r) = some (.al 37, s0 :: s1 :: s2 :: s3 :: s4 :: s5 :: s6 :: s7 :: s8 :: s9 :: s10 :: s11 :: s12 :: s13 :: s14 :: s15 :: s16 :: s17 :: s18 :: s19 :: s20 :: s21 :: s22 :: s23 :: s24 :: s25 :: s26 :: s27 :: s28 :: s29 :: s30 :: s31 :: s32 :: s33 :: s34 :: s35 :: s36 :: .ow o :: r) := rfl
theorem ev_38 {s0 s1 s2 s3 s4 s5 s6 s7 s8 s9 s10 s11 s12 s13 s14 s15 s16 s17 s18 s19 s20 s21 s22 s23 s24 s25 s26 s27 s28 s29 s30 s31 s32 s33 s34 s35 s36 s37 : Sl} {d : Dv} {r : Rho} : eVar 38 (s0 :: s1 :: s2 :: s3 :: s4 :: s5 :: s6 :: s7 :: s8 :: s9 :: s10 :: s11 :: s12 :: s13 :: s14 :: s15 :: s16 :: s17 :: s18 :: s19 :: s20 :: s21 :: s22 :: s23 :: s24 :: s25 :: s26 :: s27 :: s28 :: s29 :: s30 :: s31 :: s32 :: s33 :: s34 :: s35 :: s36 :: s37 :: .sh d :: r) = some (.sh d, s0 :: s1 :: s2 :: s3 :: s4 :: s5 :: s6 :: s7 :: s8 :: s9 :: s10 :: s11 :: s12 :: s13 :: s14 :: s15 :: s16 :: s17 :: s18 :: s19 :: s20 :: s21 :: s22 :: s23 :: s24 :: s25 :: s26 :: s27 :: s28 :: s29 :: s30 :: s31 :: s32 :: s33 :: s34 :: s35 :: s36 :: s37 :: .sh d :: r) := rfl
theorem eva_38 {s0 s1 s2 s3 s4 s5 s6 s7 s8 s9 s10 s11 s12 s13 s14 s15 s16 s17 s18 s19 s20 s21 s22 s23 s24 s25 s26 s27 s28 s29 s30 s31 s32 s33 s34 s35 s36 s37 : Sl} {o : Ob} {r : Rho} : eVar 38 (s0 :: s1 :: s2 :: s3 :: s4 :: s5 :: s6 :: s7 :: s8 :: s9 :: s10 :: s11 :: s12 :: s13 :: s14 :: s15 :: s16 :: s17 :: s18 :: s19 :: s20 :: s21 :: s22 :: s23 :: s24 :: s25 :: s26 :: s27 :: s28 :: s29 :: s30 :: s31 :: s32 :: s33 :: s34 :: s35 :: s36 :: s37 :: .ow o :: r) = some (.al 38, s0 :: s1 :: s2 :: s3 :: s4 :: s5 :: s6 :: s7 :: s8 :: s9 :: s10 :: s11 :: s12 :: s13 :: s14 :: s15 :: s16 :: s17 :: s18 :: s19 :: s20 :: s21 :: s22 :: s23 :: s24 :: s25 :: s26 :: s27 :: s28 :: s29 :: s30 :: s31 :: s32 :: s33 :: s34 :: s35 :: s36 :: s37 :: .ow o :: r) := rfl
theorem ev_39 {s0 s1 s2 s3 s4 s5 s6 s7 s8 s9 s10 s11 s12 s13 s14 s15 s16 s17 s18 s19 s20 s21 s22 s23 s24 s25 s26 s27 s28 s29 s30 s31 s32 s33 s34 s35 s36 s37 s38 : Sl} {d : Dv} {r : Rho} : eVar 39 (s0 :: s1 :: s2 :: s3 :: s4 :: s5 :: s6 :: s7 :: s8 :: s9 :: s10 :: s11 :: s12 :: s13 :: s14 :: s15 :: s16 :: s17 :: s18 :: s19 :: s20 :: s21 :: s22 :: s23 :: s24 :: s25 :: s26 :: s27 :: s28 :: s29 :: s30 :: s31 :: s32 :: s33 :: s34 :: s35 :: s36 :: s37 :: s38 :: .sh d :: r) = some (.sh d, s0 :: s1 :: s2 :: s3 :: s4 :: s5 :: s6 :: s7 :: s8 :: s9 :: s10 :: s11 :: s12 :: s13 :: s14 :: s15 :: s16 :: s17 :: s18 :: s19 :: s20 :: s21 :: s22 :: s23 :: s24 :: s25 :: s26 :: s27 :: s28 :: s29 :: s30 :: s31 :: s32 :: s33 :: s34 :: s35 :: s36 :: s37 :: s38 :: .sh d :: r) := rfl
theorem eva_39 {s0 s1 s2 s3 s4 s5 s6 s7 s8 s9 s10 s11 s12 s13 s14 s15 s16 s17 s18 s19 s20 s21 s22 s23 s24 s25 s26 s27 s28 s29 s30 s31 s32 s33 s34 s35 s36 s37 s38 : Sl} {o : Ob} {r : Rho} : eVar 39 (s0 :: s1 :: s2 :: s3 :: s4 :: s5 :: s6 :: s7 :: s8 :: s9 :: s10 :: s11 :: s12 :: s13 :: s14 :: s15 :: s16 :: s17 :: s18 :: s19 :: s20 :: s21 :: s22 :: s23 :: s24 :: s25 :: s26 :: s27 :: s28 :: s29 :: s30 :: s31 :: s32 :: s33 :: s34 :: s35 :: s36 :: s37 :: s38 :: .ow o :: r) = some (.al 39, s0 :: s1 :: s2 :: s3 :: s4 :: s5 :: s6 :: s7 :: s8 :: s9 :: s10 :: s11 :: s12 :: s13 :: s14 :: s15 :: s16 :: s17 :: s18 :: s19 :: s20 :: s21 :: s22 :: s23 :: s24 :: s25 :: s26 :: s27 :: s28 :: s29 :: s30 :: s31 :: s32 :: s33 :: s34 :: s35 :: s36 :: s37 :: s38 :: .ow o :: r) := rfl
section
variable {α β σ τ r : Type} {P : Prop}
theorem ite_elim {α : Type} {c : Bool} {x y : Option α} {r : α} (h : (if c = true then x else y) = some r) (a : c = true → x = some r → P) (b : c = false → y = some r → P) : P := by
  rcases ite_inv h with ⟨h1, h2⟩ | ⟨h1, h2⟩
  · exact a h1 h2
  · exact b h1 h2
theorem qs_nx {h : MS} {Q : Fl → Prop} {ρ : Rho} (a : Wp (h ρ) Q) : QS h Q (.nx ρ) := a
theorem qs_rt {h : MS} {Q : Fl → Prop} {rv : Rv} {ρ : Rho} (a : Q (.rt rv ρ)) : QS h Q (.rt rv ρ) := a
theorem qs_bk {h : MS} {Q : Fl → Prop} {ρ : Rho} (a : Q (.bk ρ)) : QS h Q (.bk ρ) := a
theorem qs_ct {h : MS} {Q : Fl → Prop} {ρ : Rho} (a : Q (.ct ρ)) : QS h Q (.ct ρ) := a
theorem rt_i {as as' : List Sl} {ix : List Nat} {r rv : Rv} {ρ : Rho} (h : r = rv) (h2 : outA 0 ix as ρ = as') : Rt as ix rv as' (.rt r ρ) := ⟨h, h2⟩
theorem rt_n {as as' : List Sl} {ix : List Nat} {rv : Rv} {ρ : Rho} (h : rv = .sh .none) (h2 : outA 0 ix as ρ = as') : Rt as ix rv as' (.nx ρ) := ⟨h, h2⟩
theorem pb_nx {R : σ → Rho → Prop} {Qr : r → Fl → Prop} {s : σ} {ρ : Rho} (h : R s ρ) : Pb R Qr (.nx s) (.nx ρ) := ⟨ρ, .inl rfl, h⟩
theorem pb_ct {R : σ → Rho → Prop} {Qr : r → Fl → Prop} {s : σ} {ρ : Rho} (h : R s ρ) : Pb R Qr (.nx s) (.ct ρ) := ⟨ρ, .inr rfl, h⟩
theorem pb_bk {R : σ → Rho → Prop} {Qr : r → Fl → Prop} {s : σ} {ρ : Rho} (h : R s ρ) : Pb R Qr (.bk s) (.bk ρ) := ⟨ρ, rfl, h⟩
theorem pb_rt {R : σ → Rho → Prop} {Qr : r → Fl → Prop} {x : r} {rv : Rv} {ρ : Rho} (h : Qr x (.rt rv ρ)) : Pb R Qr (.rt x) (.rt rv ρ) := ⟨rv, ρ, rfl, h⟩
theorem jn {R : σ → Rho → Prop} {s : σ} {ρ : Rho} (h : R s ρ) : ∃ ρ', Fl.nx ρ = .nx ρ' ∧ R s ρ' := ⟨ρ, rfl, h⟩
theorem lf_n {R : σ → Rho → Prop} {s : σ} {ρ : Rho} (h : R s ρ) : ∃ ρ', (Fl.nx ρ = .nx ρ' ∨ Fl.nx ρ = .ct ρ') ∧ R s ρ' := ⟨ρ, .inl rfl, h⟩
theorem lf_c {R : σ → Rho → Prop} {s : σ} {ρ : Rho} (h : R s ρ) : ∃ ρ', (Fl.ct ρ = .nx ρ' ∨ Fl.ct ρ = .ct ρ') ∧ R s ρ' := ⟨ρ, .inr rfl, h⟩
theorem few' {α : Type} {ds : List α} (h : Nat.ble ds.length 100000 = true) : ds.length ≤ sizeLine := Nat.le_trans (Nat.le_of_ble_eq_true h) szl_big
theorem eq_i (a b : Int) : eqqD (eI a) (eI b) = some (.sh (eB (decide (a = b)))) := rfl
theorem ne_i (a b : Int) : neqD (eI a) (eI b) = some (.sh (eB (!decide (a = b)))) := rfl
theorem eif_e {t : MB} {fa fb : M} {ρ : Rho} {k : Bool} {e : α → Dv} {x y : α} (h : t ρ = some (k, ρ)) (h1 : fa ρ = some (.sh (e x), ρ)) (h2 : fb ρ = some (.sh (e y), ρ)) : eIf t fa fb ρ = some (.sh (e (if k = true then x else y)), ρ) := by
  cases k
  · exact eif_f h rfl h2
  · exact eif_t h rfl h1
theorem eif_o {t : MB} {fa fb : M} {ρ : Rho} {k : Bool} {e : α → Dv} {x y : List α} (h : t ρ = some (k, ρ)) (h1 : fa ρ = some (.ow (.lst (x.map e)), ρ)) (h2 : fb ρ = some (.ow (.lst (y.map e)), ρ)) : eIf t fa fb ρ = some (.ow (.lst ((if k = true then x else y).map e)), ρ) := by
  cases k
  · exact eif_f h rfl h2
  · exact eif_t h rfl h1
def slO (e : α → Dv) : Option α → Sl
  | none => .no
  | some a => .sh (e a)
theorem tcong {t : MB} {ρ ρ1 : Rho} {k k' : Bool} (h : t ρ = some (k, ρ1)) (e : k = k') : t ρ = some (k', ρ1) := e ▸ h
theorem opn {f : M} {ρ ρ1 : Rho} {e : α → Dv} {x : Option α} {v : α} (h : f ρ = some (.sh (eO e x), ρ1)) (hv : x = some v) : f ρ = some (.sh (e v), ρ1) := by
  subst hv
  exact h
theorem eand_fb {fa fb : M} {ρ ρ1 : Rho} {x : Bool} (h : fa ρ = some (.sh (.bool x), ρ1)) (e : x = false) : eAnd fa fb ρ = some (.sh (.bool false), ρ1) := by
  subst e
  exact eand_f (pk_s h) rfl rfl rfl
theorem eor_tb {fa fb : M} {ρ ρ1 : Rho} {x : Bool} (h : fa ρ = some (.sh (.bool x), ρ1)) (e : x = true) : eOr fa fb ρ = some (.sh (.bool true), ρ1) := by
  subst e
  exact eor_t (pk_s h) rfl rfl rfl
theorem dcoT {e : α → Dv} {e' : β → Dv} {g : α → β} (h : ∀ z, e' (g z) = e z) (xs : List α) : some (PyData.tuple (List.map e xs)) = some (PyData.tuple (List.map e' (List.map g xs))) := by
  rw [List.map_map]
  congr 2
  exact List.map_congr_left fun x _ => (h x).symm
theorem dcoL {e : α → Dv} {e' : β → Dv} {g : α → β} (h : ∀ z, e' (g z) = e z) (xs : List α) : some (PyData.list (List.map e xs)) = some (PyData.list (List.map e' (List.map g xs))) := by
  rw [List.map_map]
  congr 2
  exact List.map_congr_left fun x _ => (h x).symm
def lenNO (kvs : List α) : Option Int := if kvs.length < 1000000 then some kvs.length else none
theorem lenN_e {ek : α → Dv} {ev : β → Dv} {kvs : List (α × β)} {v : Int} (h : lenNO kvs = some v) : lenA [obD (.dtn (kvs.map (ekv ek ev)))] = some (.sh (eI v)) := by
  unfold lenNO at h
  split at h
  · rename_i hc
    cases h
    unfold lenA obD
    simp only
    rw [if_neg (by simp [plD]), List.tail_cons, List.length_map, if_pos hc]
    rfl
  · cases h
theorem lenI_e {ek : α → Dv} [KeyI ek] {ev : β → Dv} (kvs : List (α × β)) : lenG [obD (.dct (kvs.map (ekv ek ev)))] = some (.sh (eI (kvs.length : Int))) := by
  show (if plD (kvs.map (ekv ek ev)) = true then some (Rz.sh (.int (kvs.map (ekv ek ev)).length)) else none) = _
  rw [if_pos (plD_ek kvs), List.length_map]
  rfl
theorem isx_none (d : Dv) : isXD d .none = isND d .none := by cases d <;> rfl
theorem notx_none (d : Dv) : notXD d .none = notND d .none := by cases d <;> rfl
theorem isndx_e {e : α → Dv} [OrdE e] (x : Option α) : isXD (eO e x) (eN ()) = some (.sh (eB x.isNone)) := (isx_none _).trans (isnd_e x)
theorem notndx_e {e : α → Dv} [OrdE e] (x : Option α) : notXD (eO e x) (eN ()) = some (.sh (eB (!x.isNone))) := (notx_none _).trans (notnd_e x)
theorem isndx_s {e : α → Dv} [OrdE e] (x : α) : isXD (e x) (eN ()) = some (.sh (eB false)) := (isx_none _).trans (isnd_s x)
theorem notndx_s {e : α → Dv} [OrdE e] (x : α) : notXD (e x) (eN ()) = some (.sh (eB true)) := (notx_none _).trans (notnd_s x)
theorem isndx_a (x : Dv) : isXD x (eN ()) = some (.sh (eB (isNone x))) := (isx_none _).trans (isnd_a x)
theorem notndx_a (x : Dv) : notXD x (eN ()) = some (.sh (eB (!isNone x))) := (notx_none _).trans (notnd_a x)
theorem isb_ (a b : Bool) : isXD (eB a) (eB b) = some (.sh (eB (decide (a = b)))) := rfl
theorem notb_ (a b : Bool) : notXD (eB a) (eB b) = some (.sh (eB (!decide (a = b)))) := rfl
theorem dct_ (ρ : Rho) : eDct ρ = some (.ow (.dct []), ρ) := rfl
theorem dtn_ (ρ : Rho) : eDctN ρ = some (.ow (.dtn []), ρ) := rfl
/-! lists in a dict, d.get -/
def addKT (q : α → α → Bool) : List (α × List β) → α → β → List (α × List β)
  | [], k, d => [(k, [d])]
  | p :: r, k, d => if q p.1 k = true then (p.1, p.2 ++ [d]) :: r else p :: addKT q r k d
def sdfO (fk : α → Option Int) (fe : α → Option β) : List α → List (Int × List β) → Option (List (Int × List β))
  | [], kvs => some kvs
  | x :: xs, kvs => (fk x).bind fun k => (fe x).bind fun e => if kvs.length < 100000 ∧ (kvs.all fun p => decide (p.2.length < 100000)) = true then sdfO fk fe xs (addKT (EqE.eq eI) kvs k e) else none
theorem addK_e {ev : β → Dv} (k : Int) (d : β) : ∀ kvs : List (Int × List β), addK (kvs.map fun p => (eI p.1, p.2.map ev)) (eI k) (ev d) = (addKT (EqE.eq eI) kvs k d).map fun p => (eI p.1, p.2.map ev)
  | [] => rfl
  | p :: r => by
    rw [List.map_cons]
    unfold addK addKT
    rw [KeyI.same (ek := eI)]
    split
    · simp
    · rw [addK_e k d r]
      rfl
theorem sdfL_e {j : Nat} {fk fe : M} {e : α → Dv} {ev : β → Dv} {gk : α → Option Int} {ge : α → Option β} {W : Rho} : ∀ {xs : List α} {kvs zs : List (Int × List β)} {s : Sl}, (∀ x k, x ∈ xs → gk x = some k → pkM fk (W.set j (.sh (e x))) = some (.sh (eI k), W.set j (.sh (e x)))) → (∀ x v, x ∈ xs → ge x = some v → frM fe (W.set j (.sh (e x))) = some (.sh (ev v), W.set j (.sh (e x)))) →
    sdfO gk ge xs kvs = some zs → ∃ s', sdfL j fk fe (xs.map e) (kvs.map fun p => (eI p.1, p.2.map ev)) (W.set j s) = some (zs.map fun p => (eI p.1, p.2.map ev), W.set j s')
  | [], kvs, zs, s, _, _, h => by
    cases h
    exact ⟨s, rfl⟩
  | x :: xs, kvs, zs, s, hk, he, h => by
    unfold sdfO at h
    obtain ⟨k, h1, h⟩ := bnd h
    obtain ⟨v, h2, h⟩ := bnd h
    split at h
    rotate_left
    · cases h
    rename_i hc
    obtain ⟨s', e1⟩ := sdfL_e (s := .sh (e x)) (fun y k hy => hk y k (List.mem_cons_of_mem _ hy)) (fun y k hy => he y k (List.mem_cons_of_mem _ hy)) h
    refine ⟨s', ?_⟩
    rw [List.map_cons]
    unfold sdfL
    rw [List.set_set, hk x k (List.mem_cons_self ..) h1]
    simp only [Option.bind_some]
    have hke : (eI k) = PyData.int k := rfl
    rw [hke]
    simp only
    rw [he x v (List.mem_cons_self ..) h2]
    simp only [Option.bind_some]
    rw [if_pos ⟨by rw [List.length_map]; exact hc.1, by
      rw [List.all_map]
      refine List.all_eq_true.mpr fun p hp => ?_
      have := List.all_eq_true.mp hc.2 p hp
      simpa using this⟩, ← hke, addK_e]
    exact e1
theorem sdf_ {i j : Nat} {fi : ML} {fk fe : M} {e : α → Dv} {ev : β → Dv} {gk : α → Option Int} {ge : α → Option β} {xs : List α} {zs : List (Int × List β)} {ρ ρ1 W : Rho} {s : Sl} (hi : fi ρ = some (xs.map e, ρ1)) (hslot : ρ1[i]? = some (.ow (.dct []))) (hW : ρ1.set i .no = W.set j s)
    (hk : ∀ x k, x ∈ xs → gk x = some k → pkM fk (W.set j (.sh (e x))) = some (.sh (eI k), W.set j (.sh (e x)))) (he : ∀ x v, x ∈ xs → ge x = some v → frM fe (W.set j (.sh (e x))) = some (.sh (ev v), W.set j (.sh (e x)))) (h : sdfO gk ge xs [] = some zs) :
    sSdf i j fi fk fe ρ = some (.nx ((W.set i (.ow (.dct (zs.map (ekv eI (eL ev)))))).set j .no)) := by
  obtain ⟨s', e1⟩ := sdfL_e (s := s) hk he h
  unfold sSdf
  rw [hi]
  simp only [Option.bind_some]
  rw [hslot]
  simp only
  rw [hW]
  rw [show (List.map (fun p : Int × List β => (eI p.1, p.2.map ev)) []) = [] from rfl] at e1
  rw [e1]
  simp only [Option.bind_some]
  unfold shK
  rw [List.map_map]
  refine congrArg (fun z => some (Fl.nx z)) ?_
  by_cases hij : i = j
  · subst hij
    rw [List.set_set, List.set_set, List.set_set]
  · rw [List.set_comm _ _ (fun z => hij z), List.set_set, List.set_comm _ _ (fun z => hij z.symm)]
    rfl
theorem dget_ {fo fk fd : M} {i : Nat} {ρ : Rho} {r : Rv} {k : Int} {ev : β → Dv} {kvs : List (Int × β)} {d : β} (ho : fo ρ = some (.al i, ρ)) (hd : ρ[i]? = some (.ow (.dct (kvs.map (ekv eI ev))))) (hk : pkM fk ρ = some (r, ρ)) (h1 : dat ρ r = some (eI k)) (hf : frM fd ρ = some (.sh (ev d), ρ)) :
    eDGet fo fk fd ρ = some (.sh (ev ((dgetO (EqE.eq eI) kvs k).getD d)), ρ) := by
  unfold eDGet
  rw [ho]
  simp only [Option.bind_some]
  rw [if_pos (by rw [hd]; rfl), hk]
  simp only [Option.bind_some]
  rw [h1]
  simp only [Option.bind_some]
  rw [hf]
  simp only [Option.bind_some, hd]
  rw [if_pos (show isKey (eI k) = true from rfl), getD_e]
  cases dgetO (EqE.eq eI) kvs k <;> rfl
/-! the draws -/
def nextO (ds : List Int) (n : Nat) (m : Int) : Option (Int × Nat) := if 0 < m then some ((match ds[n]? with | some d => d % m | none => 0), n + 1) else none
theorem w_init {F : FnS} {i : Nat} {xs ds : List Int} {m : Int} {ρ : Rho} {as' : List Sl} (h0 : ρ[0]? = some (.sh (eL eI xs))) (hd : F [.sh (eL eI xs), .sh (eI m)] = some (.ow (.lst (List.map eI ds)), as')) :
    sSet i (eDisp [((.inr ("draws" : Str) : Key), eFn F (aCons (frM (eVar 0)) (aCons (eC (.int m)) aNil))), ((.inr ("at" : Str) : Key), eC (.int 0))]) ρ = some (.nx (ρ.set i (.ow (W1 ds 0)))) := by
  have h1 : eFn F (aCons (frM (eVar 0)) (aCons (eC (.int m)) aNil)) ρ = some (.ow (.lst (List.map eI ds)), ρ) := fn_o (ac_ (fr_s (ev h0)) (ac_ (ec _ _) (an_ _))) rfl rfl hd (by
    cases as' with
    | nil => rfl
    | cons a as =>
      cases as with
      | nil => rfl
      | cons b as => cases as <;> rfl)
  have h2 := fr_o h1
  have h4 : prS [((.inr ("draws" : Str) : Key), eFn F (aCons (frM (eVar 0)) (aCons (eC (.int m)) aNil))), ((.inr ("at" : Str) : Key), eC (.int 0))] ρ = some ([((.inr ("draws" : Str) : Key), .list (List.map eI ds)), ((.inr ("at" : Str) : Key), .int 0)], ρ) := by
    unfold prS
    rw [h2]
    rfl
  have h5 : mergeD [] [((.inr ("draws" : Str) : Key), .list (List.map eI ds)), ((.inr ("at" : Str) : Key), .int 0)] = [(.str ("draws" : Str), .list (List.map eI ds)), (.str ("at" : Str), .int 0)] := by
    simp only [mergeD, List.foldl, putD, keyD, List.any, List.nil_append, Bool.or_false, key1]
    rfl
  have h3 : eDisp [((.inr ("draws" : Str) : Key), eFn F (aCons (frM (eVar 0)) (aCons (eC (.int m)) aNil))), ((.inr ("at" : Str) : Key), eC (.int 0))] ρ = some (.ow (W1 ds 0), ρ) := by
    unfold eDisp
    rw [h4]
    simp only [Option.bind_some]
    rw [h5]
    rfl
  exact set_o h3
theorem next_ex {ds : List Int} {n : Nat} {m : Int} (hm : 0 < m) : ∃ v, 0 ≤ v ∧ v < m ∧ nextO ds n m = some (v, n + 1) := by
  refine ⟨_, ?_, ?_, if_pos hm⟩
  · cases ds[n]? with
    | none => exact Int.le_refl _
    | some d => exact Int.emod_nonneg _ (by omega)
  · cases ds[n]? with
    | none => exact hm
    | some d => exact Int.emod_lt_of_pos _ hm
theorem sim_next {ds : List Int} {n : Nat} {m : Int} {v : Int × Nat} (h : nextO ds n m = some v) : nextF [.ow (W1 ds n), .sh (eI m)] = some (.sh (eI v.1), [.ow (W1 ds v.2), .sh (eI m)]) := by
  unfold nextO at h
  split at h
  rotate_left
  · cases h
  rename_i hm
  cases h
  show nextF [.ow (W1 ds n), .sh (.int m)] = some (.sh (.int _), [.ow (W1 ds (n + 1)), .sh (.int m)])
  by_cases h : n < ds.length
  · rw [List.getElem?_eq_getElem h]
    have e0 := next_s0 ds n (.sh (.int m))
    have e1 : ¬ (ds.length : Int) < (n : Int) + 1 := by omega
    have e2 := atI_map ds n h
    unfold nextF runF
    simp only [okA, List.contains, List.elem, nextG, sSeq, List.cons_append, List.nil_append, List.length_nil, List.replicate, Nat.sub_self, e0, Option.bind_some, ite_true, beq_self_eq_true, Bool.true_and, Bool.and_true]
    simp [sIf, tB, binS, pkM, eVar, eC, dat, eCall, aCons, aNil, dats, lenG, ixA, plD, isKey, W1, obD, getD, key1, key2, key3, cmpD, Rz.rv, e1, sNil, sRet, subD, intG, ixD, e2, modD, hm, outA]
  · rw [List.getElem?_eq_none (by omega)]
    have e0 := next_s0 ds n (.sh (.int m))
    have e1 : (ds.length : Int) < (n : Int) + 1 := by omega
    unfold nextF runF
    simp only [okA, List.contains, List.elem, nextG, sSeq, List.cons_append, List.nil_append, List.length_nil, List.replicate, Nat.sub_self, e0, Option.bind_some, ite_true, beq_self_eq_true, Bool.true_and, Bool.and_true]
    simp [sIf, tB, binS, pkM, eVar, eC, dat, eCall, aCons, aNil, dats, lenG, ixA, plD, isKey, W1, obD, getD, key1, key2, key3, cmpD, Rz.rv, e1, sNil, sRet, outA]
def pickO (ds : List Int) (n : Nat) (xs : List α) : Option (α × Nat) := (nextO ds n xs.length).bind fun v => (atI xs v.1).bind fun y => some (y, v.2)
theorem pick_ex {ds : List Int} {n : Nat} {xs : List α} (hx : xs ≠ []) : ∃ v, v ∈ xs ∧ pickO ds n xs = some (v, n + 1) := by
  have hl : 0 < xs.length := List.length_pos_iff.mpr hx
  obtain ⟨v, h0, h1, e⟩ := next_ex (ds := ds) (n := n) (m := xs.length) (by omega)
  obtain ⟨j, rfl⟩ := Int.eq_ofNat_of_zero_le h0
  have hj : j < xs.length := by omega
  refine ⟨xs[j], List.getElem_mem _, ?_⟩
  unfold pickO
  rw [e]
  simp only [Option.bind_some]
  rw [show atI xs (j : Int) = some xs[j] from atI_nat (List.getElem?_eq_getElem hj)]
  rfl
theorem sim_pick {ds : List Int} {n : Nat} {xs : List α} {e : α → Dv} {v : α × Nat} (h : pickO ds n xs = some v) : pickF [.ow (W1 ds n), .sh (.list (xs.map e))] = some (.sh (e v.1), [.ow (W1 ds v.2), .sh (.list (xs.map e))]) := by
  unfold pickO at h
  obtain ⟨u, h1, h⟩ := bnd h
  obtain ⟨y, h2, h⟩ := bnd h
  cases h
  have h3 := sim_next h1
  have h4 : ixA (.list (xs.map e)) (eI u.1) = some (.sh (e y)) := ixl_e h2
  refine run_wp (as := [.ow (W1 ds n), .sh (.list (xs.map e))]) rfl (fun i => by intro z; cases z) ?_
  refine wp_ret (d := e y) (ρ1 := [.ow (W1 ds u.2), .sh (.list (xs.map e))]) ?_ (rt_i rfl rfl)
  refine bin_s ev_1 ?_ h4
  exact fn_s (ac_ eva_0 (ac_ (fr_s (call_s (ac_ ev_1 (an_ _)) rfl (lenL_e xs))) (an_ _))) rfl rfl h3 rfl
end
end DL

set_option Elab.async false
set_option linter.all false
set_option autoImplicit false
set_option maxRecDepth 100000
set_option maxHeartbeats 1000000
namespace DL
open PySem PySem.Spec PyProof.Rows L2
section
variable {α β γ σ τ r : Type}
/-! ### plain lemmas over the typed combinators -/
theorem be {x : Option α} {f : α → Option β} {v : α} (h : x = some v) : x.bind f = f v := by
  rw [h]
  rfl
theorem whileO_le {c : σ → Option Bool} {f : σ → Option (Fo σ r)} : ∀ {n m : Nat} {s : σ} {o : Fo σ r}, n ≤ m → whileO c f n s = some o → whileO c f m s = some o
  | 0, _, _, _, _, h => by cases h
  | n + 1, 0, _, _, hl, _ => by omega
  | n + 1, m + 1, s, o, hl, h => by
    unfold whileO at h ⊢
    obtain ⟨b, h1, h⟩ := bnd h
    rw [h1]
    simp only [Option.bind_some]
    cases b with
    | false => exact h
    | true =>
      simp only [if_true] at h ⊢
      obtain ⟨u, h2, h⟩ := bnd h
      rw [h2]
      simp only [Option.bind_some]
      cases u with
      | nx s1 => exact whileO_le (by omega) h
      | bk s1 => exact h
      | rt y => exact h
theorem whileB_of {c : σ → Option Bool} {f : σ → Option (Fo σ r)} {n m : Nat} {s s' : σ} {k : σ → Option τ} {kr : r → Option τ} (hl : n ≤ m) (h : whileO c f n s = some (.nx s')) : whileB c f m s k kr = k s' := by
  unfold whileB
  rw [whileO_le hl h]
  rfl
theorem while_stop {c : σ → Option Bool} {f : σ → Option (Fo σ r)} {n : Nat} {s : σ} (h : c s = some false) : whileO c f (n + 1) s = some (.nx s) := by
  unfold whileO
  rw [h]
  rfl
theorem while_go {c : σ → Option Bool} {f : σ → Option (Fo σ r)} {n : Nat} {s s1 : σ} (h : c s = some true) (h2 : f s = some (.nx s1)) : whileO c f (n + 1) s = whileO c f n s1 := by
  rw [whileO, h]
  simp only [Option.bind_some, if_true]
  rw [h2]
  rfl
theorem forB_of {f : α → σ → Option (Fo σ r)} {xs : List α} {s s' : σ} {k : σ → Option τ} {kr : r → Option τ} (h : forO f xs s = some (.nx s')) : forB f xs s k kr = k s' := by
  unfold forB
  rw [h]
  rfl
theorem for_go {f : α → σ → Option (Fo σ r)} {x : α} {xs : List α} {s s1 : σ} (h : f x s = some (.nx s1)) : forO f (x :: xs) s = forO f xs s1 := by
  rw [forO, h]
  rfl
theorem for_bk {f : α → σ → Option (Fo σ r)} {x : α} {xs : List α} {s s1 : σ} (h : f x s = some (.bk s1)) : forO f (x :: xs) s = some (.nx s1) := by
  rw [forO, h]
  rfl
/-- a loop that keeps P and never leaves -/
theorem for_keep {f : α → σ → Option (Fo σ r)} (P : σ → Prop) : ∀ (xs : List α) (s : σ), P s → (∀ x s, x ∈ xs → P s → ∃ s', f x s = some (.nx s') ∧ P s') → ∃ s', forO f xs s = some (.nx s') ∧ P s'
  | [], s, h, _ => ⟨s, rfl, h⟩
  | x :: xs, s, h, st => by
    obtain ⟨s1, e1, h1⟩ := st x s (List.mem_cons_self ..) h
    obtain ⟨s2, e2, h2⟩ := for_keep P xs s1 h1 fun y s hy => st y s (List.mem_cons_of_mem _ hy)
    exact ⟨s2, (for_go e1).trans e2, h2⟩
theorem fold_go {f : α → σ → Option σ} {x : α} {xs : List α} {s s1 : σ} (h : f x s = some s1) : foldO f (x :: xs) s = foldO f xs s1 := by
  rw [foldO, h]
  rfl
theorem fold_keep {f : α → σ → Option σ} (P : σ → Prop) : ∀ (xs : List α) (s : σ), P s → (∀ x s, x ∈ xs → P s → ∃ s', f x s = some s' ∧ P s') → ∃ s', foldO f xs s = some s' ∧ P s'
  | [], s, h, _ => ⟨s, rfl, h⟩
  | x :: xs, s, h, st => by
    obtain ⟨s1, e1, h1⟩ := st x s (List.mem_cons_self ..) h
    obtain ⟨s2, e2, h2⟩ := fold_keep P xs s1 h1 fun y s hy => st y s (List.mem_cons_of_mem _ hy)
    exact ⟨s2, (fold_go e1).trans e2, h2⟩
theorem mapO_eq {f : α → Option β} {g : α → β} : ∀ {xs : List α}, (∀ x ∈ xs, f x = some (g x)) → mapO f xs = some (xs.map g)
  | [], _ => rfl
  | x :: xs, h => by
    rw [mapO, h x (List.mem_cons_self ..), mapO_eq fun y hy => h y (List.mem_cons_of_mem _ hy)]
    rfl
theorem szO_eq {x : Option (List β)} {ys : List β} (h : x = some ys) (hl : ys.length ≤ 1000000) : szO x = some ys := by
  rw [szO, h]
  exact if_pos (Nat.le_trans hl szl_6)
theorem szmap_eq {f : α → Option β} {g : α → β} {xs : List α} (h : ∀ x ∈ xs, f x = some (g x)) (hl : xs.length ≤ 1000000) : szO (mapO f xs) = some (xs.map g) := szO_eq (mapO_eq h) (by rw [List.length_map]; exact hl)
theorem lcO_eq {f : α → Option (Option β)} {g : α → Option β} : ∀ {xs : List α}, (∀ x ∈ xs, f x = some (g x)) → lcO f xs = some (xs.filterMap g)
  | [], _ => rfl
  | x :: xs, h => by
    rw [lcO, h x (List.mem_cons_self ..), lcO_eq fun y hy => h y (List.mem_cons_of_mem _ hy)]
    simp only [Option.bind_some]
    cases hg : g x with
    | none => rw [List.filterMap_cons_none hg]
    | some y => rw [List.filterMap_cons_some hg]
/-- a comprehension with one test -/
theorem lcO_filter {t : α → Bool} {g : α → β} {f : α → Option (Option β)} {xs : List α} (h : ∀ x ∈ xs, f x = some (if t x = true then some (g x) else none)) : lcO f xs = some ((xs.filter t).map g) := by
  rw [lcO_eq h]
  congr 1
  induction xs with
  | nil => rfl
  | cons x xs ih =>
    have := ih fun y hy => h y (List.mem_cons_of_mem _ hy)
    cases ht : t x with
    | true => rw [List.filterMap_cons_some (b := g x) (by rw [ht]; rfl), List.filter_cons_of_pos ht, List.map_cons, this]
    | false => rw [List.filterMap_cons_none (by rw [ht]; rfl), List.filter_cons_of_neg (by rw [ht]; decide), this]
theorem filterMap_len {g : α → Option β} (xs : List α) : (xs.filterMap g).length ≤ xs.length := List.length_filterMap_le ..
theorem szlc_eq {f : α → Option (Option β)} {g : α → Option β} {xs : List α} (h : ∀ x ∈ xs, f x = some (g x)) (hl : xs.length ≤ 1000000) : szO (lcO f xs) = some (xs.filterMap g) := szO_eq (lcO_eq h) (Nat.le_trans (filterMap_len xs) hl)
theorem szlc_filter {t : α → Bool} {g : α → β} {f : α → Option (Option β)} {xs : List α} (h : ∀ x ∈ xs, f x = some (if t x = true then some (g x) else none)) (hl : xs.length ≤ 1000000) : szO (lcO f xs) = some ((xs.filter t).map g) :=
  szO_eq (lcO_filter h) (by rw [List.length_map]; exact Nat.le_trans (List.length_filter_le ..) hl)
theorem catO_eq {f : α → Option (List β)} {g : α → List β} : ∀ {xs : List α}, (∀ x ∈ xs, f x = some (g x)) → catO f xs = some (xs.flatMap g)
  | [], _ => rfl
  | x :: xs, h => by
    rw [catO, h x (List.mem_cons_self ..), catO_eq fun y hy => h y (List.mem_cons_of_mem _ hy)]
    rfl
theorem plusO_eq {xs ys : List α} (h : xs.length + ys.length ≤ 1000000) : plusO xs ys = some (xs ++ ys) := if_pos (Nat.le_trans h szl_6)
theorem pushO_eq {xs : List α} {v : α} (h : xs.length < 1000000) : pushO xs v = some (xs ++ [v]) := if_pos (Nat.lt_of_lt_of_le h szl_6)
theorem rngO1_eq {n : Nat} (h : n ≤ 1000000) : rngO1 (n : Int) = some (rangeI 0 n) := by
  unfold rngO1 bnd62
  rw [if_pos (decide_eq_true ⟨by omega, by omega⟩)]
  rfl
theorem rngO2_eq {n : Nat} (h : n ≤ 1000000) : rngO2 1 (n : Int) = some (rangeI 1 (n - 1)) := by
  unfold rngO2 bnd62
  rw [if_pos ⟨decide_eq_true ⟨by omega, by omega⟩, decide_eq_true ⟨by omega, by omega⟩⟩]
  congr 2
  omega
theorem rangeI_nat (n : Nat) : rangeI 0 n = (List.range n).map (fun i : Nat => (i : Int)) := by
  unfold rangeI
  congr 1
  funext i
  simp
theorem rangeI_len (lo : Int) (n : Nat) : (rangeI lo n).length = n := by simp [rangeI]
theorem atI_ge {xs : List α} {j : Nat} {v : α} (h : xs[j]? = some v) : atI xs (j : Int) = some v := atI_nat h
end
section
variable {α β : Type}
theorem fold_flat {f : α → List β → Option (List β)} {g : α → List β} (b : Nat) : ∀ (xs : List α) (s : List β), s.length + xs.length * b ≤ 1000000 → (∀ x ∈ xs, (g x).length ≤ b) → (∀ x ∈ xs, ∀ s : List β, s.length + b ≤ 1000000 → f x s = some (s ++ g x)) → foldO f xs s = some (s ++ xs.flatMap g)
  | [], s, _, _, _ => by simp [foldO]
  | x :: xs, s, hl, hb, hf => by
    rw [List.length_cons, Nat.add_mul] at hl
    have h1 := hb x (List.mem_cons_self ..)
    refine (fold_go (hf x (List.mem_cons_self ..) s (by omega))).trans ?_
    rw [fold_flat b xs (s ++ g x) (by rw [List.length_append]; omega) (fun y hy => hb y (List.mem_cons_of_mem _ hy)) fun y hy => hf y (List.mem_cons_of_mem _ hy)]
    simp
theorem maxE_spec : ∀ (xs : List Int) (x : Int), maxE eI x xs ∈ x :: xs ∧ ∀ y ∈ x :: xs, y ≤ maxE eI x xs
  | [], x => by simp [maxE]
  | z :: xs, x => by
    have h := maxE_spec xs (if ltE eI x z = true then z else x)
    have e : maxE eI x (z :: xs) = maxE eI (if ltE eI x z = true then z else x) xs := rfl
    have hl : ltE eI x z = true ↔ x < z := decide_eq_true_iff
    rw [e]
    by_cases hc : x < z
    · rw [if_pos (hl.mpr hc)] at h ⊢
      refine ⟨List.mem_cons_of_mem _ h.1, fun y hy => ?_⟩
      rcases List.mem_cons.mp hy with rfl | hy
      · have := h.2 z (List.mem_cons_self ..)
        omega
      · exact h.2 y hy
    · rw [if_neg (fun q => hc (hl.mp q))] at h ⊢
      refine ⟨?_, fun y hy => ?_⟩
      · rcases List.mem_cons.mp h.1 with h | h
        · rw [h]; exact List.mem_cons_self ..
        · exact List.mem_cons_of_mem _ (List.mem_cons_of_mem _ h)
      · rcases List.mem_cons.mp hy with rfl | hy
        · exact h.2 _ (List.mem_cons_self ..)
        · rcases List.mem_cons.mp hy with rfl | hy
          · have := h.2 x (List.mem_cons_self ..)
            omega
          · exact h.2 y (List.mem_cons_of_mem _ hy)
end
/-! ### told plainly: `_law_plain` of k85 and others on data of types -/
end DL

set_option Elab.async false
set_option linter.all false
set_option autoImplicit false
set_option maxRecDepth 100000
set_option maxHeartbeats 1000000
namespace DL
open PySem PySem.Spec PyProof.Rows L2
section
variable {α : Type} {e : α → Dv}
def popO (xs : List α) : Option (α × List α) := (xs[xs.length - 1]?).map fun v => (v, xs.dropLast)
theorem pop_ {fo : M} {j : Nat} {ρ : Rho} {xs : List α} {w : α × List α} (h : popO xs = some w) (ho : fo ρ = some (.al j, ρ)) (hi : isOb "list" ρ[j]? = true) (hj : ρ[j]? = some (.ow (.lst (xs.map e)))) : mutM "list" popG fo aNil ρ = some (.sh (e w.1), ρ.set j (.ow (.lst (w.2.map e)))) := by
  unfold popO at h
  obtain ⟨v, h1, rfl⟩ := Option.map_eq_some_iff.mp h
  unfold mutM
  rw [ho]
  simp only [Option.bind_some]
  rw [if_pos hi]
  simp only [aNil, Option.bind_some, shs]
  rw [hj]
  simp only [popG]
  rw [List.getElem?_map, List.length_map, h1]
  simp [List.map_dropLast]
def idxO (e : α → Dv) [EqE e] (xs : List α) (v : α) : Option Nat := xs.findIdx? fun z => eqE e z v
theorem idx_ [EqE e] {fo : M} {ga : MA} {ρ ρ0 ρ1 : Rho} {xs : List α} {v : α} {j : Nat} (hd : EqE.dep e + 1 ≤ 64) (h : idxO e xs v = some j) (ho : fo ρ = some (.sh (.list (xs.map e)), ρ0)) (ha : ga ρ0 = some ([.sh (e v)], ρ1)) : eIdx fo ga ρ = some (.sh (eI (j : Int)), ρ1) := by
  unfold eIdx
  rw [ho]
  simp only [Option.bind_some]
  rw [ha]
  simp only [Option.bind_some]
  have : idxN (xs.map e) (e v) = some j := by
    unfold idxN
    rw [if_pos ⟨shapedL_e hd xs, shaped_e (by omega) v⟩, List.findIdx?_map]
    refine Eq.trans ?_ h
    unfold idxO
    congr 1
    funext z
    exact EqE.eqv z v
  rw [this]
  rfl
end
end DL

set_option Elab.async false
set_option linter.all false
set_option autoImplicit false
set_option maxRecDepth 100000
set_option maxHeartbeats 1000000
namespace DL
open PySem PySem.Spec PyProof.Rows L2
/-! ### order of typed data; least ones -/
section
variable {α β τ : Type} {e : α → Dv} {et : τ → Dv}
theorem ltE_data [OrdE e] (a b : α) : ltE e a b = PySem.W.dataLt (e a) (e b) := (OrdE.ltEq a b).symm
theorem ltE_trans [OrdE e] {a b c : α} (h1 : ltE e a b = true) (h2 : ltE e b c = true) : ltE e a c = true := by
  rw [ltE_data] at *
  exact lex_trans (O := itemOrd) _ _ _ h1 h2
theorem ltE_irr [OrdE e] (a : α) : ltE e a a = false := lt_irr a
theorem ltE_asym [OrdE e] {a b : α} (h : ltE e a b = true) : ltE e b a = false := by
  cases h2 : ltE e b a with
  | false => rfl
  | true => exact absurd (ltE_trans h h2) (by rw [ltE_irr]; decide)
theorem ltE_neg [OrdE e] {a c : α} (b : α) (h : ltE e a c = true) : ltE e a b = true ∨ ltE e b c = true := by
  rw [ltE_data] at *
  rw [ltE_data]
  exact lex_negTrans (O := itemOrd) _ _ _ h
theorem ltE_tot [OrdE e] {a b : α} (h1 : ltE e a b = false) (h2 : ltE e b a = false) : a = b := OrdE.tot a b h1 h2
theorem minE_spec [OrdE e] : ∀ (xs : List α) (x : α), minE e x xs ∈ x :: xs ∧ ∀ y ∈ x :: xs, ltE e y (minE e x xs) = false
  | [], x => by
    refine ⟨List.mem_cons_self .., fun y hy => ?_⟩
    rcases List.mem_cons.mp hy with rfl | hy
    · exact ltE_irr _
    · cases hy
  | z :: xs, x => by
    have h := minE_spec xs (if ltE e z x = true then z else x)
    have eq : minE e x (z :: xs) = minE e (if ltE e z x = true then z else x) xs := rfl
    rw [eq]
    by_cases hc : ltE e z x = true
    · rw [if_pos hc] at h ⊢
      refine ⟨List.mem_cons_of_mem _ h.1, fun y hy => ?_⟩
      rcases List.mem_cons.mp hy with rfl | hy
      · cases hq : ltE e y (minE e z xs) with
        | false => rfl
        | true => exact absurd (ltE_trans hc hq) (by rw [h.2 z (List.mem_cons_self ..)]; decide)
      · exact h.2 y hy
    · rw [if_neg hc] at h ⊢
      refine ⟨?_, fun y hy => ?_⟩
      · rcases List.mem_cons.mp h.1 with h | h
        · rw [h]; exact List.mem_cons_self ..
        · exact List.mem_cons_of_mem _ (List.mem_cons_of_mem _ h)
      · rcases List.mem_cons.mp hy with rfl | hy
        · exact h.2 _ (List.mem_cons_self ..)
        · rcases List.mem_cons.mp hy with rfl | hy
          · cases hq : ltE e y (minE e x xs) with
            | false => rfl
            | true =>
              rcases ltE_neg x hq with h1 | h1
              · exact absurd h1 hc
              · exact absurd h1 (by rw [h.2 x (List.mem_cons_self ..)]; decide)
          · exact h.2 y (List.mem_cons_of_mem _ hy)
theorem minO_spec [OrdE e] {xs : List α} {m : α} (h : minO e xs = some m) : m ∈ xs ∧ ∀ y ∈ xs, ltE e y m = false := by
  cases xs with
  | nil => cases h
  | cons x xs =>
    cases h
    exact minE_spec xs x
theorem minO_of [OrdE e] {xs : List α} {m : α} (h : m ∈ xs) (k : ∀ y ∈ xs, ltE e y m = false) : minO e xs = some m := by
  cases xs with
  | nil => cases h
  | cons x xs =>
    have h2 := minE_spec (e := e) xs x
    exact congrArg some (ltE_tot (h2.2 m h |> fun q => k _ h2.1) (h2.2 m h))
theorem minO_ex [OrdE e] {xs : List α} (h : xs ≠ []) : ∃ m, minO e xs = some m ∧ m ∈ xs ∧ ∀ y ∈ xs, ltE e y m = false := by
  cases xs with
  | nil => exact absurd rfl h
  | cons x xs => exact ⟨_, rfl, minE_spec xs x⟩
theorem minO_mem [OrdE e] {xs ys : List α} (h : ∀ x, x ∈ xs ↔ x ∈ ys) : minO e xs = minO e ys := by
  cases hx : minO e xs with
  | some m =>
    obtain ⟨h1, h2⟩ := minO_spec hx
    exact (minO_of ((h m).mp h1) fun y hy => h2 y ((h y).mpr hy)).symm
  | none =>
    cases xs with
    | cons x xs => cases hx
    | nil =>
      cases ys with
      | nil => rfl
      | cons y ys => exact absurd ((h y).mpr (List.mem_cons_self ..)) List.not_mem_nil
theorem idx_of [EqE e] {xs : List α} {v : α} (h : v ∈ xs) : ∃ j, idxO e xs v = some j ∧ j < xs.length ∧ xs[j]? = some v ∧ ∀ i, i < j → xs[i]? ≠ some v := by
  unfold idxO
  cases hf : List.findIdx? (fun z => eqE e z v) xs with
  | none =>
    have := List.findIdx?_eq_none_iff.mp hf v h
    rw [eqE_self] at this
    cases this
  | some j =>
    obtain ⟨hj, h1, h2⟩ := List.findIdx?_eq_some_iff_getElem.mp hf
    refine ⟨j, rfl, hj, ?_, fun i hi hv => ?_⟩
    · rw [List.getElem?_eq_getElem hj]
      exact congrArg some (eqE_iff.mp h1)
    · have hi2 : i < xs.length := by omega
      rw [List.getElem?_eq_getElem hi2, Option.some.injEq] at hv
      have := h2 i hi
      rw [hv, eqE_self] at this
      exact this rfl
/-- the least of pairs of an image and what makes it, the makers ascending -/
theorem pair_min [OrdE e] [OrdE et] {xs : List τ} {g : τ → α} (asc : xs.Pairwise fun a b => ltE et a b = true) {m : α} (hm : minO e (xs.map g) = some m) {j : Nat} {t : τ} (ht : xs[j]? = some t) (hg : g t = m) (hj : ∀ i, i < j → ∀ s, xs[i]? = some s → g s ≠ m) :
    minO (e2 e et) (xs.map fun t => (g t, t)) = some (m, t) := by
  obtain ⟨h1, h2⟩ := minO_spec hm
  have hjl : j < xs.length := by
    rcases Nat.lt_or_ge j xs.length with h | h
    · exact h
    · rw [List.getElem?_eq_none h] at ht
      cases ht
  have htm : t ∈ xs := List.mem_of_getElem? ht
  refine minO_of (List.mem_map.mpr ⟨t, htm, by rw [hg]⟩) fun y hy => ?_
  obtain ⟨s, hs, rfl⟩ := List.mem_map.mp hy
  show (if EqE.eq e (g s) m = true then OrdE.lt et s t else OrdE.lt e (g s) m) = false
  by_cases hc : g s = m
  · rw [if_pos ((EqE.iff _ _).mpr hc)]
    obtain ⟨i, hi⟩ := List.getElem?_of_mem hs
    rcases Nat.lt_trichotomy i j with h | h | h
    · exact absurd hc (hj i h s hi)
    · subst h
      rw [ht] at hi
      cases hi
      exact lt_irr t
    · have hil : i < xs.length := by
        rcases Nat.lt_or_ge i xs.length with h | h
        · exact h
        · rw [List.getElem?_eq_none h] at hi
          cases hi
      have := List.pairwise_iff_getElem.mp asc j i hjl hil h
      rw [List.getElem?_eq_getElem hjl, Option.some.injEq] at ht
      rw [List.getElem?_eq_getElem hil, Option.some.injEq] at hi
      rw [ht, hi] at this
      exact ltE_asym this
  · rw [if_neg fun z => hc ((EqE.iff _ _).mp z)]
    exact h2 _ (List.mem_map.mpr ⟨s, hs, rfl⟩)
end
/-! ### chains of binds -/
theorem ext {α : Type} {x : Option α} {f : α → Option Bool} {v : α} (h : x = some v) (k : f v = some true) : x.bind f = some true := (be h).trans k
theorem exi {c : Bool} {x y : Option Bool} (h : c = false) (k : y = some true) : (if c = true then x else y) = some true := by
  rw [if_neg (by rw [h]; decide)]
  exact k
theorem exn {α σ r : Type} {x : Option α} {f : α → Option (Fo σ r)} {v : α} (h : x = some v) (k : ∃ n, f v = some (.nx n)) : ∃ n, x.bind f = some (.nx n) := by
  rw [be h]
  exact k
theorem exnif {σ r : Type} {c : Bool} {x y : Option (Fo σ r)} (h : c = false) (k : ∃ n, y = some (.nx n)) : ∃ n, (if c = true then x else y) = some (.nx n) := by
  rw [if_neg (by rw [h]; decide)]
  exact k
/-- as exn, with a property of what goes on -/
theorem exp {α σ r : Type} {P : σ → Prop} {x : Option α} {f : α → Option (Fo σ r)} {v : α} (h : x = some v) (k : ∃ n, f v = some (.nx n) ∧ P n) : ∃ n, x.bind f = some (.nx n) ∧ P n := by
  rw [be h]
  exact k
theorem expif {σ r : Type} {P : σ → Prop} {c : Bool} {x y : Option (Fo σ r)} (h : c = false) (k : ∃ n, y = some (.nx n) ∧ P n) : ∃ n, (if c = true then x else y) = some (.nx n) ∧ P n := by
  rw [if_neg (by rw [h]; decide)]
  exact k
theorem told_ {α : Type} {e : α → Dv} [EqE e] {a b : α} {x : Option Bool} (h : a = b) (hx : x = some (!eqE e a b)) : ((if (!true) = true then some true else x)) = some false := by
  rw [if_neg (by decide), hx, h, eqE_self]
  rfl
def anO {α : Type} (x : Option α) (f : α → Bool) : Bool := match x with
  | some v => f v
  | none => false
theorem anO_inv {α : Type} {x : Option α} {f : α → Bool} (h : anO x f = true) : ∃ v, x = some v ∧ f v = true := by
  cases x with
  | none => cases h
  | some v => exact ⟨v, rfl, h⟩
/-- is it this one -/
def isO {α : Type} (e : α → Dv) [EqE e] (x : Option α) (v : α) : Bool := match x with
  | some u => eqE e u v
  | none => false
theorem isO_inv {α : Type} {e : α → Dv} [EqE e] {x : Option α} {v : α} (h : isO e x v = true) : x = some v := by
  cases x with
  | none => cases h
  | some u => exact congrArg some (eqE_iff.mp h)
end DL

set_option Elab.async false
set_option linter.all false
set_option autoImplicit false
set_option maxRecDepth 100000
set_option maxHeartbeats 1000000
namespace DL
open PySem PySem.Spec PyProof.Rows L2
/-! ### dicts that stay as they are -/
def fzM (f : M) : M := fun ρ => (f ρ).bind fun x => match x.1 with
  | .ow (.lst _) => none
  | .ow (.dct kvs) => some (.fd (.dct kvs), x.2)
  | .ow (.dtn kvs) => some (.fd (.dtn kvs), x.2)
  | .al i => match x.2[i]? with
    | some (.ow (.dct kvs)) => some (.fd (.dct kvs), x.2.set i (.fd (.dct kvs)))
    | some (.ow (.dtn kvs)) => some (.fd (.dtn kvs), x.2.set i (.fd (.dtn kvs)))
    | _ => none
  | .fd o => some (.fd o, x.2)
  | .sh _ => none
section
variable {K : PySem.W.Frag} {ix : List Nat} {Fr G H : Hp} {FX : Nat → Option V} {ρ : Rho} {σ : L2.St}
theorem RS.freeze (R : RS K ix Fr FX G ρ σ H) {p : Addr} {u : HO} (hg : G p = none) (hf : Fr p = none) (hn : ∀ (i : Nat) (o' : Ob), ρ[i]? = some (.ow o') → σ[i]? ≠ some (some (.ref p))) : RS K ix Fr FX (upd G p u) ρ σ (upd H p u) := by
  refine ⟨fun a o e => ?_, fun a o e => ?_, fun a n => ?_, R.len, fun i s e => ?_, R.sep, R.fx⟩
  · by_cases ha : a = p
    · subst ha; rw [upd_same] at e ⊢; exact e
    · rw [upd_ne ha] at e ⊢; exact R.gh a o e
  · by_cases ha : a = p
    · subst ha; rw [hf] at e; cases e
    · rw [upd_ne ha]; exact R.fh a o e
  · by_cases ha : a = p
    · subst ha; exact absurd hf n
    · rw [upd_ne ha]; exact R.gf a n
  · refine (R.sl i s e).mono (sub_upd hg) fun a o' e1 e2 g f => ?_
    have ha : a ≠ p := fun z => by
      subst z; subst e2
      exact hn i _ e e1
    rw [upd_ne ha, upd_ne ha]
    exact ⟨g, rfl⟩
/-- the owned dict of a value is frozen -/
theorem freeze_ow {X : Cx} {pins : List (Addr × Obj)} {s1 : Shared} {a : Addr} {o : Ob} (hl : ∀ xs, o ≠ .lst xs) (I : Inv X pins σ H s1) (R : RS X.K ix Fr FX G ρ σ H) (g : G a = none) (f : Fr a = none) (c : Ct X.K G H a o) (hn : ∀ (i : Nat) (o' : Ob), ρ[i]? = some (.ow o') → σ[i]? ≠ some (some (.ref a))) :
    ∃ G' H', Inv X pins σ H' s1 ∧ Sub G G' ∧ RS X.K ix Fr FX G' ρ σ H' ∧ Cf X.K G' a o := by
  cases o with
  | lst xs => exact absurd rfl (hl xs)
  | dct kvs =>
    obtain ⟨ks, e, q⟩ := c
    obtain ⟨od, I'⟩ := I.lock e True.intro
    exact ⟨_, _, I', sub_upd g, R.freeze g f hn, od, ks, upd_same, q.mono (sub_upd g)⟩
  | dtn kvs =>
    obtain ⟨ks, e, q⟩ := c
    obtain ⟨od, I'⟩ := I.lock e True.intro
    exact ⟨_, _, I', sub_upd g, R.freeze g f hn, od, ks, upd_same, q.mono (sub_upd g)⟩
end
section
variable {X : Cx} {ix : List Nat} {e a b o : Expr} {f fo fk fv : M} {tg : Expr} {pos : Pos}
theorem de_fz (h : PE X e (TE' X.K ix f)) : PE X e (TE' X.K ix (fzM f)) := ⟨fun pins s σ H Q I ⟨Fr, FX, G, ρ, r, ρ', R, hf, k⟩ => by
  unfold fzM at hf
  obtain ⟨⟨r0, ρ0⟩, h0, hf⟩ := Option.bind_eq_some_iff.mp hf
  refine thn (h.run pins s σ H (fun v H1 => ∃ G1, Sub G G1 ∧ RS X.K ix Fr FX G1 ρ0 σ H1 ∧ VOk X.K Fr G1 H1 ρ0 σ r0 v) I ⟨Fr, FX, G, ρ, r0, ρ0, R, h0, fun v G' H' s R' q => ⟨G', s, R', q⟩⟩) fun u s1 ⟨v, H1, I1, ru, G1, sb, R1, v1⟩ => ?_
  have own : ∀ (o : Ob) (hl : ∀ xs, o ≠ .lst xs), r0 = .ow o → r = .fd o → ρ' = ρ0 → ∃ x Hz, Inv X pins σ Hz s1 ∧ RelV x u ∧ Q x Hz := by
    intro o hl e1 e2 e3
    subst e1 e2 e3
    obtain ⟨a, rfl, g, fr, c, hn⟩ := v1
    obtain ⟨G2, H2, I2, s2, R2, c2⟩ := freeze_ow hl I1 R1 g fr c hn
    exact ⟨.ref a, H2, I2, ru, k _ G2 H2 (sb.trans s2) R2 ⟨a, rfl, c2⟩⟩
  have als : ∀ (i : Nat) (o : Ob) (hl : ∀ xs, o ≠ .lst xs), r0 = .al i → ρ0[i]? = some (.ow o) → r = .fd o → ρ' = ρ0.set i (.fd o) → ∃ x Hz, Inv X pins σ Hz s1 ∧ RelV x u ∧ Q x Hz := by
    intro i o hl e1 hi e2 e3
    subst e1 e2 e3
    obtain ⟨a, ev, g, fr, c⟩ := R1.sl i _ hi
    have e' : σ[i]? = some (some v) := v1
    rw [ev] at e'
    cases e'
    have hlt : i < ρ0.length := (List.getElem?_eq_some_iff.mp hi).1
    have W := R1.weak (i := i) (s := .no) trivial (fun o z => nomatch z)
    have hn : ∀ (j : Nat) (o' : Ob), (ρ0.set i .no)[j]? = some (.ow o') → σ[j]? ≠ some (some (.ref a)) := fun j o' e1 e2 => by
      by_cases hj : i = j
      · subst hj
        rw [List.getElem?_set_self hlt] at e1
        cases e1
      · rw [List.getElem?_set_ne hj] at e1
        exact R1.sep i j a _ o' hj hi e1 ev e2
    obtain ⟨G2, H2, I2, s2, R2, c2⟩ := freeze_ow hl I1 W g fr c hn
    have R3 := R2.weak (i := i) (s := .fd o) ⟨a, ev, c2⟩ (fun o z => nomatch z)
    rw [List.set_set] at R3
    exact ⟨.ref a, H2, I2, ru, k _ G2 H2 (sb.trans s2) R3 ⟨a, rfl, c2⟩⟩
  cases r0 with
  | sh d => cases hf
  | ow o =>
    cases o with
    | lst xs => cases hf
    | dct kvs => cases hf; exact own (.dct kvs) (fun xs z => nomatch z) rfl rfl rfl
    | dtn kvs => cases hf; exact own (.dtn kvs) (fun xs z => nomatch z) rfl rfl rfl
  | fd o =>
    cases hf
    exact ⟨v, H1, I1, ru, k _ G1 H1 sb R1 v1⟩
  | al i =>
    simp only at hf
    split at hf
    · rename_i kvs hi
      cases hf
      exact als i (.dct kvs) (fun xs z => nomatch z) rfl hi rfl rfl
    · rename_i kvs hi
      cases hf
      exact als i (.dtn kvs) (fun xs z => nomatch z) rfl hi rfl rfl
    · cases hf⟩
/-! ### for k in d, d frozen -/
def keysOf : Ob → Option (List Dv)
  | .dct kvs => some (kvs.map Prod.fst)
  | .dtn kvs => some (kvs.map Prod.fst)
  | .lst _ => none
def iFd (f : M) : ML := fun ρ => (f ρ).bind fun x => match x.1 with
  | .fd o => (keysOf o).bind fun ds => some (ds, x.2)
  | _ => none
/-- the keys of the locked dict with (nested) tuple keys at d -/
def Itq (d : Addr) (o : Obj) (ps : List (NestedKey × Addr × V)) : It :=
  ⟨fun i H => H d = some (.frz o (tkO d ps)) ∧ i < ps.length, fun i H x H' => H' = H ∧ ∃ k b v, ps[i]? = some (k, b, v) ∧ x = .ref b, fun i H => H d = some (.frz o (tkO d ps)) ∧ ps.length ≤ i⟩
theorem pr_get : ∀ {ps : List (NestedKey × Addr × V)} {xs : List (NestedKey × Addr × Value)} {i : Nat} {k : NestedKey} {b : Addr} {v : V}, PR ps xs → ps[i]? = some (k, b, v) → ∃ u, xs[i]? = some (k, b, u)
  | _, _, i, k, b, v, .nil, e => by simp at e
  | _, _, 0, k, b, v, .cons r t, e => by
    simp only [List.getElem?_cons_zero, Option.some.injEq, Prod.mk.injEq] at e
    obtain ⟨rfl, rfl, rfl⟩ := e
    exact ⟨_, rfl⟩
  | _, _, i + 1, k, b, v, .cons r t, e => by
    simp only [List.getElem?_cons_succ] at e ⊢
    exact pr_get t e
section
variable {pins : List (Addr × Obj)} {σ : L2.St} {H : Hp} {s : Shared} {d : Addr} {oo : Obj}
theorem frzQ {ps : List (NestedKey × Addr × V)} (I : Inv X pins σ H s) (h : H d = some (.frz oo (tkO d ps))) :
    (d == sysModules) = false ∧ s.heap.get? d = some oo ∧ oo.ExactDict ∧ ∃ (es : Array DictEntry) (ep : Nat), oo.data = .dict es ep ∧ es.size = ps.length ∧
      ∀ (i : Nat) (k : NestedKey) (b : Addr) (v : V), ps[i]? = some (k, b, v) → ∃ (en : DictEntry), es[i]? = some en ∧ en.key = .ref b := by
  obtain ⟨hd, ⟨hs, xs, o', es, ep, pr, ho, hx, hdt, he, nd⟩, _, _⟩ := I.hok d _ h
  rw [hd] at ho
  cases ho
  have he' := he X.w
  have l1 : es.size = xs.length := by rw [← Array.length_toList, he', List.length_map]
  refine ⟨hs, hd, hx, es, ep, hdt, by rw [l1, pr_len pr], fun i k b v e => ?_⟩
  obtain ⟨u, hu⟩ := pr_get pr e
  refine ⟨⟨k.hash X.w, .ref b, u⟩, ?_, rfl⟩
  rw [← Array.getElem?_toList, he', List.getElem?_map, hu]
  rfl
/-- a turn of the walk over the keys, by the library's walk over raw entries -/
theorem turn_q {P : Program} {w : World} {K : PySem.W.Frag} {ps : List (NestedKey × Addr × V)} {es : Array DictEntry} {ep : Nat} (it : Addr) (hod : oo.data = .dict es ep) : Turn P w K tg (Itq d oo ps) [it] it (fun i h => h.IsKeyIter it d i es.size ep) := by
  have raw : ∀ (X : Cx) (pins : List (Addr × Obj)) (σ : L2.St) (H : Hp) (s : Shared), Inv X pins σ H s → H d = some (.frz oo (tkO d ps)) → H it = none → s.heap.DictRaw d es ep ∧ d ≠ it ∧ es.size = ps.length ∧ ∀ (i : Nat) (hi : i < es.size), ∃ k b v, ps[i]? = some (k, b, v) ∧ es[i].key = .ref b := by
    intro X pins σ H s I hd hit
    obtain ⟨_, h1, h2, es', ep', h3, h4, h5⟩ := frzQ I hd
    obtain ⟨rfl, rfl⟩ := dict_ep hod h3
    refine ⟨⟨oo, h1, h2, hod⟩, (fun z => by rw [z, hit] at hd; cases hd), h4, fun i hi => ?_⟩
    obtain ⟨en, h6, h7⟩ := h5 i ps[i].1 ps[i].2.1 ps[i].2.2 (List.getElem?_eq_getElem (by omega))
    rw [Array.getElem?_eq_getElem hi] at h6
    cases h6
    exact ⟨_, _, _, List.getElem?_eq_getElem (by omega), h7⟩
  constructor
  case mem => exact List.mem_singleton.mpr rfl
  case obj =>
    rintro i h ⟨oi, e, c, dd⟩ b hb
    rw [List.mem_singleton.mp hb]
    exact ⟨oi, e, fun v z => by rw [dd] at z; cases z⟩
  case keep => exact fun i h h' st k => st.at fun oi e => k it (List.mem_singleton.mpr rfl) oi e
  case self => exact fun A i s Q E st h => wpAny_pyIter_keyiter st h
  case item =>
    rintro X rfl rfl rfl hc i pins s σ H E I hf st ⟨hd, hi⟩
    obtain ⟨f0, f1, f2, f3, f4, f5⟩ := hf it (List.mem_singleton.mpr rfl)
    obtain ⟨r1, r2, r3, r4⟩ := raw X pins σ H s I hd f0
    refine (Walks.rawKeys (I.ok.hd hc) it d r2 es ep).item i s _ _ (by omega) ⟨st, r1⟩ fun v h' tk ⟨hj, ev⟩ st' kk => ?_
    obtain ⟨k, b, x, e1, e2⟩ := r4 i hj
    obtain ⟨oi, e, c, dd⟩ := id st'.1
    have J := I.turned (t' := tk) (h' := h') (fun b o hb e => kk b o (by simpa using hb) e) f0 f1 f3 f4 f5
    exact ⟨v, rfl, go_of (s := { s with heap := h', toks := tk }) e c dd (by decide) ⟨.ref b, H, J, by rw [ev, e2]; rfl, ⟨rfl, k, b, x, e1, rfl⟩, st'.1, fun b hb => (hf b hb).1⟩⟩
  case done =>
    rintro X rfl rfl rfl hc i pins s σ H E I hf st ⟨hd, hi⟩
    obtain ⟨f0, f1, f2, f3, f4, f5⟩ := hf it (List.mem_singleton.mpr rfl)
    obtain ⟨r1, r2, r3, r4⟩ := raw X pins σ H s I hd f0
    exact next_key_end (I.ok.hd hc) st (frzQ I hd).2.1 hod rfl (by omega) fun h' eb => ⟨rfl, I.turned (t' := s.toks) (fun b o hb e => eb b o hb e) f0 f1 f3 f4 f5⟩
end
def iKeysF (td : TE) : TI := fun σ H R => td σ H fun x H1 => ∃ d o, x = .ref d ∧ ((∃ kvs, H1 d = some (.frz o (.dK kvs)) ∧ R (Itk d o kvs) H1) ∨ ∃ ps, H1 d = some (.frz o (tkO d ps)) ∧ R (Itq d o ps) H1)
theorem pi_keysF {td : TE} (he : PE X e td) : PI X tg e (iKeysF td) := by
  refine ⟨fun pins s σ H R I h => ?_⟩
  refine thn (he.run pins s σ H _ I h) fun u s1 ⟨x, H1, I1, rx, d, o, ex, q⟩ => ?_
  subst ex
  obtain rfl : u = Value.ref d := rx
  rcases q with ⟨kvs, hd, q⟩ | ⟨kvs, hd, q⟩
  · obtain ⟨n1, n2, n3, es, ep, _, n4, n5, _⟩ := I1.frzK hd
    exact iter_keys n1 n2 n3 n4 (pi_one (tk := s1.toks) I1 _ (turn_keys _ n4) ⟨_, Heap.get?_push_size _ rfl, rfl, by rw [n5] <;> rfl⟩ q)
  · obtain ⟨n1, n2, n3, es, ep, n4, _, _⟩ := frzQ I1 hd
    exact iter_keys n1 n2 n3 n4 (pi_one (tk := s1.toks) I1 _ (turn_q _ n4) ⟨_, Heap.get?_push_size _ rfl, rfl, rfl⟩ q)
theorem dkv_at {K : PySem.W.Frag} {G : Hp} : ∀ {ks : List (Key × V)} {kvs : List (Dv × Dv)} {i : Nat}, DKV K G ks kvs → ∀ {kd : Dv × Dv}, kvs[i]? = some kd → ∃ k v, ks[i]? = some (k, v) ∧ kd.1 = keyD k ∧ Dp K G v kd.2
  | _, _, i, .nil, kd, e => by simp at e
  | _, _, 0, .cons h t, kd, e => by
    simp only [List.getElem?_cons_zero, Option.some.injEq] at e
    subst e
    exact ⟨_, _, rfl, rfl, h⟩
  | _, _, i + 1, .cons h t, kd, e => by
    simp only [List.getElem?_cons_succ] at e ⊢
    exact dkv_at t e
theorem tkv_at {K : PySem.W.Frag} {G : Hp} : ∀ {ps : List (NestedKey × Addr × V)} {kvs : List (Dv × Dv)} {i : Nat}, TKV K G ps kvs → ∀ {kd : Dv × Dv}, kvs[i]? = some kd → ∃ k b v, ps[i]? = some (k, b, v) ∧ Dp K G (.ref b) kd.1 ∧ Dp K G v kd.2
  | _, _, i, .nil, kd, e => by simp at e
  | _, _, 0, .cons h1 h2 h3 h4 t, kd, e => by
    simp only [List.getElem?_cons_zero, Option.some.injEq] at e
    subst e
    exact ⟨_, _, _, rfl, h3, h4⟩
  | _, _, i + 1, .cons h1 h2 h3 h4 t, kd, e => by
    simp only [List.getElem?_cons_succ] at e ⊢
    exact tkv_at t e
theorem dp_key {K : PySem.W.Frag} {G : Hp} (k : Key) : Dp K G (kV k) (keyD k) := by
  cases k with
  | inl i => exact .int i
  | inr x => exact .str x
theorem jok_dk {K : PySem.W.Frag} {G : Hp} {d : Addr} {o : Obj} {ks : List (Key × V)} {kvs : List (Dv × Dv)} (e : G d = some (.frz o (.dK ks))) (q : DKV K G ks kvs) : Jok K G (Itk d o ks) (kvs.map Prod.fst) := fun i G1 H1 s gh => by
  have l := dkv_length q
  have e1 : H1 d = some (.frz o (.dK ks)) := gh _ _ (s _ _ e)
  refine ⟨fun dd hd => ?_, fun hl => ⟨e1, by simp at hl; omega⟩⟩
  rw [List.getElem?_map] at hd
  obtain ⟨kd, hkd, rfl⟩ := Option.map_eq_some_iff.mp hd
  obtain ⟨k, v, h1, h2, h3⟩ := dkv_at q hkd
  refine ⟨⟨e1, (List.getElem?_eq_some_iff.mp h1).1⟩, fun x H2 ⟨e2, k', v', h4, e3⟩ => .inl ⟨e2, ?_⟩⟩
  rw [h1] at h4
  cases h4
  rw [e3, h2]
  exact dp_key k
theorem jok_dq {K : PySem.W.Frag} {G : Hp} {d : Addr} {o : Obj} {ks : List (NestedKey × Addr × V)} {kvs : List (Dv × Dv)} (e : G d = some (.frz o (tkO d ks))) (q : TKV K G ks kvs) : Jok K G (Itq d o ks) (kvs.map Prod.fst) := fun i G1 H1 s gh => by
  have l := tkv_len q
  have e1 : H1 d = some (.frz o (tkO d ks)) := gh _ _ (s _ _ e)
  refine ⟨fun dd hd => ?_, fun hl => ⟨e1, by simp at hl; omega⟩⟩
  rw [List.getElem?_map] at hd
  obtain ⟨kd, hkd, rfl⟩ := Option.map_eq_some_iff.mp hd
  obtain ⟨k, b, v, h1, h2, h3⟩ := tkv_at q hkd
  refine ⟨⟨e1, (List.getElem?_eq_some_iff.mp h1).1⟩, fun x H2 ⟨e2, k', b', v', h4, e3⟩ => .inl ⟨e2, ?_⟩⟩
  rw [h1] at h4
  cases h4
  rw [e3]
  exact dp_mono s _ _ h2
theorem di_fd (h : PE X e (TE' X.K ix f)) : PI X tg e (TI' X.K ix (iFd f)) :=
  pi_imp (pi_keysF h) fun σ H R ⟨Fr, FX, G, ρ, ds, ρ', R0, hf, k⟩ => by
    unfold iFd at hf
    obtain ⟨⟨r0, ρ0⟩, h0, hf⟩ := Option.bind_eq_some_iff.mp hf
    refine ⟨Fr, FX, G, ρ, r0, ρ0, R0, h0, fun v G1 H1 s1 R1 q => ?_⟩
    cases r0 with
    | ow o => cases hf
    | al i => cases hf
    | sh d => cases hf
    | fd o =>
      simp only at hf
      obtain ⟨es, he, hf⟩ := Option.bind_eq_some_iff.mp hf
      cases hf
      obtain ⟨a, rfl, c⟩ := q
      cases o with
      | lst xs => cases he
      | dct kvs =>
        cases he
        obtain ⟨od, ks, e1, q⟩ := c
        exact ⟨a, od, rfl, .inl ⟨ks, R1.gh _ _ e1, k _ G1 H1 s1 R1 (jok_dk e1 q)⟩⟩
      | dtn kvs =>
        cases he
        obtain ⟨od, ks, e1, q⟩ := c
        exact ⟨a, od, rfl, .inr ⟨ks, R1.gh _ _ e1, k _ G1 H1 s1 R1 (jok_dq e1 q)⟩⟩
end
end DL

set_option Elab.async false
set_option linter.all false
set_option autoImplicit false
set_option maxRecDepth 100000
set_option maxHeartbeats 1000000
namespace DL
open PySem PySem.Spec PyProof.Rows L2
/-! ### d.get(k, v), d any dict -/
def getA (ob : Ob) (k d0 : Dv) : Option Dv := match ob with
  | .dct kvs => if isKey k = true then some ((getD kvs k).getD d0) else none
  | .dtn kvs => if okT k = true then some ((getN kvs k).getD d0) else none
  | .lst _ => none
def obAt (ρ : Rho) : Rv → Option Ob
  | .al i => match ρ[i]? with
    | some (.ow ob) => some ob
    | _ => none
  | .fd ob => some ob
  | _ => none
def isDt : Ob → Bool
  | .lst _ => false
  | _ => true
def eDGetA (fo fk fd : M) : M := fun ρ => (fo ρ).bind fun x => (obAt x.2 x.1).bind fun ob0 => if isDt ob0 = true then (pkM fk x.2).bind fun y => (dat y.2 y.1).bind fun k => (frM fd y.2).bind fun z => (match z.1 with
  | .sh d0 => (obAt z.2 x.1).bind fun ob => (getA ob k d0).bind fun d => some (.sh d, z.2)
  | _ => none) else none
theorem obAt_cr {K : PySem.W.Frag} {ix : List Nat} {Fr G H : Hp} {FX : Nat → Option V} {ρ : Rho} {σ : L2.St} (R : RS K ix Fr FX G ρ σ H) {r : Rv} {v : V} {ob : Ob} (e : obAt ρ r = some ob) (q : VOk K Fr G H ρ σ r v) : ∃ a, v = .ref a ∧ CR K G H a ob := by
  cases r with
  | sh d => cases e
  | ow d => cases e
  | fd o =>
    cases e
    obtain ⟨a, rfl, c⟩ := q
    exact ⟨a, rfl, c.cr R.gh⟩
  | al i =>
    unfold obAt at e
    simp only at e
    split at e
    · rename_i o ho
      cases e
      obtain ⟨a, ev, _, _, c⟩ := R.sl i _ ho
      have e' : σ[i]? = some (some v) := q
      rw [ev] at e'
      cases e'
      exact ⟨a, rfl, c.cr⟩
    · cases e
def IsDA (H : Hp) (a : Addr) : Prop := IsD H a ∨ ∃ ps, Rd H a (tkO a ps)
theorem isDA_at {X : Cx} {pins : List (Addr × Obj)} {σ : L2.St} {H : Hp} {s : Shared} {a : Addr} (I : Inv X pins σ H s) (d : IsDA H a) :
    s.TypeIs (.ref a) "dict" ∧ (∀ b, Value.ref a = .ref b → ∃ ob, s.heap.get? b = some ob ∧ ob.dict = none) ∧ (a == sysModules) = false := by
  rcases d with d | ⟨ps, e⟩
  · exact isD_at I d
  · obtain ⟨⟨hd, xs, o, es, ep, p, e1, e2, e3, e4, e5⟩, _, _⟩ := Rd.ok e I.hok
    refine ⟨⟨o, e1, e2.1⟩, fun b q => ?_, hd⟩
    cases q
    exact ⟨o, e1, e2.2.1⟩
theorem cr_isDA {K : PySem.W.Frag} {G H : Hp} {a : Addr} {ob : Ob} (c : CR K G H a ob) (h : isDt ob = true) : IsDA H a := by
  cases ob with
  | lst xs => cases h
  | dct kvs => obtain ⟨ks, e, _⟩ := c; exact .inl (.inl ⟨ks, e⟩)
  | dtn kvs => obtain ⟨ks, e, _⟩ := c; exact .inr ⟨ks, e⟩
/-- what get gives -/
def RGetA (K : PySem.W.Frag) (a : Addr) (y z : V) (H : Hp) (Q : VK) : Prop := ∃ G ob k d0 d, (∀ a o, G a = some o → H a = some o) ∧ CR K G H a ob ∧ VD K G H k y ∧ Dp K G z d0 ∧ getA ob k d0 = some d ∧ ∀ v, Dp K G v d → Q v H
def tDGetA (K : PySem.W.Frag) (td ty tx : TE) : TE := fun σ H Q => td σ H fun x H1 => ∃ a, x = .ref a ∧ IsDA H1 a ∧ ty σ H1 fun y H2 => tx σ H2 fun z H3 => RGetA K a y z H3 Q
section
variable {X : Cx} {ix : List Nat} {o e f : Expr} {fo fk fd : M} {td ty tx : TE} {apos cpos : Pos}
theorem get2_ok {pins : List (Addr × Obj)} {σ : L2.St} {H : Hp} {s : Shared} {a : Addr} {y z : V} {u r : Value} {Q : VK} (hu : X.A.units + 10 < cLine) (I : Inv X pins σ H s) (ry : RelV y u) (rz : RelV z r) (h : RGetA X.K a y z H Q) :
    wpAny (model X.prog X.w) X.A (call (.builtin "dict.get") [.ref a, u, r]) (EP X pins σ Q) X.xe s := by
  obtain ⟨G, ob, k, d0, d, gh, c, vk, vz, hg, q⟩ := h
  unfold getA at hg
  split at hg
  · rename_i kvs
    split at hg
    · rename_i hk
      cases hg
      obtain ⟨ks, hv, qs⟩ := c
      obtain ⟨k', rfl⟩ := isKey_of hk
      rw [vd_key vk] at ry
      refine d_get2 (by omega) I (y := kV k') (.inl ⟨ks, k', hv, rfl, rfl⟩) ry rz fun w' s' I' rw' => ⟨_, H, I', rw', q _ ?_⟩
      rcases dkv_get (k := k') qs with ⟨d', v', h1, h2, h3⟩ | ⟨h1, h2⟩
      · rw [h1, h2]; exact h3
      · rw [h1, h2]; exact vz
    · cases hg
  · rename_i kvs
    split at hg
    · rename_i hk
      cases hg
      obtain ⟨ps, hv, qs⟩ := c
      obtain ⟨ds, n, rfl, hn, h8⟩ := okT_of hk
      obtain ⟨b, vs, rfl, _⟩ := vd_tup gh vk
      have pk : Dp X.K G (.ref b) (.tuple ds) := vk
      cases (show u = Value.ref b from ry)
      obtain ⟨xs, hp, hdk, hsys⟩ := tk_of I hv (qs.mono (sub_le gh))
      have hT : s.TypeIs (.ref a) "dict" := by
        obtain ⟨o, es, ep, e1, e2, _⟩ := id hdk
        exact ⟨o, e1, e2.1⟩
      refine call_meetsIn PySem.F.slot_dict_get hT PySem.F.entry_dict_get (PySem.F.args_dict_get_3 _ _ _) (meetsH_dict_get_default (nestedKind X.prog X.w) a b hsys r) ⟨show X.A.units + 1 + 8 < cLine by omega, n, xs, ⟨nestedIs_of I _ _ _ _ (dp_mono (sub_le gh) _ _ pk) rfl hn, h8⟩, hdk, ?_⟩
      rcases getN_at hn hp qs with ⟨a1, a2⟩ | ⟨b', u', v', d', a1, a2, a3, a4⟩
      · rw [a1]
        exact ⟨z, H, I.tok _, rz, q _ (by rw [a2]; exact vz)⟩
      · rw [a1]
        exact ⟨v', H, I.tok _, a2, q _ (by rw [a4]; exact a3)⟩
    · cases hg
  · cases hg
theorem pe_dgetA (hu : X.A.units + 10 < cLine) (ho : PE X o td) (he : PE X e ty) (hf : PE X f tx) (m : M2 X o "get" apos e f cpos) : PE X (.Call (.Attribute o "get" apos) [e, f] [] cpos) (tDGetA X.K td ty tx) := by
  refine ⟨fun pins s σ H Q I h => ?_⟩
  refine wpAny_Call_method m.base m.few m.line PySem.F.plainAttrs_dict PySem.F.slot_dict_get PySem.F.type_dict_get (thn (ho.run pins s σ H _ I h) fun u s1 ⟨x, H1, I1, rx, a, ex, d, q1⟩ => ?_)
  subst ex
  obtain rfl : u = Value.ref a := rx
  obtain ⟨t1, t2, _⟩ := isDA_at I1 d
  refine ⟨t1, t2, ?_⟩
  rw [m.trees]
  refine Calls.callWith_builtin rfl (Calls.evalArgs_plain (Calls.spliced_cons (thn (he.run pins s1 σ H1 _ I1 q1) fun iv s2 ⟨y, H2, I2, ry, q2⟩ =>
    Calls.spliced_cons (thn (hf.run pins s2 σ H2 _ I2 q2) fun fv s3 ⟨z, H3, I3, rz, q3⟩ => Calls.spliced_nil ?_))))
  exact get2_ok hu I3 ry rz q3
theorem de_dgetA (hu : X.A.units + 10 < cLine) (ho : PE X o (TE' X.K ix fo)) (he : PE X e (TE' X.K ix fk)) (hf : PE X f (TE' X.K ix fd)) (m : M2 X o "get" apos e f cpos) : PE X (.Call (.Attribute o "get" apos) [e, f] [] cpos) (TE' X.K ix (eDGetA fo fk fd)) :=
  pe_imp (pe_dgetA hu ho (de_pk he) (de_fr hf) m) fun σ H Q ⟨Fr, FX, G, ρ, r, ρ', R, h, k⟩ => by
    unfold eDGetA at h
    obtain ⟨⟨r0, ρ0⟩, h0, h⟩ := Option.bind_eq_some_iff.mp h
    obtain ⟨ob0, hob0, h⟩ := Option.bind_eq_some_iff.mp h
    split at h
    rotate_left
    · cases h
    rename_i hdt
    obtain ⟨⟨r1, ρ1⟩, h1, h⟩ := Option.bind_eq_some_iff.mp h
    obtain ⟨kd, h2, h⟩ := Option.bind_eq_some_iff.mp h
    obtain ⟨⟨r2, ρ2⟩, h3, h⟩ := Option.bind_eq_some_iff.mp h
    cases r2 with
    | ow o => cases h
    | al i => cases h
    | fd o => cases h
    | sh d0 =>
    obtain ⟨ob, hob, h⟩ := Option.bind_eq_some_iff.mp h
    obtain ⟨d, hd, h⟩ := Option.bind_eq_some_iff.mp h
    cases h
    refine ⟨Fr, FX, G, ρ, r0, ρ0, R, h0, fun x G1 H1 s1 R1 v1 => ?_⟩
    obtain ⟨a, rfl, c1⟩ := obAt_cr R1 hob0 v1
    refine ⟨a, rfl, cr_isDA c1 hdt, Fr, FX, G1, ρ0, r1, ρ1, R1, h1, fun y G2 H2 s2 R2 v2 => ?_⟩
    refine ⟨Fr, FX, G2, ρ1, .sh d0, ρ2, R2, h3, fun z G3 H3 s3 R3 v3 => ?_⟩
    have v1' : VOk X.K Fr G3 H3 ρ2 σ r0 (.ref a) := by
      cases r0 with
      | sh d => cases hob0
      | ow d => cases hob0
      | al i => exact v1
      | fd o => obtain ⟨b, e, c⟩ := v1; exact ⟨b, e, c.mono (s2.trans s3)⟩
    obtain ⟨a', e, c3⟩ := obAt_cr R3 hob v1'
    cases e
    have hkk : (isKey kd || okT kd) = true := by
      cases ob with
      | lst xs => cases hd
      | dct kvs =>
        unfold getA at hd
        simp only at hd
        split at hd
        · rename_i hk; rw [hk]; rfl
        · cases hd
      | dtn kvs =>
        unfold getA at hd
        simp only at hd
        split at hd
        · rename_i hk; rw [hk]; simp
        · cases hd
    exact ⟨G3, ob, kd, d0, d, R3.gh, c3, key_stay s3 hkk (dat_vd R2 v2 h2), v3, hd, fun v q => k v G3 H3 ((s1.trans s2).trans s3) R3 q⟩
end
/-! ### {k: v} with a tuple as key -/
def eDisp1 (fk fv : M) : M := fun ρ => (pkM fk ρ).bind fun x => match x.1 with
  | .sh k => if okT k = true then (frM fv x.2).bind fun y => (match y.1 with
    | .sh d => some (.ow (.dtn [(k, d)]), y.2)
    | _ => none) else none
  | _ => none
section
variable {X : Cx} {ix : List Nat} {ke ve : Expr} {fk fv : M} {pos : Pos}
theorem de_disp1 (hu : X.A.units + 10 < cLine) (hk : PE X ke (TE' X.K ix fk)) (hv : PE X ve (TE' X.K ix fv)) :
    PE X (.Dict [some ke] [ve] pos) (TE' X.K ix (eDisp1 fk fv)) := ⟨fun pins s σ H Q I ⟨Fr, FX, G, ρ, r, ρ', R, h, k⟩ => by
  unfold eDisp1 at h
  obtain ⟨⟨r1, ρ1⟩, h1, h⟩ := Option.bind_eq_some_iff.mp h
  cases r1 with
  | ow o => cases h
  | al i => cases h
  | fd o => cases h
  | sh kd =>
  simp only at h
  split at h
  rotate_left
  · cases h
  rename_i hok
  obtain ⟨⟨r2, ρ2⟩, h2, h⟩ := Option.bind_eq_some_iff.mp h
  cases r2 with
  | ow o => cases h
  | al i => cases h
  | fd o => cases h
  | sh d =>
  cases h
  obtain ⟨ds, n, rfl, hn, h8⟩ := okT_of hok
  have hp : H s.heap.objs.size = none := I.hok.fresh (Nat.le_refl s.heap.objs.size)
  have hsys : (s.heap.objs.size == sysModules) = false := by
    have := I.big
    exact beq_false_of_ne fun z => by rw [z] at this; exact Nat.lt_irrefl _ this
  have I1 : Inv X pins σ (upd H s.heap.objs.size (tkO s.heap.objs.size [])) { s with heap := s.heap.push { cls := .type "dict", data := .dict #[] }, toks := s.toks } :=
    I.laid (a := s.heap.objs.size) (t' := s.toks) (fun _ _ q => Heap.get?_push_of_some _ q) (Nat.le_refl _) (tk_new (xs := []) hsys .nil (Heap.DictOfH.new s.heap) (fun x hx => by cases hx))
  have g0 := (R.none_of hp).1
  have f0 := (R.none_of hp).2
  have R0 := (R.newH (o := tkO s.heap.objs.size []) hp).frame g0 upd_same (R.notIn hp)
  rw [arm_eval_Dict, zip_pairTrees [some ke] [ve] X.env pos rfl rfl, dictDisplay_pairs (pairTrees [some ke] [ve] X.env pos) (by simp [pairTrees]) (by simp [pairTrees])]
  refine wpAny_bind (wpAny_standAt (wpAny_bind (wpAny_subDictH (knd := nestedKind X.prog X.w) (Q := fun d s' => wpAny (model X.prog X.w) X.A (pure (Value.ref d)) (EP X pins σ Q) X.xe s') (show X.A.units + 8 < cLine by omega) (by simp [pairTrees]) ?_)))
  refine pairTrees_cons_walk (thn ((de_pk hk).run pins _ σ _ (fun x H1 => ∃ G1, Sub G G1 ∧ RS X.K ix (upd Fr s.heap.objs.size (tkO s.heap.objs.size [])) FX G1 ρ1 σ H1 ∧ Dp X.K G1 x (.tuple ds)) I1 ⟨_, FX, G, ρ, _, ρ1, R0, h1, fun v G1 H1 s1 R1 q => ⟨G1, s1, R1, q⟩⟩) fun u s1 ⟨x, H1, J1, rx, G1, sb1, R1, q1⟩ =>
    thn ((de_fr hv).run pins s1 σ H1 (fun y H2 => ∃ G2, Sub G1 G2 ∧ RS X.K ix (upd Fr s.heap.objs.size (tkO s.heap.objs.size [])) FX G2 ρ2 σ H2 ∧ Dp X.K G2 y d) J1 ⟨_, FX, G1, ρ1, _, ρ2, R1, h2, fun v G2 H2 s2 R2 q => ⟨G2, s2, R2, q⟩⟩) fun w s2 ⟨y, H2, J2, ry, G2, sb2, R2, q2⟩ => pairTrees_nil_walk ?_)
  have q1' : Dp X.K G2 x (.tuple ds) := dp_mono sb2 _ _ q1
  obtain ⟨b, vs, rfl, _⟩ := vd_tup R2.gh (dp_vd R2.gh q1')
  cases (show u = Value.ref b from rx)
  have hH2 : H2 s.heap.objs.size = some (tkO s.heap.objs.size []) := R2.fh _ _ upd_same
  have gp : G2 s.heap.objs.size = none := R2.gf _ (by rw [upd_same]; simp)
  obtain ⟨xs, pr, hdk, _⟩ := tk_of J2 (.inl hH2) .nil
  cases pr
  have hkey : (nestedKind X.prog X.w).is s2.heap n b := ⟨nestedIs_of J2 _ _ _ _ (dp_mono R2.sub _ _ q1') rfl hn, h8⟩
  refine ⟨[(n, b, w)], ⟨rfl, rfl, hkey, trivial⟩, hdk, fun h' tk hm hs => ?_⟩
  have hm' : h'.DictOfH (nestedKind X.prog X.w) s.heap.objs.size [(n, b, w)] := hm
  have nD : ∀ (i : Nat) (o' : Ob), ρ2[i]? = some (.ow o') → σ[i]? ≠ some (some (.ref s.heap.objs.size)) := fun i o' z1 z2 => by
    obtain ⟨a, ea, _, fa, _⟩ := R2.sl i _ z1
    rw [z2] at ea
    cases ea
    rw [upd_same] at fa
    cases fa
  have Rz := (R2.unframe f0).out (u := tkO s.heap.objs.size [(n, b, y)]) gp f0 nD
  have he : ∃ q, h'.get? s.heap.objs.size = some q := let ⟨q, _, _, hq, _⟩ := hm'; ⟨q, hq⟩
  refine wpAny_pure ⟨.ref s.heap.objs.size, _, d_write J2 (by rw [hH2]; exact True.intro) hs he (tk_new hsys (.cons ry .nil) hm' ?_), rfl, k _ G2 _ (sb1.trans sb2) Rz ⟨_, rfl, gp, f0, ⟨[(n, b, y)], upd_same, .cons hn h8 q1' q2 .nil⟩, nD⟩⟩
  intro x hx w'
  rcases List.mem_cons.mp hx with rfl | hx
  · exact hash_same X.w w' _ _ hn
  · cases hx⟩
end
end DL

set_option Elab.async false
set_option linter.all false
set_option autoImplicit false
set_option maxRecDepth 100000
set_option maxHeartbeats 1000000
namespace DL
open PySem PySem.Spec PyProof.Rows L2
/-! ### sorted of what is not a list -/
section
variable {X : Cx} {pins : List (Addr × Obj)} {σ : L2.St} {H G : Hp} {s : Shared} {Q : VK}
theorem ok_there {P : Program} {w : World} {H : Hp} {h : Heap} {a : Addr} : ∀ {o : HO}, ObjOk P w H h a o → ∃ u, h.get? a = some u
  | .lst _, ⟨_, _, _, _, e⟩ => ⟨_, e⟩
  | .tup _, ⟨_, _, _, ⟨u, e, _⟩⟩ => ⟨u, e⟩
  | .dK _, ⟨_, _, _, _, u, _, _, e, _⟩ => ⟨u, e⟩
  | .dT _, ⟨_, _, _, _, u, _, _, e, _⟩ => ⟨u, e⟩
  | .set _ _, ⟨u, _, _, _, e, _⟩ => ⟨u, e⟩
  | .ins _ _ _, ⟨_, _, _, e, _⟩ => ⟨_, e⟩
  | .own _, ⟨u, e⟩ => ⟨u, e⟩
  | .xd _, ⟨_, ⟨u, _, _, e, _⟩, _⟩ => ⟨u, e⟩
  | .rng _ _, ⟨_, _, _, e⟩ => ⟨_, e⟩
  | .frz _ _, ⟨e, _⟩ => ⟨_, e⟩
  | .tbl _, e => ⟨_, e⟩
  | .met _ _, e => ⟨_, e⟩
  | .ext _, ⟨_, ⟨u, e⟩, _⟩ => ⟨u, e⟩
theorem sorted_col {x : Value} (hu : X.A.units + 200 < cLine) (I : Inv X pins σ H s) (gh : ∀ a o, G a = some o → H a = some o)
    (hc : wpAny (model X.prog X.w) X.A.in1 (collect x) (fun vs s1 => (∀ b o, s.heap.get? b = some o → s1.heap.get? b = some o) ∧ s1.gens = s.gens ∧ s1.os = s.os ∧
      ∃ ws bs, DpAll X.K G ws bs ∧ Vals ws vs ∧ okSo bs = true ∧ Res X.K G H Q (.ow (.lst (sortD bs)))) X.xe s) :
    wpAny (model X.prog X.w) X.A (call (.builtin "sorted") [x]) (EP X pins σ Q) X.xe s := by
  refine Calls.call_function_entry kind_sorted plain_sorted entry_sorted (args_sorted1 _) ?_
  unfold Builtin.«sorted»
  refine wpAny_bind (m := checkCount "sorted" 1 1 _) (wpAny_pure ?_)
  refine wpAny_bind (wpAny_mono hc (fun vs s1 ⟨k1, g1, o1, ws, bs, dp, rv, hok, res⟩ => ?_) fun _ _ e => e)
  obtain ⟨q1, q2, q3, q4⟩ := okSo_all hok
  have hwl : ws.length = bs.length := dpAll_length dp
  have hvl : vs.length = bs.length := by rw [← rv.length, hwl]
  refine wpAny_bind (wpAny_newList ?_ (by rw [hvl]; exact q4))
  have hoL : (s1.heap.push (seqObj "list" vs.toArray 0)).get? s1.heap.objs.size = some (seqObj "list" vs.toArray 0) := Heap.get?_push_size _ rfl
  obtain ⟨e1, e2⟩ := each_of I (sub_le gh) dp rv
  have old : ∀ b o, s.heap.get? b = some o → (PySem.W.sortingHeap (s1.heap.push (seqObj "list" vs.toArray 0)) s1.heap.objs.size vs).get? b = some o := fun b o e => by
    have h1 := k1 b o e
    have hlt := Heap.lt_size h1
    exact PySem.W.sortingHeap_old (Nat.ne_of_lt hlt) (Heap.get?_push_of_some _ h1)
  have er : PySem.W.EachIs (fun v b => ∃ as, Reads (PySem.W.sortingHeap (s1.heap.push (seqObj "list" vs.toArray 0)) s1.heap.objs.size vs) v b as) vs bs := e2.mono fun _ _ ⟨as, r⟩ => ⟨as, PyProof.Rows.Reads.keeps old r⟩
  have S := fun (A : Around) (hA : A.units + 100 < cLine) => PySem.W.SortsAt.data (prog := X.prog) (w := X.w) (A := A) (s := { s1 with heap := PySem.W.sortingHeap (s1.heap.push (seqObj "list" vs.toArray 0)) s1.heap.objs.size vs }) er q2 q1 (fun d hd => by have := q3 d hd; omega)
  have eo : PySem.W.EachIs (fun u d => ∃ v, RelV v u ∧ Dp X.K G v d) (PySem.W.sortVals (PySem.W.dataKind (PySem.W.sortingHeap (s1.heap.push (seqObj "list" vs.toArray 0)) s1.heap.objs.size vs) bs) false vs vs) (bs.mergeSort (PySem.W.dataLe false fun d : Dv => d)) := by
    have z := PySem.W.sortVals_data (enc := fun d : Dv => d) false e1 er (by rw [List.map_id']; exact q2)
    rw [List.map_id'] at z
    exact z
  refine wpAny_bind (wpAny_holding (wpAny_call_entry slot_list_sort ⟨_, hoL, rfl⟩ entry_list_sort (PySem.W.list_sort_vals (κ := PySem.W.dataKind (PySem.W.sortingHeap (s1.heap.push (seqObj "list" vs.toArray 0)) s1.heap.objs.size vs) bs) hoL (S _ (by show X.A.units + 1 + 1 + 100 < cLine; omega)) (by rw [hvl]; exact q4) ⟨_, rfl, ?_⟩) (args_list_sort _)))
  obtain ⟨ws', rw', dw⟩ := of_each eo
  obtain ⟨c, hc'⟩ := PyProof.Rows.sortedHeap_at (vs := vs) (out := (PySem.W.sortVals (PySem.W.dataKind (PySem.W.sortingHeap (s1.heap.push (seqObj "list" vs.toArray 0)) s1.heap.objs.size vs) bs) false vs vs).toArray) hoL
  have hsn : s.heap.get? s1.heap.objs.size = none := by
    cases e : s.heap.get? s1.heap.objs.size with
    | none => rfl
    | some u => exact absurd (Heap.lt_size (k1 _ u e)) (Nat.lt_irrefl _)
  have hn : H s1.heap.objs.size = none := by
    cases e : H s1.heap.objs.size with
    | none => rfl
    | some u =>
      obtain ⟨o, ho⟩ := ok_there (I.hok _ u e)
      rw [hsn] at ho
      cases ho
  have hlen : ws'.length ≤ sizeLine := by
    rw [dpAll_length dw, List.length_mergeSort]
    exact q4
  have keep : ∀ b o, s.heap.get? b = some o → (PyProof.Rows.sortedHeap (s1.heap.push (seqObj "list" vs.toArray 0)) s1.heap.objs.size vs (PySem.W.sortVals (PySem.W.dataKind (PySem.W.sortingHeap (s1.heap.push (seqObj "list" vs.toArray 0)) s1.heap.objs.size vs) bs) false vs vs).toArray).get? b = some o := fun b u e => by
    have q := k1 b u e
    have hlt := Heap.lt_size q
    rw [PyProof.Rows.sortedHeap_old (Nat.ne_of_lt hlt) (by rw [size_push']; exact Nat.lt_succ_of_lt hlt)]
    exact Heap.get?_push_of_some _ q
  refine wpAny_pure ⟨_, rfl, ?_⟩
  refine ⟨.ref s1.heap.objs.size, upd H s1.heap.objs.size (.lst ws'), I.call' (ch := []) o1 (Un.laidN keep hsn hn) (I.hok.laidN keep hn (o := .lst ws') ⟨hlen, _, c, rw', hc'⟩) ?_ (fun _ z => nomatch z), rfl, res_lst res hn dw⟩
  show AllBare s1.gens
  rw [g1]
  exact I.bare
/-- sorted of a dict: its keys -/
def sortA (ds : List Dv) : Option Rz := match ds with
  | [.dict kvs] => if plD kvs = true then (if okSo (kvs.map Prod.fst) = true then some (.ow (.lst (sortD (kvs.map Prod.fst)))) else none) else (if okSo (kvs.tail.map Prod.fst) = true then some (.ow (.lst (sortD (kvs.tail.map Prod.fst)))) else none)
  | _ => sortG ds
theorem collect_dict {d : Addr} {es : Array DictEntry} {ep : Nat} {R : List Value → Shared → Prop} {E : Value → Shared → Prop} {A : Around} (hh : A.handled = none) (lo : (d == sysModules) = false) (hr : s.heap.DictRaw d es ep) (hn : es.size ≤ sizeLine)
    (h : ∀ (h' : Heap) (tk : Nat), (∀ b o, s.heap.get? b = some o → h'.get? b = some o) → R (es.toList.map (·.key)) { s with heap := h', toks := tk }) : wpAny (model X.prog X.w) A (collect (.ref d)) R E s :=
  PySem.W.kdu_collect (KdlSrc.rawDict lo) hh hr hn fun h' tk acc k it => by
    have : acc.toList = es.toList.map (·.key) := by
      refine List.ext_getElem (by rw [Array.length_toList, it.1, List.length_map, Array.length_toList]) fun i h1 h2 => ?_
      have hi : i < acc.size := by rw [Array.length_toList] at h1; exact h1
      obtain ⟨hj, e⟩ := it.2 i _ (Array.getElem?_eq_getElem hi)
      rw [Array.getElem_toList, e]
      simp
    rw [this]
    exact h h' tk k
theorem vals_of {ws : List V} {us : List Value} (hl : ws.length = us.length) (h : ∀ (i : Nat) (w : V) (u : Value), ws[i]? = some w → us[i]? = some u → RelV w u) : Vals ws us := by
  induction ws generalizing us with
  | nil =>
    cases us with
    | nil => exact .nil
    | cons u us => cases hl
  | cons w ws ih =>
    cases us with
    | nil => cases hl
    | cons u us => exact .cons (h 0 w u rfl rfl) (ih (by simpa using hl) fun i w' u' e1 e2 => h (i + 1) w' u' (by simpa using e1) (by simpa using e2))
theorem dpAll_of {K : PySem.W.Frag} {G : Hp} {ws : List V} {ds : List Dv} (hl : ws.length = ds.length) (h : ∀ (i : Nat) (w : V) (d : Dv), ws[i]? = some w → ds[i]? = some d → Dp K G w d) : DpAll K G ws ds := by
  induction ws generalizing ds with
  | nil =>
    cases ds with
    | nil => exact .nil
    | cons u us => cases hl
  | cons w ws ih =>
    cases ds with
    | nil => cases hl
    | cons u us => exact .cons (h 0 w u rfl rfl) (ih (by simpa using hl) fun i w' u' e1 e2 => h (i + 1) w' u' (by simpa using e1) (by simpa using e2))
theorem sortA_d (hu : X.A.units + 200 < cLine) (hcalm : X.calm = true) : CallD X (.builtin "sorted") sortA := by
  intro pins s σ H xs us Q I r h
  obtain ⟨G, ds, z, gh, vd, hz, q⟩ := h
  unfold sortA at hz
  split at hz
  rotate_left
  · exact sorted_d hu pins s σ H xs us Q I r ⟨G, ds, z, gh, vd, hz, q⟩
  rename_i kvs
  obtain ⟨v, rfl, hv⟩ := vds1 vd
  split at hz
  · rename_i hpl
    split at hz
    rotate_left
    · cases hz
    rename_i hok
    cases hz
    obtain ⟨a, ks, rfl, h1, h2⟩ := vd_dk hv hpl
    rw [Vals.ref1 r]
    obtain ⟨z, hd, vs, rel, dd⟩ := dk_rd I.hok h1
    obtain ⟨es, ep, hraw, hsz, hent⟩ := dd.raw
    have l1 := dkv_length h2
    have l2 : ks.length = vs.length := Paired.length rel
    refine sorted_col hu I gh (collect_dict (I.ok.hd hcalm) hd hraw (by omega) fun h' tk k => ⟨k, rfl, rfl, ks.map (fun kv => kV kv.1), _, ?_, ?_, hok, q⟩)
    · refine dpAll_of (by simp [l1]) fun i w d e1 e2 => ?_
      rw [List.getElem?_map] at e1 e2
      obtain ⟨kv, e3, rfl⟩ := Option.map_eq_some_iff.mp e1
      obtain ⟨kd, e4, rfl⟩ := Option.map_eq_some_iff.mp e2
      obtain ⟨k', v', e5, e6, _⟩ := dkv_at h2 e4
      rw [e3] at e5
      cases e5
      rw [e6]
      exact dp_key _
    · refine vals_of (by simp; omega) fun i w u e1 e2 => ?_
      rw [List.getElem?_map] at e1 e2
      obtain ⟨kv, e3, rfl⟩ := Option.map_eq_some_iff.mp e1
      obtain ⟨en, e4, rfl⟩ := Option.map_eq_some_iff.mp e2
      obtain ⟨u', e5, _⟩ := kv_get rel (k := kv.1) (v := kv.2) e3
      have hi : i < es.size := by
        have := (List.getElem?_eq_some_iff.mp e4).1
        simpa using this
      have := (hent i hi _ _ e5).1
      rw [Array.getElem?_toList, Array.getElem?_eq_getElem hi] at e4
      cases e4
      exact relV_key this
  · rename_i hpl
    split at hz
    rotate_left
    · cases hz
    rename_i hok
    cases hz
    obtain ⟨a, ps, rfl, h1, h2⟩ := vd_dn hv (by simpa using hpl)
    rw [Vals.ref1 r]
    obtain ⟨xs, pr, hdk, hsys⟩ := tk_of I h1 (h2.mono (sub_le gh))
    obtain ⟨es, ep, hraw, hsz, hent⟩ := hdk.raw
    have l1 := tkv_len h2
    have l2 := pr_len pr
    have hq4 := (okSo_all hok).2.2.2
    rw [List.length_map] at hq4
    refine sorted_col hu I gh (collect_dict (I.ok.hd hcalm) hsys hraw (by omega) fun h' tk k => ⟨k, rfl, rfl, ps.map (fun kv => V.ref kv.2.1), _, ?_, ?_, hok, q⟩)
    · refine dpAll_of (by simp [l1]) fun i w d e1 e2 => ?_
      rw [List.getElem?_map] at e1 e2
      obtain ⟨kv, e3, rfl⟩ := Option.map_eq_some_iff.mp e1
      obtain ⟨kd, e4, rfl⟩ := Option.map_eq_some_iff.mp e2
      obtain ⟨k', b', v', e5, e6, _⟩ := tkv_at h2 e4
      rw [e3] at e5
      cases e5
      exact e6
    · refine vals_of (by simp; omega) fun i w u e1 e2 => ?_
      rw [List.getElem?_map] at e1 e2
      obtain ⟨⟨k1, b1, v1⟩, e3, rfl⟩ := Option.map_eq_some_iff.mp e1
      obtain ⟨en, e4, rfl⟩ := Option.map_eq_some_iff.mp e2
      have hi : i < es.size := by
        have := (List.getElem?_eq_some_iff.mp e4).1
        simpa using this
      obtain ⟨y, e5, e6, _⟩ := hent i hi
      obtain ⟨u', e7⟩ := pr_get pr e3
      rw [e7] at e5
      cases e5
      rw [Array.getElem?_toList, Array.getElem?_eq_getElem hi] at e4
      cases e4
      exact e6
end
end DL

set_option Elab.async false
set_option linter.all false
set_option autoImplicit false
set_option maxRecDepth 100000
set_option maxHeartbeats 1000000
namespace DL
open PySem PySem.Spec PyProof.Rows L2
/-! ### the members of a list, each once, in order -/
section
variable {α : Type} {e : α → Dv}
def nubE (e : α → Dv) [EqE e] : List α → List α
  | [] => []
  | x :: xs => x :: (nubE e xs).filter fun y => !eqE e y x
theorem nub_mem [EqE e] {x : α} : ∀ {xs : List α}, x ∈ nubE e xs ↔ x ∈ xs
  | [] => Iff.rfl
  | y :: xs => by
    unfold nubE
    rw [List.mem_cons, List.mem_cons, List.mem_filter, nub_mem (xs := xs)]
    by_cases h : x = y
    · simp [h]
    · have : eqE e x y = false := eqE_ne.mpr h
      simp [h, this]
theorem nub_nodup [EqE e] : ∀ xs : List α, (nubE e xs).Nodup
  | [] => List.nodup_nil
  | x :: xs => by
    unfold nubE
    refine List.nodup_cons.mpr ⟨fun h => ?_, (nub_nodup xs).filter _⟩
    have := (List.mem_filter.mp h).2
    rw [eqE_self] at this
    cases this
theorem nub_len [EqE e] : ∀ xs : List α, (nubE e xs).length ≤ xs.length
  | [] => Nat.le_refl _
  | x :: xs => by
    unfold nubE
    have h1 := nub_len xs
    have h2 := List.length_filter_le (fun y => !eqE e y x) (nubE e xs)
    rw [List.length_cons, List.length_cons]
    omega
theorem isort_one [OrdE e] {xs ys : List α} (hx : xs.Nodup) (hy : ys.Nodup) (h : ∀ x, x ∈ xs ↔ x ∈ ys) : isort (OrdE.lt e) xs = isort (OrdE.lt e) ys := by
  have p : List.Perm xs ys := (List.perm_ext_iff_of_nodup hx hy).mpr h
  refine (((isort_perm _ xs).trans p).trans (isort_perm _ ys).symm).eq_of_pairwise (fun a b _ _ h1 h2 => OrdE.tot a b h2 h1) (isort_sorted (e := e) xs) (isort_sorted (e := e) ys)
theorem sortD_one [OrdE e] {xs ys : List α} (hx : xs.Nodup) (h : ∀ x, x ∈ xs ↔ x ∈ ys) : sortD (xs.map e) = (isort (OrdE.lt e) (nubE e ys)).map e := by
  rw [sortD_e, isort_one hx (nub_nodup (e := e) ys) fun x => (h x).trans nub_mem.symm]
end
/-! ### set(xs) of a list of ints, with its order -/
/-- the empty set that set.__new__ lays -/
def set0 (w : World) : Obj := { cls := .type "set", dict := none, data := .set #[] 0 (.fresh 0 0 (!w.params.followText "set-order")) }
section
variable {P : Program} {w : World} {A : Around} {E : Value → Shared → Prop} {s : Shared}
theorem want_on {M : Model} {B : Around} {c : Code} {Q1 E1 : Value → Shared → Prop} {R : Result → Shared → Prop} (h : codeAny M B c (wants Q1 E1) s) (k : ∀ v t, Q1 v t → R (.ok (.ret v)) t) (ke : ∀ e t, E1 e t → R (.error e) t) : codeAny M B c R s :=
  codeAny_mono h fun r t hr => by
    rcases r with e | f
    · exact ke e t hr
    · cases f <;> first | exact k _ t hr | exact absurd hr id
/-- what set.__init__ does with a list of ints -/
def SetsUp (s : Shared) (w : World) (ns : List Int) (s' : Shared) : Prop := ∃ (h' : Heap) (tk c : Nat), s' = { s with heap := h', toks := tk } ∧ SetR w h' s.heap.objs.size (fun j => decide (j ∈ ns)) c ∧ c ≤ ns.length ∧ ∀ b o, s.heap.get? b = some o → h'.get? b = some o
set_option maxHeartbeats 3200000 in
theorem set_filled {l : Addr} {items : Array Value} {ns : List Int} (hh : A.handled = none) (hl : s.heap.IsList l items) (hit : IntsAre items.toList ns) (hb : ns.length + 1 < scanBound) :
    codeAny (model P w) A (.call (.builtin "set.__init__") ⟨[.ref s.heap.objs.size, .ref l], []⟩) (wants (fun v t => v = .none ∧ SetsUp s w ns t) E) { s with heap := s.heap.push (set0 w) } := by
  have fresh : (s.heap.push (set0 w)).get? s.heap.objs.size = some (set0 w) := Heap.get?_push_size _ rfl
  have al := hl.push (set0 w)
  have ls : l < s.heap.objs.size := by
    obtain ⟨_, e, _⟩ := hl
    exact Heap.lt_size e
  have sz : (s.heap.push (set0 w)).objs.size = s.heap.objs.size + 1 := Heap.size_push ..
  refine codeAny_call_builtin F.called_set.init.plain F.entry_set_init (check_set_init_1 ⟨_, fresh, rfl⟩ ?_)
  obtain ⟨⟨cl, dc, dt, sl⟩, ol, e1, k, e2⟩ := id al
  cases e1
  cases e2
  have n1 := F.sub_list_set
  have n2 := F.sub_list_frozenset
  have n3 : (Value.type "list" == Value.type "dict") = false := by decide
  unfold Builtin.«set.__init__» noKeywords Builtin.Frozenset.updateFrom
  unfold set0 at *
  generalize hp : pyIter = pi
  wp_walk
  subst hp
  have d1 : l ≠ (s.heap.push { cls := Value.type "set", data := Data.set #[] 0 (SetTable.fresh 0 0 !w.params.followText "set-order") }).objs.size := fun e => absurd (e.trans sz) (Nat.ne_of_lt (Nat.lt_succ_of_lt ls))
  have d2 : s.heap.objs.size ∉ [(s.heap.push { cls := Value.type "set", data := Data.set #[] 0 (SetTable.fresh 0 0 !w.params.followText "set-order") }).objs.size, l] := by
    rw [sz]
    exact fun m => (List.mem_cons.mp m).elim (Nat.ne_of_lt (Nat.lt_succ_self _)) fun m => Nat.ne_of_gt ls (List.mem_singleton.mp m)
  have cnt : items.size = ns.length := Array.length_toList.symm.trans (IntsAre.length hit)
  refine wpAny_pyIter_list al (wpAny_bind (wpAny_runValue (set_update_ints (Walks.list (A := A.in1.in1) (by simp [hh]) _ l d1 items).toS s.heap.objs.size d2 ns cnt hb (fun i v hv => ?_) _ 0 _ rfl (Nat.zero_le _)
    ⟨⟨_, Heap.get?_push_size _ rfl, rfl, rfl⟩, al.push _⟩ ⟨0, Nat.le_refl _, setR_new_at (Heap.get?_push_of_some _ fresh)⟩ fun t c mv hc R => ?_)))
  · have hi : i < ns.length := cnt ▸ (Array.getElem?_eq_some_iff.mp hv).1
    obtain ⟨tk, e⟩ := IntsAre.int_at hit i v (by rw [Array.getElem?_toList, hv])
    exact ⟨ns[i], tk, List.getElem?_eq_getElem hi, by rw [e, List.getD_eq_getElem?_getD, List.getElem?_eq_getElem hi]; rfl⟩
  · refine wpAny_pure (wpAny_pure ⟨rfl, t.heap, t.toks, c, ?_, R, cnt ▸ hc, fun b o e => ?_⟩)
    · have g1 := mv.gens
      have g2 := mv.drawn
      have g3 := mv.os
      obtain ⟨h1, g, d, tk, os⟩ := t
      cases g1
      cases g2
      cases g3
      rfl
    · have lt := Heap.lt_size e
      refine mv.heap b o (fun m => (List.mem_cons.mp m).elim (Nat.ne_of_lt lt) fun m => Nat.ne_of_lt (Nat.lt_succ_of_lt lt) ((List.mem_singleton.mp m).trans sz)) (Heap.get?_push_of_some _ (Heap.get?_push_of_some _ e))
set_option maxHeartbeats 3200000 in
theorem set_of_ints {l : Addr} {items : Array Value} (ns : List Int) {Q : Value → Shared → Prop} (hh : A.handled = none) (hl : s.heap.IsList l items) (hit : IntsAre items.toList ns) (hb : ns.length + 1 < scanBound)
    (h : ∀ (h' : Heap) (tk c : Nat), SetR w h' s.heap.objs.size (fun j => decide (j ∈ ns)) c → c ≤ ns.length → (∀ b o, s.heap.get? b = some o → h'.get? b = some o) → Q (.ref s.heap.objs.size) { s with heap := h', toks := tk }) :
    wpAny (model P w) A (call (.type "set") [.ref l]) Q E s := by
  obtain ⟨m0, m1, mro⟩ := F.called_set.mro
  have made := F.called_set.made
  have sub := F.called_set.sub
  have nt := F.called_set.notType
  have cc := F.called_set.canCreate
  have tc := F.typeCall_set_1 (.ref l)
  have il := F.called_set.init.lookup
  have ib := F.called_set.init.bind (.ref s.heap.objs.size)
  refine wpAny_call (codeAny_of_tree (wpAny_pure ⟨Code.quiet_builtin _ (by decide +kernel), codeAny_builtin F.entry_type_call ?_⟩))
  rw [Around.under_plain (weight_type_call_type "set" [.ref l] []) rfl]
  wp_walk
  refine want_on (code_set_led1 (.ref l) (E := E) (Q₁ := fun v t => v = .ref s.heap.objs.size ∧ t = { s with heap := s.heap.push (set0 w) }) ⟨rfl, rfl⟩) (fun v t hv => ?_) fun _ _ he => he
  obtain ⟨rfl, rfl⟩ := hv
  have ht : Shared.TypeIs { s with heap := s.heap.push (set0 w) } (.ref s.heap.objs.size) "set" := ⟨_, Heap.get?_push_size _ rfl, rfl⟩
  wp_walk
  refine want_on (set_filled hh hl hit hb) (fun v t hv => ?_) fun _ _ he => he
  obtain ⟨rfl, h', tk, c, rfl, R, hc, k⟩ := hv
  wp_walk
  exact h h' tk c R hc k
end
/-! ### sorted(set(xs)) -/
def asI : List Dv → Option (List Int)
  | [] => some []
  | .int i :: ds => (asI ds).map (i :: ·)
  | _ => none
def asT : List Dv → Option (List (List Int))
  | [] => some []
  | .tuple es :: ds => (asI es).bind fun t => (asT ds).map (t :: ·)
  | _ => none
theorem asI_e : ∀ {ds : List Dv} {ns : List Int}, asI ds = some ns → ds = ns.map eI
  | [], ns, h => by cases h; rfl
  | .int i :: ds, ns, h => by
    obtain ⟨ms, h1, rfl⟩ := Option.map_eq_some_iff.mp h
    rw [asI_e h1]
    rfl
  | .none :: _, _, h => by cases h
  | .bool _ :: _, _, h => by cases h
  | .str _ :: _, _, h => by cases h
  | .list _ :: _, _, h => by cases h
  | .tuple _ :: _, _, h => by cases h
  | .dict _ :: _, _, h => by cases h
theorem asT_e : ∀ {ds : List Dv} {ns : List (List Int)}, asT ds = some ns → ds = ns.map (eT eI)
  | [], ns, h => by cases h; rfl
  | .tuple es :: ds, ns, h => by
    obtain ⟨t, h1, h⟩ := Option.bind_eq_some_iff.mp h
    obtain ⟨ms, h2, rfl⟩ := Option.map_eq_some_iff.mp h
    rw [asT_e h2, asI_e h1]
    rfl
  | .none :: _, _, h => by cases h
  | .bool _ :: _, _, h => by cases h
  | .str _ :: _, _, h => by cases h
  | .list _ :: _, _, h => by cases h
  | .int _ :: _, _, h => by cases h
  | .dict _ :: _, _, h => by cases h
def ssI (ds : List Dv) : Option Rz := (asI ds).bind fun ns => if ns.length ≤ 1000 then some (.ow (.lst ((isort (OrdE.lt eI) (nubE eI ns)).map eI))) else none
def ssT (ds : List Dv) : Option Rz := (asT ds).bind fun ns => if ns.length < 64 ∧ ns.all (OrdE.ok (eT eI)) = true then some (.ow (.lst ((isort (OrdE.lt (eT eI)) (nubE (eT eI) ns)).map (eT eI)))) else none
def ssD : Dv → Option Rz
  | .list ds => if (asI ds).isSome = true then ssI ds else ssT ds
  | .tuple ds => ssI ds
  | _ => none
def eSset (f : M) : M := fun ρ => (frM f ρ).bind fun x => match x.1 with
  | .sh d => (ssD d).bind fun r => some (r.rv, x.2)
  | _ => none
section
variable {X : Cx} {pins : List (Addr × Obj)} {σ : L2.St} {H G : Hp} {s : Shared} {Q : VK}
/-- sorted of a set of ints -/
def rSortS (X : Cx) : List V → Hp → VK → Prop := fun vs H Q => ∃ a S n G, vs = [V.ref a] ∧ H a = some (SetO X.w a S n) ∧ (∀ a o, G a = some o → H a = some o) ∧ n ≤ 1000 ∧
  ∀ ms : List Int, ms.Nodup → (∀ k, k ∈ ms ↔ S k = true) → Res X.K G H Q (.ow (.lst (sortD (ms.map eI))))
theorem cr_sortS (hu : X.A.units + 200 < cLine) (hc : X.calm = true) : CallR X (.builtin "sorted") (rSortS X) := by
  intro pins s σ H vs us Q I r h
  obtain ⟨a, S, n, G, rfl, ha, gh, hn, q⟩ := h
  rw [Vals.ref1 r]
  obtain ⟨o, es, ep, t, ho, hex, hd, g, nd, hm, hb, hf, hnn, hr, hl⟩ := setO_get I ha
  refine sorted_col hu I gh (collect_set (A := X.A.in1) (I.ok.hd hc) ⟨o, ho, hex.1, hd⟩ hf hb hr hl fun s1 out k1 hz g1 o1 pm => ?_)
  have hi : ∀ v ∈ out, ∃ k tk, v = Value.int k tk := fun v hv => by
    obtain ⟨e, he, q⟩ := List.mem_map.mp (pm.mem_iff.mp hv)
    obtain ⟨k, tk, h1, _⟩ := g e he
    exact ⟨k, tk, by rw [← q]; exact h1⟩
  have pk : (out.map L2.vInt).Perm (es.toList.map keyOf) := by
    have z := pm.map L2.vInt
    rw [List.map_map] at z
    have e2 : (L2.vInt ∘ fun (x : Int × Value) => x.2) = keyOf := funext fun e => (key_vInt e).symm
    rwa [e2] at z
  have hl' : (out.map L2.vInt).length ≤ 1000 := by rw [pk.length_eq, List.length_map, Array.length_toList, hnn]; exact hn
  refine ⟨k1, g1, o1, (out.map L2.vInt).map V.int, (out.map L2.vInt).map eI, dpAll_ints _, ?_, ?_, q _ (pk.nodup_iff.mpr nd) fun k => by rw [pk.mem_iff, hm k]⟩
  · refine vals_of (by simp) fun i w u e1 e2 => ?_
    rw [List.getElem?_map, List.getElem?_map, e2] at e1
    obtain ⟨k, tk, rfl⟩ := hi u (List.mem_of_getElem? e2)
    cases e1
    exact ⟨tk, rfl⟩
  · exact okSo_e _ (by decide) (List.all_eq_true.mpr fun _ _ => rfl) (Nat.le_trans hl' (Nat.le_trans (by decide) szl_6))
/-- sorted of a set of tuples of ints -/
def rSortST (X : Cx) : List V → Hp → VK → Prop := fun vs H Q => ∃ (a : Addr) (L : List (Addr × List Int)) (G : Hp), vs = [V.ref a] ∧ H a = some (SetTO X.prog X.w a L) ∧ (∀ a o, G a = some o → H a = some o) ∧ (∀ p ∈ L, Dp X.K G (.ref p.1) (eT eI p.2)) ∧ (∀ p ∈ L, OrdE.ok (eT eI) p.2 = true) ∧
  ∀ ms : List (List Int), ms.Nodup → (∀ k, k ∈ ms ↔ k ∈ L.map (·.2)) → Res X.K G H Q (.ow (.lst (sortD (ms.map (eT eI)))))
theorem dp_tupI {K : PySem.W.Frag} {G : Hp} {b : Addr} {k : List Int} (h : Dp K G (.ref b) (eT eI k)) : SqT K G b (k.map V.int) := by
  cases h with
  | tup hs ha =>
    have := ints_of_dpAll ha
    rw [this] at hs
    exact hs
theorem cr_sortST (hu : X.A.units + 200 < cLine) (hc : X.calm = true) : CallR X (.builtin "sorted") (rSortST X) := by
  intro pins s σ H vs us Q I r h
  obtain ⟨a, L, G, rfl, ha, gh, hdp, hok, q⟩ := h
  rw [Vals.ref1 r]
  have R0 : SetT0 X.prog X.w s.heap a L := (I.hok a _ ha).1
  have hT : ∀ p ∈ L, IsT X.prog X.w s.heap p.2 p.1 := fun p hp => I.isT ((sub_le gh).sqT (dp_tupI (hdp p hp)))
  obtain ⟨es, ep, t, R⟩ := R0.full hT
  obtain ⟨o, ho, hex, hd⟩ := R.ob
  have hfew := R.few
  have hsz := R.size
  refine sorted_col hu I gh (collect_set (A := X.A.in1) (I.ok.hd hc) ⟨o, ho, hex.1, hd⟩ R.fits (by unfold scanBound; omega) R.tab.ris R.led fun s1 out k1 hz g1 o1 pm => ?_)
  have hes : es.toList.map (·.2) = L.map fun q => Value.ref q.1 := by
    rw [R.rows]
    unfold rowsOf
    rw [List.map_map] <;> rfl
  rw [hes] at pm
  have hk : ∀ p ∈ L, TS.intsOf s.heap (.ref p.1) = p.2 := fun p hp => (tupInts_of (hT p hp)).ints
  have pk : (out.map (TS.intsOf s.heap)).Perm (L.map (·.2)) := by
    have z := pm.map (TS.intsOf s.heap)
    rw [List.map_map] at z
    have e3 : L.map (TS.intsOf s.heap ∘ fun q : Addr × List Int => Value.ref q.1) = L.map (·.2) := List.map_congr_left fun p hp => hk p hp
    rwa [e3] at z
  have hr : ∀ v ∈ out, ∃ p ∈ L, v = Value.ref p.1 := fun v hv => by
    obtain ⟨p, hp, e⟩ := List.mem_map.mp (pm.mem_iff.mp hv)
    exact ⟨p, hp, e.symm⟩
  refine ⟨k1, g1, o1, out.map bkV, (out.map (TS.intsOf s.heap)).map (eT eI), ?_, ?_, ?_, q _ (pk.nodup_iff.mpr R.nd) fun k => pk.mem_iff⟩
  · refine dpAll_of (by simp) fun i w d e1 e2 => ?_
    rw [List.getElem?_map] at e1
    rw [List.getElem?_map, List.getElem?_map] at e2
    obtain ⟨v, e3, rfl⟩ := Option.map_eq_some_iff.mp e1
    rw [e3] at e2
    cases e2
    obtain ⟨p, hp, rfl⟩ := hr v (List.mem_of_getElem? e3)
    rw [hk p hp]
    exact hdp p hp
  · exact bkV_vals fun u hu => by
      obtain ⟨p, _, e⟩ := hr u hu
      exact ⟨p.1, e⟩
  · refine okSo_e _ (by decide) (List.all_eq_true.mpr fun k hk' => ?_) ?_
    · obtain ⟨p, hp, rfl⟩ := List.mem_map.mp (pk.mem_iff.mp hk')
      exact hok p hp
    · rw [List.length_map, pm.length_eq, List.length_map]
      exact Nat.le_trans (Nat.le_of_lt hfew) (Nat.le_trans (by decide) szl_6)
/-- set of a row of ints, of a list of tuples of ints -/
def rSetT (X : Cx) : List V → Hp → VK → Prop := fun vs H Q => (∃ (l : Addr) (ns : List Int), vs = [V.ref l] ∧ (SqT X.K H l (ns.map V.int) ∨ SqL X.K H l (ns.map V.int)) ∧ ns.length ≤ 1000 ∧ ∀ (a : Addr) (c : Nat), H a = none → c ≤ ns.length → Q (.ref a) (upd H a (SetO X.w a (fun j => decide (j ∈ ns)) c))) ∨ rSetOfT X.K X.prog X.w vs H Q
theorem cr_setT (hu : X.A.units + 200 < cLine) (hc : X.calm = true) : CallR X (.type "set") (rSetT X) := by
  intro pins s σ H vs us Q I r h
  rcases h with ⟨l, ns, rfl, hl, hn, q⟩ | h
  · rw [Vals.ref1 r]
    rcases hl with hl | hl
    rotate_left
    · obtain ⟨its, rv, pl, _⟩ := I.list hl
      exact set_of_ints (P := X.prog) (w := X.w) (items := its.toArray) ns (I.ok.hd hc) pl.isList (by simpa using rv.ints) (by unfold scanBound; omega) fun h' tk c R hcl k => ⟨.ref s.heap.objs.size, _, I.laid (t' := tk) k (Nat.le_refl _) (setO_new R), rfl, q _ c (I.hok.fresh (Nat.le_refl _)) hcl⟩
    obtain ⟨its, rv, pl, _⟩ := I.tuple hl
    refine call_set_tupI (P := X.prog) (w := X.w) (items := its.toArray) ns (I.ok.hd hc) pl (by simpa using rv.ints) (by unfold scanBound; omega) fun h' tk c R hcl k => ?_
    exact ⟨.ref s.heap.objs.size, _, I.laid (t' := tk) k (Nat.le_refl _) (setO_new R), rfl, q _ c (I.hok.fresh (Nat.le_refl _)) hcl⟩
  · exact cr_setOfT hc (by omega) pins s σ H vs us Q I r h
def rSortSS (X : Cx) : List V → Hp → VK → Prop := fun vs H Q => rSortS X vs H Q ∨ rSortST X vs H Q
theorem cr_sortSS (hu : X.A.units + 200 < cLine) (hc : X.calm = true) : CallR X (.builtin "sorted") (rSortSS X) := fun pins s σ H vs us Q I r h =>
  h.elim (cr_sortS hu hc pins s σ H vs us Q I r) (cr_sortST hu hc pins s σ H vs us Q I r)
theorem refs_split {K : PySem.W.Frag} {G : Hp} : ∀ {ts : List (List Int)} {vs : List V}, DpAll K G vs (ts.map (eT eI)) → ∃ ks : List (Addr × List Int), vs = ks.map (fun p => V.ref p.1) ∧ ts = ks.map (·.2) ∧ ∀ p ∈ ks, Dp K G (.ref p.1) (eT eI p.2)
  | [], _, h => by cases h; exact ⟨[], rfl, rfl, fun p hp => by cases hp⟩
  | t :: ts, _, h => by
    cases h with
    | cons h1 h2 =>
      obtain ⟨ks, e1, e2, h3⟩ := refs_split h2
      have h1' := h1
      cases h1' with
      | tup hs ha =>
        refine ⟨(_, t) :: ks, by rw [e1]; rfl, by rw [e2]; rfl, fun p hp => ?_⟩
        rcases List.mem_cons.mp hp with rfl | hp
        · exact h1
        · exact h3 p hp
variable {ix : List Nat} {e : Expr} {f : M} {p p2 q pos : Pos} {x y : Str}
theorem de_sset (hu : X.A.units + 200 < cLine) (hc : X.calm = true) (hg : Gl X "sorted") (hm : X.mg "sorted" = none) (hg2 : Gl X "set") (hm2 : X.mg "set" = none) (ha : PE X e (TE' X.K ix f))
    (he : starEach [e] X.env = (false, eval e X.env) :: starEach [] X.env := by rfl) (he2 : starEach [Expr.Call (.Name "set" p2) [e] [] q] X.env = (false, eval (.Call (.Name "set" p2) [e] [] q) X.env) :: starEach [] X.env := by rfl)
    (hpl : (backTo q (starEach ([] : List Expr) X.env)).any (·.1) = false := by rfl) (hpl2 : (backTo pos (starEach ([] : List Expr) X.env)).any (·.1) = false := by rfl) :
    PE X (.Call (.Name "sorted" p) [.Call (.Name "set" p2) [e] [] q] [] pos) (TE' X.K ix (eSset f)) :=
  pe_imp (pe_callB (cr_sortSS hu hc) hg hm (by decide +kernel) (pa_cons (pe_callTy (cr_setT hu hc) hg2 hm2 (by decide +kernel) (pa_cons (de_fr ha) pa_nil he) (by decide) (by decide) he hpl) pa_nil he2) (by decide) (by decide) he2 hpl2) fun σ H Q ⟨Fr, FX, G, ρ, r, ρ', R, hf, k⟩ => by
    unfold eSset at hf
    obtain ⟨⟨r0, ρ0⟩, h0, hf⟩ := Option.bind_eq_some_iff.mp hf
    cases r0 with
    | ow o => cases hf
    | al i => cases hf
    | fd o => cases hf
    | sh d =>
    obtain ⟨z, hz, hf⟩ := Option.bind_eq_some_iff.mp hf
    cases hf
    refine ⟨Fr, FX, G, ρ, .sh d, ρ0, R, h0, fun v G1 H1 s1 R1 v1 => ?_⟩
    have done : ∀ (a : Addr) (u : HO), H1 a = none → Res X.K G1 (upd H1 a u) Q z := fun a u ha => res_ok (R1.newH ha) fun w G2 H2 s2 R2 v2 => k w G2 H2 (s1.trans s2) R2 v2
    have byInt : ∀ (b : Addr) (ds : List Dv), ssI ds = some z → (∀ ns : List Int, ds = ns.map eI → SqT X.K H1 b (ns.map V.int) ∨ SqL X.K H1 b (ns.map V.int)) → rSetT X [V.ref b] H1 fun v' H' => rSortSS X [v'] H' Q := fun b ds hz hs => by
      unfold ssI at hz
      obtain ⟨ns, h1, hz⟩ := Option.bind_eq_some_iff.mp hz
      split at hz
      rotate_left
      · cases hz
      rename_i hn
      cases hz
      refine Or.inl ⟨b, ns, rfl, hs ns (asI_e h1), hn, fun a c ha hcl => Or.inl ⟨a, _, c, G1, rfl, upd_same, (R1.newH ha).gh, by omega, fun ms hnd hms => ?_⟩⟩
      rw [sortD_one hnd fun j => (hms j).trans decide_eq_true_iff]
      exact done a _ ha
    cases d with
    | tuple ds =>
      obtain ⟨b, vs, rfl, _⟩ := vd_tup R1.gh (dp_vd R1.gh v1)
      exact byInt b ds hz fun ns e => .inl (R1.sub.sqT (dp_tupI (by
        subst e
        exact v1)))
    | list ds =>
      unfold ssD at hz
      simp only at hz
      split at hz
      · cases v1 with
        | lst hs ha => exact byInt _ ds hz fun ns e => .inr (R1.sub.sqL (by
            subst e
            rw [← ints_of_dpAll ha]
            exact hs))
      unfold ssT at hz
      obtain ⟨ts, h1, hz⟩ := Option.bind_eq_some_iff.mp hz
      split at hz
      rotate_left
      · cases hz
      rename_i hn
      cases hz
      have e1 := asT_e h1
      subst e1
      cases v1 with
      | lst hs ha =>
        obtain ⟨ks, rfl, rfl, hks⟩ := refs_split ha
        refine Or.inr ⟨_, ks, rfl, R1.sub.sqL hs, fun p hp => R1.sub.sqT (dp_tupI (hks p hp)), by simpa using hn.1, fun a L ha hsub hall => Or.inr ⟨a, L, G1, rfl, upd_same, (R1.newH ha).gh, fun p hp => hks p (hsub p hp), fun p hp => ?_, fun ms hnd hms => ?_⟩⟩
        · exact List.all_eq_true.mp hn.2 p.2 (List.mem_map.mpr ⟨p, hsub p hp, rfl⟩)
        · rw [sortD_one (ys := ks.map (·.2)) hnd fun t => (hms t).trans ⟨fun h => ?_, fun h => ?_⟩]
          · exact done a _ ha
          · obtain ⟨p, hp, rfl⟩ := List.mem_map.mp h
            exact List.mem_map.mpr ⟨p, hsub p hp, rfl⟩
          · obtain ⟨p, hp, rfl⟩ := List.mem_map.mp h
            exact hall p hp
    | none => cases hz
    | bool b => cases hz
    | int b => cases hz
    | str b => cases hz
    | dict b => cases hz
end
end DL

set_option Elab.async false
set_option linter.all false
set_option autoImplicit false
set_option maxRecDepth 100000
set_option maxHeartbeats 1000000
namespace DL
open PySem PySem.Spec PyProof.Rows L2
section
variable {κ ν : Type} {ek : κ → Dv} {ev : ν → Dv} {f fo fk fd fv : M} {ρ ρ1 ρ2 ρ3 : Rho} {kvs : List (κ × ν)} {o : Ob} {r : Rv}
/-! ### dicts that stay -/
theorem evf {i : Nat} (h : ρ[i]? = some (.fd o)) : eVar i ρ = some (.fd o, ρ) := by
  unfold eVar
  rw [h]
theorem pk_f (h : f ρ = some (.fd o, ρ1)) : pkM f ρ = some (.fd o, ρ1) := by
  unfold pkM
  rw [h]
  rfl
theorem set_f {i : Nat} (h : f ρ = some (.fd o, ρ1)) : sSet i f ρ = some (.nx (ρ1.set i (.fd o))) := by
  unfold sSet
  rw [h]
  rfl
theorem fz_n {ds : List (Dv × Dv)} (h : f ρ = some (.ow (.dtn ds), ρ1)) : fzM f ρ = some (.fd (.dtn ds), ρ1) := by
  unfold fzM
  rw [h]
  rfl
theorem fz_d {ds : List (Dv × Dv)} (h : f ρ = some (.ow (.dct ds), ρ1)) : fzM f ρ = some (.fd (.dct ds), ρ1) := by
  unfold fzM
  rw [h]
  rfl
theorem fz_f (h : f ρ = some (.fd o, ρ1)) : fzM f ρ = some (.fd o, ρ1) := by
  unfold fzM
  rw [h]
  rfl
theorem fz_aln {ds : List (Dv × Dv)} {i : Nat} (h : f ρ = some (.al i, ρ1)) (e : ρ1[i]? = some (.ow (.dtn ds))) : fzM f ρ = some (.fd (.dtn ds), ρ1.set i (.fd (.dtn ds))) := by
  unfold fzM
  rw [h]
  simp [e]
theorem fz_ald {ds : List (Dv × Dv)} {i : Nat} (h : f ρ = some (.al i, ρ1)) (e : ρ1[i]? = some (.ow (.dct ds))) : fzM f ρ = some (.fd (.dct ds), ρ1.set i (.fd (.dct ds))) := by
  unfold fzM
  rw [h]
  simp [e]
theorem ikeys_n (h : f ρ = some (.fd (.dtn (kvs.map (ekv ek ev))), ρ1)) : iFd f ρ = some ((kvs.map Prod.fst).map ek, ρ1) := by
  unfold iFd
  rw [h]
  simp [keysOf, ekv, Function.comp_def]
theorem ikeys_i (h : f ρ = some (.fd (.dct (kvs.map (ekv ek ev))), ρ1)) : iFd f ρ = some ((kvs.map Prod.fst).map ek, ρ1) := by
  unfold iFd
  rw [h]
  simp [keysOf, ekv, Function.comp_def]
/-! ### reading -/
theorem ixN_e [KeyE ek] {k : κ} {v : ν} (h : dgetO (EqE.eq ek) kvs k = some v) : ixA (obD (.dtn (kvs.map (ekv ek ev)))) (ek k) = some (.sh (ev v)) := by
  have hk := KeyE.okt (ek := ek) k
  unfold ixA obD
  simp only
  rw [if_neg (fun z => by rw [isKey_okT hk] at z; cases z.1), if_pos ⟨hk, rfl⟩, List.tail_cons, getN_e, h]
  rfl
theorem getNo_e [KeyE ek] {k : κ} {v : ν} (h : dgetO (EqE.eq ek) kvs k = some v) : getOb (.dtn (kvs.map (ekv ek ev))) (ek k) = some (ev v) := by
  show (if okT (ek k) = true then getN (kvs.map (ekv ek ev)) (ek k) else none) = _
  rw [if_pos (KeyE.okt (ek := ek) k), getN_e, h]
  rfl
theorem getA_n [KeyE ek] (k : κ) (d : ν) : getA (.dtn (kvs.map (ekv ek ev))) (ek k) (ev d) = some (ev ((dgetO (EqE.eq ek) kvs k).getD d)) := by
  unfold getA
  simp only
  rw [if_pos (KeyE.okt (ek := ek) k), getN_e]
  cases dgetO (EqE.eq ek) kvs k <;> rfl
theorem getA_i [KeyI ek] (k : κ) (d : ν) : getA (.dct (kvs.map (ekv ek ev))) (ek k) (ev d) = some (ev ((dgetO (EqE.eq ek) kvs k).getD d)) := by
  unfold getA
  simp only
  rw [if_pos (KeyI.okt (ek := ek) k), getD_e]
  cases dgetO (EqE.eq ek) kvs k <;> rfl
theorem dgetA_ {x : Rv} {kd d0 d : Dv} {ob : Ob} (ho : fo ρ = some (x, ρ)) (h1 : obAt ρ x = some ob) (h2 : isDt ob = true) (hk : pkM fk ρ = some (r, ρ)) (h3 : dat ρ r = some kd) (hf : frM fd ρ = some (.sh d0, ρ)) (h4 : getA ob kd d0 = some d) : eDGetA fo fk fd ρ = some (.sh d, ρ) := by
  unfold eDGetA
  rw [ho]
  simp only [Option.bind_some]
  rw [h1]
  simp only [Option.bind_some]
  rw [if_pos h2, hk]
  simp only [Option.bind_some]
  rw [h3]
  simp only [Option.bind_some]
  rw [hf]
  simp only [Option.bind_some, h1, h4]
/-! ### {k: v} -/
theorem disp1_ [KeyE ek] {k : κ} {v : ν} (h1 : fk ρ = some (.sh (ek k), ρ1)) (h2 : frM fv ρ1 = some (.sh (ev v), ρ2)) : eDisp1 fk fv ρ = some (.ow (.dtn (([(k, v)] : List (κ × ν)).map (ekv ek ev))), ρ2) := by
  unfold eDisp1
  rw [pk_s h1]
  simp only [Option.bind_some]
  rw [if_pos (KeyE.okt (ek := ek) k), h2]
  rfl
/-! ### sorted of dicts and sets -/
theorem sortN_e [OrdE ek] {ys : List κ} (h : sortO ek (kvs.map Prod.fst) = some ys) (hd : EqE.dep ek ≤ 64 := by decide) : sortA [obD (.dtn (kvs.map (ekv ek ev)))] = some (.ow (.lst (ys.map ek))) := by
  unfold sortO at h
  split at h
  · rename_i hc
    cases h
    have e1 : (kvs.map (ekv ek ev)).map Prod.fst = (kvs.map Prod.fst).map ek := by simp [ekv, Function.comp_def]
    unfold sortA obD
    simp only
    rw [if_neg (by simp [plD]), List.tail_cons, e1, if_pos (okSo_e _ hd hc.1 hc.2), sortD_e]
  · cases h
theorem sortAL_e {α : Type} {e : α → Dv} [OrdE e] {xs ys : List α} (h : sortO e xs = some ys) (hd : EqE.dep e ≤ 64 := by decide) : sortA [.list (xs.map e)] = some (.ow (.lst (ys.map e))) := sort_e h hd
/-- sorted(set(xs)): xs, how many at most -/
def ssetO {α : Type} (e : α → Dv) [OrdE e] (b : Nat) (xs : List α) : Option (List α) := if xs.length < b ∧ xs.all (OrdE.ok e) = true then some (isort (OrdE.lt e) (nubE e xs)) else none
theorem asI_map : ∀ ns : List Int, asI (ns.map eI) = some ns
  | [] => rfl
  | n :: ns => by
    rw [List.map_cons]
    show (asI (ns.map eI)).map _ = _
    rw [asI_map ns]
    rfl
theorem asT_map : ∀ ts : List (List Int), asT (ts.map (eT eI)) = some ts
  | [] => rfl
  | t :: ts => by
    rw [List.map_cons]
    show (asI (t.map eI)).bind _ = _
    rw [asI_map]
    show (asT (ts.map (eT eI))).map _ = _
    rw [asT_map ts]
    rfl
theorem sset_ {d : Dv} {zs : List Dv} (h : frM f ρ = some (.sh d, ρ1)) (h2 : ssD d = some (.ow (.lst zs))) : eSset f ρ = some (.ow (.lst zs), ρ1) := by
  unfold eSset
  rw [h]
  simp only [Option.bind_some]
  rw [h2]
  rfl
theorem ssI_e {xs ys : List Int} (h : ssetO eI 1000 xs = some ys) : ssD (eT eI xs) = some (.ow (.lst (ys.map eI))) := by
  unfold ssetO at h
  split at h
  · rename_i hc
    cases h
    show (asI (xs.map eI)).bind _ = _
    rw [asI_map]
    exact if_pos (Nat.le_of_lt hc.1)
  · cases h
theorem ssL_e {xs ys : List Int} (h : ssetO eI 1000 xs = some ys) : ssD (eL eI xs) = some (.ow (.lst (ys.map eI))) := by
  unfold ssetO at h
  split at h
  · rename_i hc
    cases h
    show (if (asI (xs.map eI)).isSome = true then ssI (xs.map eI) else ssT (xs.map eI)) = _
    unfold ssI
    rw [asI_map]
    exact if_pos (Nat.le_of_lt hc.1)
  · cases h
/-- a list of rows is no list of ints, but the empty one -/
theorem ssD_rows {ds : List Dv} {ts : List (List Int)} {z : Rz} (e : ds = ts.map (eT eI)) (h : ssT ds = some z) : ssD (.list ds) = some z := by
  subst e
  cases ts with
  | nil => exact h
  | cons t ts => exact h
theorem ssT_e {xs ys : List (List Int)} (h : ssetO (eT eI) 64 xs = some ys) : ssD (eL (eT eI) xs) = some (.ow (.lst (ys.map (eT eI)))) := by
  unfold ssetO at h
  split at h
  · rename_i hc
    cases h
    refine ssD_rows rfl ?_
    show (asT (xs.map (eT eI))).bind _ = _
    rw [asT_map]
    exact if_pos hc
  · cases h
/-- pairs of ints as rows of ints -/
def prow (p : Int × Int) : List Int := [p.1, p.2]
theorem prow_inj {p q : Int × Int} (h : prow p = prow q) : p = q := by
  obtain ⟨a, b⟩ := p
  obtain ⟨c, d⟩ := q
  simp only [prow, List.cons.injEq, and_true] at h
  rw [h.1, h.2]
theorem ltE_prow (p q : Int × Int) : OrdE.lt (eT eI) (prow p) (prow q) = OrdE.lt (e2 eI eI) p q := by
  rw [← OrdE.ltEq, ← OrdE.ltEq]
  rfl
theorem eqE_prow (p q : Int × Int) : eqE (eT eI) (prow p) (prow q) = eqE (e2 eI eI) p q := by
  refine Bool.eq_iff_iff.mpr ?_
  rw [eqE_iff, eqE_iff]
  exact ⟨prow_inj, fun h => by rw [h]⟩
theorem nub_prow : ∀ xs : List (Int × Int), nubE (eT eI) (xs.map prow) = (nubE (e2 eI eI) xs).map prow
  | [] => rfl
  | x :: xs => by
    rw [List.map_cons, nubE, nubE, List.map_cons, nub_prow xs, List.filter_map]
    congr 2
    exact List.filter_congr fun y _ => by
      show (!eqE (eT eI) (prow y) (prow x)) = _
      rw [eqE_prow]
theorem ins_prow (x : Int × Int) : ∀ ys : List (Int × Int), insE (OrdE.lt (eT eI)) (prow x) (ys.map prow) = (insE (OrdE.lt (e2 eI eI)) x ys).map prow
  | [] => rfl
  | y :: ys => by
    rw [List.map_cons]
    unfold insE
    rw [ltE_prow, ins_prow x ys]
    split <;> rfl
theorem isort_prow : ∀ xs : List (Int × Int), isort (OrdE.lt (eT eI)) (xs.map prow) = (isort (OrdE.lt (e2 eI eI)) xs).map prow
  | [] => rfl
  | x :: xs => by
    rw [List.map_cons]
    unfold isort
    rw [isort_prow xs, ins_prow]
theorem ssP_e {xs ys : List (Int × Int)} (h : ssetO (e2 eI eI) 64 xs = some ys) : ssD (eL (e2 eI eI) xs) = some (.ow (.lst (ys.map (e2 eI eI)))) := by
  unfold ssetO at h
  split at h
  · rename_i hc
    cases h
    have e1 : ∀ l : List (Int × Int), l.map (e2 eI eI) = (l.map prow).map (eT eI) := fun l => by rw [List.map_map]; rfl
    refine ssD_rows (e1 xs) ?_
    show ssT (xs.map (e2 eI eI)) = _
    unfold ssT
    rw [e1, asT_map]
    refine (if_pos ⟨by rw [List.length_map]; exact hc.1, ?_⟩).trans ?_
    · rw [nub_prow, isort_prow, ← e1]
    · rw [List.all_map]
      exact List.all_eq_true.mpr fun _ _ => rfl
  · cases h
end
end DL

set_option Elab.async false
set_option linter.all false
set_option autoImplicit false
set_option maxRecDepth 100000
set_option maxHeartbeats 1000000
namespace DL
open PySem PySem.Spec PyProof.Rows L2
/-! ### the module's numbers; list(range(..)), tuple(range(..)) -/
section
variable {X : Cx} {ix : List Nat} {a b : Expr} {f g : M} {p p2 q pos : Pos}
theorem de_gint {x : Str} {i : Int} (hg : Gl X x) (hm : ∃ t, X.mg x = some (.int i t)) (hd : (x == ("__debug__" : Str)) = false := by decide) : PE X (.Name x pos) (TE' X.K ix (eC (.int i))) := by
  obtain ⟨t, e⟩ := hm
  exact de_c (pe_glob (v := .int i) hg e ⟨t, rfl⟩ hd) fun _ => .int i
theorem de_gstr {x y : Str} (hg : Gl X x) (hm : ∃ t, X.mg x = some (.str y t)) (hd : (x == ("__debug__" : Str)) = false := by decide) : PE X (.Name x pos) (TE' X.K ix (eC (.str y))) := by
  obtain ⟨t, e⟩ := hm
  exact de_c (pe_glob (v := .str y) hg e ⟨t, rfl⟩ hd) fun _ => .str y
def rgZ (tup : Bool) (i j : Int) : Option Rz := if bnd62 i = true ∧ bnd62 j = true ∧ (j - i).toNat ≤ 16777216 then some (if tup = true then .sh (.tuple (rangeD i (j - i).toNat)) else .ow (.lst (rangeD i (j - i).toNat))) else none
def eRg1 (tup : Bool) (f : M) : M := fun ρ => (f ρ).bind fun x => match x.1 with
  | .sh (.int n) => (rgZ tup 0 n).bind fun r => some (r.rv, x.2)
  | _ => none
def eRg2 (tup : Bool) (f g : M) : M := fun ρ => (f ρ).bind fun x => match x.1 with
  | .sh (.int i) => (g x.2).bind fun y => (match y.1 with
    | .sh (.int j) => (rgZ tup i j).bind fun r => some (r.rv, y.2)
    | _ => none)
  | _ => none
theorem rgZ_ok {tup : Bool} {i j : Int} {z : Rz} {H G : Hp} {Q : VK} {K : PySem.W.Frag} (h : rgZ tup i j = some z) (gh : ∀ a o, G a = some o → H a = some o) (q : Res K G H Q z) :
    RgOk i j ∧ ∀ a, H a = none → Q (.ref a) (upd H a (if tup = true then .tup (rgV i j) else .lst (rgV i j))) := by
  unfold rgZ at h
  split at h
  rotate_left
  · cases h
  rename_i hc
  obtain ⟨b1, b2, b3⟩ := hc
  have b1 := of_decide_eq_true b1
  have b2 := of_decide_eq_true b2
  have dp : DpAll K G (rgV i j) (rangeD i (j - i).toNat) := by
    have := dpAll_ints (K := K) (G := G) ((List.range (j - i).toNat).map fun k => i + (k : Nat))
    rw [List.map_map, List.map_map] at this
    exact this
  refine ⟨⟨b1.1, b1.2, b2.1, b2.2, b3⟩, fun a ha => ?_⟩
  have ga : G a = none := by
    cases e : G a with
    | none => rfl
    | some o => exact absurd ((gh a o e).symm.trans ha) (by simp)
  cases tup with
  | true =>
    cases h
    exact res_tup q ga ha dp
  | false =>
    cases h
    exact res_lst q ha dp
theorem sh_int {K : PySem.W.Frag} {Fr G H : Hp} {ρ : Rho} {σ : L2.St} {n : Int} {v : V} (h : VOk K Fr G H ρ σ (.sh (.int n)) v) : v = .int n := by
  cases (show Dp K G v (.int n) from h)
  rfl
theorem rg1_open {tup : Bool} {σ : L2.St} {H : Hp} {Q : VK} (h : TE' X.K ix (eRg1 tup f) σ H Q) : tRg1 (TE' X.K ix f) σ H fun i j H1 => RgOk i j ∧ ∀ a, H1 a = none → Q (.ref a) (upd H1 a (if tup = true then .tup (rgV i j) else .lst (rgV i j))) := by
  obtain ⟨Fr, FX, G, ρ, r, ρ', R, hf, k⟩ := h
  unfold eRg1 at hf
  obtain ⟨⟨r0, ρ0⟩, h0, hf⟩ := Option.bind_eq_some_iff.mp hf
  split at hf
  · rename_i n e
    cases (show r0 = .sh (.int n) from e)
    obtain ⟨z, hz, hf⟩ := Option.bind_eq_some_iff.mp hf
    cases hf
    refine ⟨Fr, FX, G, ρ, _, ρ0, R, h0, fun v G1 H1 s1 R1 v1 => ⟨n, sh_int v1, ?_⟩⟩
    exact rgZ_ok hz R1.gh (res_ok R1 fun w G2 H2 s2 R2 v2 => k w G2 H2 (s1.trans s2) R2 v2)
  · cases hf
theorem rg2_open {tup : Bool} {σ : L2.St} {H : Hp} {Q : VK} (h : TE' X.K ix (eRg2 tup f g) σ H Q) : tRg2 (TE' X.K ix f) (TE' X.K ix g) σ H fun i j H1 => RgOk i j ∧ ∀ a, H1 a = none → Q (.ref a) (upd H1 a (if tup = true then .tup (rgV i j) else .lst (rgV i j))) := by
  obtain ⟨Fr, FX, G, ρ, r, ρ', R, hf, k⟩ := h
  unfold eRg2 at hf
  obtain ⟨⟨r0, ρ0⟩, h0, hf⟩ := Option.bind_eq_some_iff.mp hf
  split at hf
  · rename_i i e
    cases (show r0 = .sh (.int i) from e)
    obtain ⟨⟨r1, ρ1⟩, h1, hf⟩ := Option.bind_eq_some_iff.mp hf
    split at hf
    · rename_i j e'
      cases (show r1 = .sh (.int j) from e')
      obtain ⟨z, hz, hf⟩ := Option.bind_eq_some_iff.mp hf
      cases hf
      refine ⟨Fr, FX, G, ρ, _, ρ0, R, h0, fun v G1 H1 s1 R1 v1 => ⟨Fr, FX, G1, ρ0, _, ρ1, R1, h1, fun u G2 H2 s2 R2 v2 => ⟨i, j, sh_int v1, sh_int v2, ?_⟩⟩⟩
      exact rgZ_ok hz R2.gh (res_ok R2 fun w G3 H3 s3 R3 v3 => k w G3 H3 ((s1.trans s2).trans s3) R3 v3)
    · cases hf
  · cases hf
theorem de_tup_rg1 (hc : X.calm = true) (hg : Gl X "tuple") (hm : X.mg "tuple" = none) (hg2 : Gl X "range") (hm2 : X.mg "range" = none) (ha : PE X a (TE' X.K ix f)) (na : starEach [a] X.env = (false, eval a X.env) :: starEach [] X.env := by rfl)
    (nb : starEach [Expr.Call (.Name "range" p2) [a] [] q] X.env = (false, eval (.Call (.Name "range" p2) [a] [] q) X.env) :: starEach [] X.env := by rfl) : PE X (.Call (.Name "tuple" p) [.Call (.Name "range" p2) [a] [] q] [] pos) (TE' X.K ix (eRg1 true f)) :=
  pe_imp (pe_tupRg hc hg hm (prg_1 hg2 hm2 ha na) nb) fun σ H Q h => rg1_open h
theorem de_lst_rg1 (hc : X.calm = true) (hg : Gl X "list") (hm : X.mg "list" = none) (hg2 : Gl X "range") (hm2 : X.mg "range" = none) (ha : PE X a (TE' X.K ix f)) (na : starEach [a] X.env = (false, eval a X.env) :: starEach [] X.env := by rfl)
    (nb : starEach [Expr.Call (.Name "range" p2) [a] [] q] X.env = (false, eval (.Call (.Name "range" p2) [a] [] q) X.env) :: starEach [] X.env := by rfl) : PE X (.Call (.Name "list" p) [.Call (.Name "range" p2) [a] [] q] [] pos) (TE' X.K ix (eRg1 false f)) :=
  pe_imp (pe_listRg hc hg hm (prg_1 hg2 hm2 ha na) nb) fun σ H Q h => rg1_open h
theorem de_tup_rg2 (hc : X.calm = true) (hg : Gl X "tuple") (hm : X.mg "tuple" = none) (hg2 : Gl X "range") (hm2 : X.mg "range" = none) (ha : PE X a (TE' X.K ix f)) (hb : PE X b (TE' X.K ix g)) (na : starEach [a, b] X.env = (false, eval a X.env) :: starEach [b] X.env := by rfl)
    (nb : starEach [b] X.env = (false, eval b X.env) :: starEach [] X.env := by rfl) (hp : (backTo q (starEach [b] X.env)).any (·.1) = false := by rfl)
    (nc : starEach [Expr.Call (.Name "range" p2) [a, b] [] q] X.env = (false, eval (.Call (.Name "range" p2) [a, b] [] q) X.env) :: starEach [] X.env := by rfl) : PE X (.Call (.Name "tuple" p) [.Call (.Name "range" p2) [a, b] [] q] [] pos) (TE' X.K ix (eRg2 true f g)) :=
  pe_imp (pe_tupRg hc hg hm (prg_2 hg2 hm2 ha hb na nb hp) nc) fun σ H Q h => rg2_open h
theorem de_lst_rg2 (hc : X.calm = true) (hg : Gl X "list") (hm : X.mg "list" = none) (hg2 : Gl X "range") (hm2 : X.mg "range" = none) (ha : PE X a (TE' X.K ix f)) (hb : PE X b (TE' X.K ix g)) (na : starEach [a, b] X.env = (false, eval a X.env) :: starEach [b] X.env := by rfl)
    (nb : starEach [b] X.env = (false, eval b X.env) :: starEach [] X.env := by rfl) (hp : (backTo q (starEach [b] X.env)).any (·.1) = false := by rfl)
    (nc : starEach [Expr.Call (.Name "range" p2) [a, b] [] q] X.env = (false, eval (.Call (.Name "range" p2) [a, b] [] q) X.env) :: starEach [] X.env := by rfl) : PE X (.Call (.Name "list" p) [.Call (.Name "range" p2) [a, b] [] q] [] pos) (TE' X.K ix (eRg2 false f g)) :=
  pe_imp (pe_listRg hc hg hm (prg_2 hg2 hm2 ha hb na nb hp) nc) fun σ H Q h => rg2_open h
end
end DL

set_option Elab.async false
set_option linter.all false
set_option autoImplicit false
set_option maxRecDepth 100000
set_option maxHeartbeats 2000000
namespace DL
open PySem PySem.Spec PyProof.Rows L2
/-! ### itertools.combinations: what the table says -/
theorem cmb_mro : mroOf (.type "itertools.combinations") = pure [.type "itertools.combinations", .type "object"] := (mroOf_type ..).trans (by kernel_rfl)
theorem cmb_sub : isSubtype (.type "itertools.combinations") (.type "itertools.combinations") = pure true := (isSubtype_type ..).trans (by kernel_rfl)
theorem cmb_new : typeLookup (.type "itertools.combinations") "__new__" = pure (some (.builtin "itertools.combinations.__new__")) := by rw [typeLookup_type, builtinLookup_eq_fast]; kernel_rfl
theorem cmb_init : Slot "itertools.combinations" "__init__" "object.__init__" :=
  .of (owner := "object") (n := "__init__") (by rw [typeLookup_type, builtinLookup_eq_fast]; kernel_rfl) (by decide +kernel) (by decide +kernel) (by decide +kernel) (by first | exact .inl (by decide +kernel) | exact .inr (by decide +kernel)) (by rw [isSubtype_type]; kernel_rfl)
theorem cmb_iter : Slot "itertools.combinations" "__iter__" "itertools.combinations.__iter__" :=
  .of (owner := "itertools.combinations") (n := "__iter__") (by rw [typeLookup_type, builtinLookup_eq_fast]; kernel_rfl) (by decide +kernel) (by decide +kernel) (by decide +kernel) (by first | exact .inl (by decide +kernel) | exact .inr (by decide +kernel)) cmb_sub
theorem cmb_next : Slot "itertools.combinations" "__next__" "itertools.combinations.__next__" :=
  .of (owner := "itertools.combinations") (n := "__next__") (by rw [typeLookup_type, builtinLookup_eq_fast]; kernel_rfl) (by decide +kernel) (by decide +kernel) (by decide +kernel) (by first | exact .inl (by decide +kernel) | exact .inr (by decide +kernel)) cmb_sub
theorem cmb_called : TypeCalled "itertools.combinations" "itertools.combinations.__new__" "object.__init__" where
  notType := by decide +kernel
  canCreate := by decide +kernel
  mro := ⟨_, _, cmb_mro⟩
  made := madeBy_type cmb_mro cmb_new (by decide +kernel)
  plain := by decide +kernel
  sub := cmb_sub
  init := cmb_init
theorem cmb_typeCall (a b : Value) : checkTypeCall "itertools.combinations" ⟨[a, b], []⟩ = pure () := by kernel_rfl
theorem cmb_newCall (a b : Value) : checkBuiltinCall "itertools.combinations.__new__" ⟨[.type "itertools.combinations", a, b], []⟩ = pure () := by kernel_rfl
theorem cmb_eNew : entryFor table "itertools.combinations.__new__" = some Builtin.«itertools.combinations.__new__» := entryFor_of_tree (by kernel_rfl)
theorem cmb_eNext : entryFor table "itertools.combinations.__next__" = some Builtin.«itertools.combinations.__next__» := entryFor_of_tree (by kernel_rfl)
theorem cmb_eIter : entryFor table "itertools.combinations.__iter__" = some Builtin.«dict_keyiterator.__iter__» :=
  entryFor_alias (id' := "dict_keyiterator.__iter__") (by kernel_rfl) (by first | rfl | decide +kernel | (unfold String.splitOn; simp +decide [String.splitOnAux])) (by decide +kernel) (by kernel_rfl)
theorem cmb_plain : plainId "itertools.combinations.__new__" = true := by decide +kernel
theorem cmb_aNext (a : Value) : argsOk "itertools.combinations.__next__" ⟨[a], []⟩ := by unfold argsOk; kernel_rfl
theorem cmb_aIter (a : Value) : argsOk "itertools.combinations.__iter__" ⟨[a], []⟩ := by unfold argsOk; kernel_rfl
theorem cmb_noDict : typeHasDict (.type "itertools.combinations") = false := by decide +kernel
end DL

set_option Elab.async false
set_option linter.all false
set_option autoImplicit false
set_option maxRecDepth 100000
set_option maxHeartbeats 2000000
namespace DL
open PySem PySem.Spec PyProof.Rows L2
/-! ### itertools.combinations: its record, and what it does -/
def cmbF (pool : Addr) (st : Int) (prev : Value) (ks : List Nat) : Array Value := ⟨Value.ref pool :: rawInt st :: prev :: ks.map fun (k : Nat) => rawInt k⟩
def cmbO (pool : Addr) (st : Int) (prev : Value) (ks : List Nat) : Obj := { cls := .type "itertools.combinations", dict := none, data := .fields (cmbF pool st prev ks), slots := #[] }
def tupO (items : List Value) : Obj := { cls := .type "tuple", data := .seq items.toArray }
/-- the record at a -/
def IsCmb (h : Heap) (a pool : Addr) (st : Int) (prev : Value) (ks : List Nat) : Prop := h.get? a = some { cls := .type "itertools.combinations", dict := none, data := .fields (cmbF pool st prev ks), slots := #[] }
section
variable {P : Program} {w : World} {A : Around} {E : Value → Shared → Prop} {s : Shared}
theorem cmb_self {a pool : Addr} {st : Int} {prev : Value} {ks : List Nat} {Q : Value → Shared → Prop} (h : IsCmb s.heap a pool st prev ks) (q : Q (.ref a) s) : wpAny (model P w) A (pyIter (.ref a)) Q E s := by
  have t : s.TypeIs (.ref a) "itertools.combinations" := ⟨_, h, rfl⟩
  refine wpAny_pyIter_slot t cmb_iter (wpAny_call_entry cmb_iter t cmb_eIter ?_ (cmb_aIter _))
  show wpAny _ _ (ret (.ref a)) _ _ s
  exact wpAny_pure ⟨_, rfl, "itertools.combinations", _, t, cmb_next.lookup, q⟩
/-- v can be gathered: its items -/
def Gathers (P : Program) (w : World) (A : Around) (s : Shared) (v : Value) (ok : List Value → Prop) : Prop := ∀ {Q : List Value → Shared → Prop} {E : Value → Shared → Prop},
  (∀ (h' : Heap) (tk : Nat) (items : List Value), ok items → (∀ b o, s.heap.get? b = some o → h'.get? b = some o) → Q items { s with heap := h', toks := tk }) → wpAny (model P w) A (collect v) Q E s
theorem cmb_named (x y : Value) : Builtin.Itertools.itBindNamed "combinations" ["iterable", "r"] 2 2 [x, y] [] = pure [some x, some y] := by kernel_rfl
theorem cmb_name : "itertools." ++ "combinations" = "itertools.combinations" := by decide
theorem cmb_size {r : Nat} {t : Tok} {Q : Int → Shared → Prop} (hr : r ≤ 1000) (q : Q r s) : wpAny (model P w) A (Builtin.Itertools.itSsizeArg (.int (r : Int) t)) Q E s := by
  unfold Builtin.Itertools.itSsizeArg
  have h : ¬ ((decide ((r : Int) < -(2 ^ 63)) || decide ((r : Int) ≥ 2 ^ 63)) = true) := by
    rw [Bool.or_eq_true, decide_eq_true_iff, decide_eq_true_iff]
    omega
  refine wpAny_bind ?_
  wp_walk
  rw [if_neg h]
  exact wpAny_pure q
theorem cmb_code {x : Value} {ok : List Value → Prop} {r : Nat} {t : Tok} {Q : Value → Shared → Prop} (g : Gathers P w A.in1 s x ok) (hr : r ≤ 1000) (hz : ∀ items, ok items → items.length ≤ sizeLine)
    (q : ∀ (h' : Heap) (tk : Nat) (items : List Value), ok items → (∀ b o, s.heap.get? b = some o → h'.get? b = some o) → Q (.ref (h'.push (tupO items)).objs.size) { s with heap := (h'.push (tupO items)).push (cmbO h'.objs.size (if r > items.length then 2 else 0) .none (List.range r)), toks := tk }) :
    codeAny (model P w) A (.call (.builtin "itertools.combinations.__new__") ⟨[.type "itertools.combinations", x, .int r t], []⟩) (wants Q E) s := by
  refine codeAny_call_builtin cmb_plain cmb_eNew (wpAny_of_eq (cmb_newCall _ _) ?_)
  unfold Builtin.«itertools.combinations.__new__»
  have sub := cmb_sub
  have nd := cmb_noDict
  refine wpAny_bind ?_
  show wpAny _ _ (Builtin.Itertools.itClassAndRest _ _ >>= _) _ _ s
  unfold Builtin.Itertools.itClassAndRest
  wp_walk
  rw [cmb_name]
  refine wpAny_of_eq sub (wpAny_pure ?_)
  show wpAny _ _ (Builtin.Itertools.itBindNamed "combinations" ["iterable", "r"] 2 2 [x, .int (r : Int) t] [] >>= _) _ _ s
  refine wpAny_bind (wpAny_of_eq (cmb_named _ _) ?_)
  refine wpAny_bind (cmb_size hr ?_)
  refine wpAny_bind (g fun h' tk items oi k => ?_)
  have neg : ¬ ((r : Int) < 0) := by omega
  rw [if_neg neg]
  have few : Builtin.Itertools.itTooMany (r : Int) = false := by
    unfold Builtin.Itertools.itTooMany
    exact decide_eq_false (by omega)
  rw [few]
  show wpAny _ _ (newTuple items >>= _) _ _ _
  refine wpAny_bind (wpAny_newTuple ?_ (hz items oi))
  refine wpAny_pure ?_
  show wpAny _ _ (Builtin.Itertools.itNewRecord (.type "itertools.combinations") (cmbF h'.objs.size (if r > items.length then 2 else 0) .none (List.range r)).toList >>= _) _ _ _
  unfold Builtin.Itertools.itNewRecord
  rw [nd]
  refine wpAny_bind ?_
  show wpAny _ _ (newObj (.type "itertools.combinations") (.fields (cmbF h'.objs.size (if r > items.length then 2 else 0) .none (List.range r)))) _ _ _
  refine wpAny_newObj_type (wpAny_pure (q h' tk items oi k)) ?_
  show (cmbF h'.objs.size (if r > items.length then 2 else 0) .none (List.range r)).size ≤ _
  unfold cmbF
  simp [sizeLine]
  omega
end
end DL

set_option Elab.async false
set_option linter.all false
set_option autoImplicit false
set_option maxRecDepth 100000
set_option maxHeartbeats 2000000
namespace DL
open PySem PySem.Spec PyProof.Rows L2
section
variable {P : Program} {w : World} {A : Around} {E : Value → Shared → Prop} {s : Shared}
theorem cmb_call {x : Value} {ok : List Value → Prop} {r : Nat} {t : Tok} {Q : Value → Shared → Prop} (g : Gathers P w A.in1.in1 s x ok) (hr : r ≤ 1000) (hz : ∀ items, ok items → items.length ≤ sizeLine)
    (q : ∀ (h' : Heap) (tk : Nat) (items : List Value), ok items → (∀ b o, s.heap.get? b = some o → h'.get? b = some o) → Q (.ref (h'.push (tupO items)).objs.size) { s with heap := (h'.push (tupO items)).push (cmbO h'.objs.size (if r > items.length then 2 else 0) .none (List.range r)), toks := tk }) :
    wpAny (model P w) A (call (.type "itertools.combinations") [x, .int r t]) Q E s := by
  refine callType_codes (Q₁ := fun obj s₁ => s₁.TypeIs obj "itertools.combinations" ∧ Q obj s₁) cmb_called (cmb_typeCall _ _) F.entry_object_init (cmb_code g hr hz fun h' tk items oi k => ⟨⟨_, Heap.get?_push_size _ rfl, rfl⟩, q h' tk items oi k⟩) fun obj s₁ h => ?_
  exact ⟨h.1, F.args_object_init_3 obj _ _, object_init_meets cmb_called.init.lookup cmb_called.made (by decide) P w A.in1 _ s₁ ⟨h.1, rfl, h.2⟩⟩
/-- what the next turn does to the indices -/
def nxC (n : Nat) (ks : List Nat) : Option (List Nat) := match (List.range ks.length).reverse.find? fun i => ks.getD i 0 != i + n - ks.length with
  | none => none
  | some i => some (ks.take i ++ (List.range (ks.length - i)).map (ks.getD i 0 + 1 + ·))
theorem cmb_ks (pool : Addr) (st : Int) (prev : Value) (ks : List Nat) : (((cmbF pool st prev ks).toList.drop 3).map fun | .int n _ => n.toNat | _ => 0) = ks := by
  show ((ks.map fun (k : Nat) => rawInt k).map _) = ks
  rw [List.map_map]
  refine (List.map_congr_left fun k _ => ?_).trans (List.map_id ks)
  rfl
theorem cmbF_prev (pool : Addr) (st : Int) (prev v : Value) (ks : List Nat) : (cmbF pool st prev ks).setIfInBounds 2 v = cmbF pool st v ks := by
  refine Array.ext' ?_
  rw [Array.toList_setIfInBounds]
  rfl
theorem cmbF_st (pool : Addr) (st st' : Int) (prev : Value) (ks : List Nat) : (cmbF pool st prev ks).setIfInBounds 1 (rawInt st') = cmbF pool st' prev ks := by
  refine Array.ext' ?_
  rw [Array.toList_setIfInBounds]
  rfl
theorem cmbF_ks (pool : Addr) (st : Int) (prev : Value) (ks ks' : List Nat) : (cmbF pool st prev ks).extract 0 3 ++ (ks'.map fun (n : Nat) => rawInt n).toArray = cmbF pool st prev ks' := by
  refine Array.ext' ?_
  rw [Array.toList_append, Array.toList_extract]
  rfl
theorem cmb_upd {h : Heap} {a pool : Addr} {st : Int} {prev : Value} {ks : List Nat} {f : Array Value → Array Value} {st' : Int} {prev' : Value} {ks' : List Nat} (x : IsCmb h a pool st prev ks) (e : f (cmbF pool st prev ks) = cmbF pool st' prev' ks') : IsCmb (h.update a (Obj.mapFields f)) a pool st' prev' ks' := by
  have := Heap.get?_update_self (Obj.mapFields f) x rfl
  refine this.trans ?_
  show some ({ cls := .type "itertools.combinations", dict := none, data := Data.fields (f (cmbF pool st prev ks)), slots := #[] } : Obj) = _
  rw [e]
/-- one combination is handed out -/
theorem cmb_hand {a pool : Addr} {st : Int} {prev : Value} {ks is : List Nat} {items : List Value} {Q : PySem.Fin → Shared → Prop} (h : IsCmb s.heap a pool st prev ks) (hp : s.heap.get? pool = some (tupO items)) (hz : is.length ≤ 1000)
    (q : ∀ h' : Heap, IsCmb h' a pool st (.ref s.heap.objs.size) ks → h'.get? s.heap.objs.size = some (tupO (is.map fun i => items.toArray.getD i .none)) → (∀ b o, b ≠ a → s.heap.get? b = some o → h'.get? b = some o) → Q (.done (.ret (.ref s.heap.objs.size))) { s with heap := h' }) :
    wpAny (model P w) A (do
      let result ← (do let items ← Builtin.Itertools.itPoolItems (.ref pool); newTuple (is.map fun i => items.getD i .none))
      let before ← field (.ref a) 2
      setField (.ref a) 2 result
      letGo [before] [result]
      ret result) Q E s := by
  have la : a ≠ s.heap.objs.size := Nat.ne_of_lt (Heap.lt_size h)
  refine wpAny_bind (wpAny_bind ?_)
  unfold Builtin.Itertools.itPoolItems
  refine wpAny_bind (wpAny_seqItems hp rfl ?_)
  refine wpAny_pure (wpAny_newTuple ?_ (by rw [List.length_map]; exact Nat.le_trans hz (by decide)))
  have h1 : IsCmb (s.heap.push (tupO (is.map fun i => items.toArray.getD i .none))) a pool st prev ks := Heap.get?_push_of_some _ h
  refine wpAny_bind (wpAny_field h1 rfl (x := prev) rfl ?_)
  refine wpAny_bind (wpAny_setField h1 rfl (by unfold cmbF; simp) ?_)
  refine wpAny_bind (wpAny_letGo ?_)
  refine wpAny_pure (q _ (cmb_upd h1 (cmbF_prev ..)) ?_ fun b o hb e => ?_)
  · exact (Heap.get?_update_other _ _ la).trans (Heap.get?_push_size _ rfl)
  · exact (Heap.get?_update_other _ _ (Ne.symm hb)).trans (Heap.get?_push_of_some _ e)
/-- a turn's beginning: the pool, the indices, how far it has come -/
theorem cmb_turn {a pool : Addr} {st : Int} {prev : Value} {ks : List Nat} {Q : Option Value → Shared → Prop} (h : IsCmb s.heap a pool st prev ks)
    (k : wpAny (model P w) A.in1 (match st with
      | 0 => do setField (.ref a) 1 (rawInt 1); (do
          let result ← (do let items ← Builtin.Itertools.itPoolItems (.ref pool); newTuple (ks.map fun i => items.getD i .none))
          let before ← field (.ref a) 2
          setField (.ref a) 2 result
          letGo [before] [result]
          ret result)
      | 1 => do
        let n ← Builtin.Itertools.itPoolItems (.ref pool)
        match nxC n.size ks with
        | some next => do
          Builtin.Itertools.itSetNumbersFrom (.ref a) 3 next
          (do
          let result ← (do let items ← Builtin.Itertools.itPoolItems (.ref pool); newTuple (next.map fun i => items.getD i .none))
          let before ← field (.ref a) 2
          setField (.ref a) 2 result
          letGo [before] [result]
          ret result)
        | none => do setField (.ref a) 1 (rawInt 2); Builtin.Itertools.itStop
      | _ => do rule "itertools.combinations.ended"; Builtin.Itertools.itStop)
      (fun fin s' => ∃ v, fin = .done (.ret v) ∧ Q (some v) s')
      (fun e s' => wpAny (model P w) A (do if ← isInstance e (.type "StopIteration") then pure none else throw e) Q E s') s) :
    wpAny (model P w) A (pyNext (.ref a)) Q E s := by
  have t : s.TypeIs (.ref a) "itertools.combinations" := ⟨_, h, rfl⟩
  unfold pyNext
  refine wpAny_bind (wpAny_attempt (wpAny_callSpecial?_slot (name := Str.ofString "__next__") t cmb_next (wpAny_call_entry cmb_next t cmb_eNext ?_ (cmb_aNext _))))
  unfold Builtin.«itertools.combinations.__next__»
  show wpAny _ _ (field (.ref a) 0 >>= _) _ _ s
  refine wpAny_bind (wpAny_field h rfl (x := .ref pool) rfl ?_)
  refine wpAny_bind ?_
  unfold Builtin.Itertools.itNumbersFrom
  refine wpAny_bind (wpAny_load h ?_)
  refine wpAny_of_eq (a := ks) (congrArg pure (cmb_ks pool st prev ks)) ?_
  show wpAny _ _ (Builtin.Itertools.itIntField (.ref a) 1 >>= _) _ _ s
  unfold Builtin.Itertools.itIntField
  refine wpAny_bind (wpAny_bind (wpAny_field h rfl (x := .int st 0) rfl (wpAny_pure ?_)))
  refine wpAny_mono k (fun fin s' z => ?_) fun e s' z => z
  obtain ⟨v, e, z⟩ := z
  exact ⟨v, e, wpAny_pure z⟩
theorem cmb_stop {a : Addr} {pool : Addr} {st : Int} {prev : Value} {ks : List Nat} {Q : Option Value → Shared → Prop} (hh : A.handled = none) (q : ∀ h', (∀ b o, s.heap.get? b = some o → h'.get? b = some o) → Q none { s with heap := h' }) :
    wpAny (model P w) A.in1 (Builtin.Itertools.itStop : Sem PySem.Fin) (fun fin s' => ∃ v, fin = .done (.ret v) ∧ Q (some v) s')
      (fun e s' => wpAny (model P w) A (do if ← isInstance e (.type "StopIteration") then pure none else throw e) Q E s') s := by
  refine DVw.raise_stop (by simp [hh]) fun h' e oe k he hc => ?_
  exact wpAny_bind (wpAny_isInstance (T := "StopIteration") (b := true) ⟨_, he, hc⟩ isSubtype_stop (wpAny_pure (q h' k)))
theorem cmb_item0 {a pool : Addr} {prev : Value} {ks : List Nat} {items : List Value} {Q : Option Value → Shared → Prop} (h : IsCmb s.heap a pool 0 prev ks) (hp : s.heap.get? pool = some (tupO items)) (ne : pool ≠ a) (hz : ks.length ≤ 1000)
    (q : ∀ h' : Heap, IsCmb h' a pool 1 (.ref s.heap.objs.size) ks → h'.get? s.heap.objs.size = some (tupO (ks.map fun i => items.toArray.getD i .none)) → (∀ b o, b ≠ a → s.heap.get? b = some o → h'.get? b = some o) → Q (some (.ref s.heap.objs.size)) { s with heap := h' }) :
    wpAny (model P w) A (pyNext (.ref a)) Q E s := by
  refine cmb_turn h ?_
  refine wpAny_bind (wpAny_setField h rfl (by unfold cmbF; simp) ?_)
  have sz : (s.heap.update a (Obj.mapFields (·.setIfInBounds 1 (rawInt 1)))).objs.size = s.heap.objs.size := Heap.size_update ..
  refine cmb_hand (cmb_upd h (cmbF_st ..)) ((Heap.get?_update_other _ _ (Ne.symm ne)).trans hp) hz fun h' h1 h2 k => ⟨_, rfl, ?_⟩
  rw [sz] at h1 h2 ⊢
  exact q h' h1 h2 fun b o hb e => k b o hb ((Heap.get?_update_other _ _ (Ne.symm hb)).trans e)
theorem cmb_item1 {a pool : Addr} {prev : Value} {ks ks' : List Nat} {items : List Value} {Q : Option Value → Shared → Prop} (h : IsCmb s.heap a pool 1 prev ks) (hp : s.heap.get? pool = some (tupO items)) (ne : pool ≠ a) (hn : nxC items.length ks = some ks') (hz : ks'.length ≤ 1000)
    (q : ∀ h' : Heap, IsCmb h' a pool 1 (.ref s.heap.objs.size) ks' → h'.get? s.heap.objs.size = some (tupO (ks'.map fun i => items.toArray.getD i .none)) → (∀ b o, b ≠ a → s.heap.get? b = some o → h'.get? b = some o) → Q (some (.ref s.heap.objs.size)) { s with heap := h' }) :
    wpAny (model P w) A (pyNext (.ref a)) Q E s := by
  refine cmb_turn h ?_
  refine wpAny_bind ?_
  unfold Builtin.Itertools.itPoolItems
  refine wpAny_bind (wpAny_seqItems hp rfl (wpAny_pure ?_))
  rw [List.size_toArray, hn]
  refine wpAny_bind ?_
  unfold Builtin.Itertools.itSetNumbersFrom
  refine wpAny_updateFields h rfl ?_ (by rw [cmbF_ks]; unfold cmbF; simp [sizeLine]; omega)
  have sz : ∀ f : Obj → Obj, (s.heap.update a f).objs.size = s.heap.objs.size := fun f => Heap.size_update ..
  refine cmb_hand (cmb_upd h (cmbF_ks ..)) ((Heap.get?_update_other _ _ (Ne.symm ne)).trans hp) hz fun h' h1 h2 k => ⟨_, rfl, ?_⟩
  rw [sz] at h1 h2 ⊢
  exact q h' h1 h2 fun b o hb e => k b o hb ((Heap.get?_update_other _ _ (Ne.symm hb)).trans e)
theorem cmb_end1 {a pool : Addr} {prev : Value} {ks : List Nat} {items : List Value} {Q : Option Value → Shared → Prop} (hh : A.handled = none) (h : IsCmb s.heap a pool 1 prev ks) (hp : s.heap.get? pool = some (tupO items)) (hn : nxC items.length ks = none)
    (q : ∀ h' : Heap, (∀ b o, b ≠ a → s.heap.get? b = some o → h'.get? b = some o) → Q none { s with heap := h' }) : wpAny (model P w) A (pyNext (.ref a)) Q E s := by
  refine cmb_turn h ?_
  refine wpAny_bind ?_
  unfold Builtin.Itertools.itPoolItems
  refine wpAny_bind (wpAny_seqItems hp rfl (wpAny_pure ?_))
  rw [List.size_toArray, hn]
  refine wpAny_bind (wpAny_setField h rfl (by unfold cmbF; simp) ?_)
  exact cmb_stop (a := a) (pool := pool) (st := 1) (prev := prev) (ks := ks) hh fun h' k => q h' fun b o hb e => k b o ((Heap.get?_update_other _ _ (Ne.symm hb)).trans e)
theorem cmb_end2 {a pool : Addr} {prev : Value} {ks : List Nat} {Q : Option Value → Shared → Prop} (hh : A.handled = none) (h : IsCmb s.heap a pool 2 prev ks) (q : ∀ h' : Heap, (∀ b o, b ≠ a → s.heap.get? b = some o → h'.get? b = some o) → Q none { s with heap := h' }) : wpAny (model P w) A (pyNext (.ref a)) Q E s := by
  refine cmb_turn h ?_
  refine wpAny_bind (wpAny_rule ?_)
  exact cmb_stop (a := a) (pool := pool) (st := 2) (prev := prev) (ks := ks) hh fun h' k => q h' fun b o _ e => k b o e
end
end DL

set_option Elab.async false
set_option linter.all false
set_option autoImplicit false
set_option maxRecDepth 100000
set_option maxHeartbeats 2000000
namespace DL
open PySem PySem.Spec PyProof.Rows L2
/-! ### combinations walked -/
/-- the combinations from ks on, as indices -/
def cmbRun (n : Nat) : Nat → List Nat → Option (List (List Nat))
  | 0, _ => none
  | k + 1, ks => if ks.length ≤ 1000 ∧ (ks.all fun j => decide (j < n)) = true then (match nxC n ks with
    | none => some [ks]
    | some ks' => (cmbRun n k ks').map (ks :: ·)) else none
def combs (n r : Nat) : Option (List (List Nat)) := if r > n then some [] else cmbRun n 5000 (List.range r)
def Chn (n : Nat) (C : List (List Nat)) : Prop := ∀ i c, C[i]? = some c → c.length ≤ 1000 ∧ (∀ j ∈ c, j < n) ∧ nxC n c = C[i + 1]?
theorem run_chn {n : Nat} : ∀ {k : Nat} {ks : List Nat} {C : List (List Nat)}, cmbRun n k ks = some C → C[0]? = some ks ∧ Chn n C
  | 0, _, _, h => by cases h
  | k + 1, ks, C, h => by
    unfold cmbRun at h
    split at h
    rotate_left
    · cases h
    rename_i hc
    have small : ks.length ≤ 1000 ∧ ∀ j ∈ ks, j < n := ⟨hc.1, fun j hj => of_decide_eq_true (List.all_eq_true.mp hc.2 j hj)⟩
    cases e : nxC n ks with
    | none =>
      rw [e] at h
      cases h
      refine ⟨rfl, fun i c hi => ?_⟩
      cases i with
      | zero =>
        cases hi
        exact ⟨small.1, small.2, e⟩
      | succ i => cases hi
    | some ks' =>
      rw [e] at h
      obtain ⟨D, hD, rfl⟩ := Option.map_eq_some_iff.mp h
      obtain ⟨h0, hc'⟩ := run_chn hD
      refine ⟨rfl, fun i c hi => ?_⟩
      cases i with
      | zero =>
        cases hi
        exact ⟨small.1, small.2, e.trans h0.symm⟩
      | succ i => exact hc' i c hi
/-- the tuples of a row by their indices -/
def Itcb (xs : List V) (C : List (List Nat)) : It := ⟨fun i _ => i < C.length, fun i H x H' => ∃ p c, C[i]? = some c ∧ H p = none ∧ x = .ref p ∧ H' = upd H p (.tup (c.map fun j => xs.getD j .non)), fun i _ => C.length ≤ i⟩
def CmbTn (it pool : Addr) (items : List Value) (C : List (List Nat)) (i : Nat) (h : Heap) : Prop :=
  h.get? pool = some (tupO items) ∧ i ≤ C.length ∧ (∃ st prev ks, IsCmb h it pool st prev ks) ∧ (C = [] → ∃ prev ks, IsCmb h it pool 2 prev ks) ∧ (∀ c, i = 0 → C[0]? = some c → ∃ prev, IsCmb h it pool 0 prev c) ∧ ∀ j c, i = j + 1 → C[j]? = some c → ∃ prev, IsCmb h it pool 1 prev c
theorem vals_pick {xs : List V} {items : List Value} (r : Vals xs items) : ∀ {c : List Nat}, (∀ j ∈ c, j < items.length) → Vals (c.map fun j => xs.getD j .non) (c.map fun j => items.toArray.getD j .none)
  | [], _ => .nil
  | j :: c, h => by
    have hj := h j List.mem_cons_self
    have hx : j < xs.length := by rw [r.length]; exact hj
    obtain ⟨u, eu, ru⟩ := r.get (List.getElem?_eq_getElem hx)
    refine .cons ?_ (vals_pick r fun k hk => h k (List.mem_cons_of_mem _ hk))
    show RelV (xs.getD j .non) (items.toArray.getD j .none)
    rw [List.getD_eq_getElem?_getD, List.getElem?_eq_getElem hx]
    have : items.toArray.getD j Value.none = u := by
      rw [Array.getD_eq_getD_getElem?, List.getElem?_toArray, eu]
      rfl
    rw [this]
    exact ru
section
variable {X : Cx} {tg : Expr}
theorem turn_cmb {P : Program} {w : World} {K : PySem.W.Frag} {xs : List V} {items : List Value} {C : List (List Nat)} (it pool : Addr) (ne : pool ≠ it) (r : Vals xs items) (ch : Chn items.length C) : Turn P w K tg (Itcb xs C) [it, pool] it (CmbTn it pool items C) := by
  constructor
  case mem => exact List.mem_cons_self
  case obj =>
    rintro i h ⟨hp, hle, ⟨st, prev, ks, hi⟩, _⟩ b hb
    rcases List.mem_cons.mp hb with rfl | hb
    · exact ⟨_, hi, fun v z => by cases z⟩
    · rw [List.mem_singleton.mp hb]
      exact ⟨_, hp, fun v z => by cases z⟩
  case keep =>
    rintro i h h' ⟨hp, hle, ⟨st, prev, ks, hi⟩, h2, h3, h4⟩ k
    have ki : ∀ {st prev ks}, IsCmb h it pool st prev ks → IsCmb h' it pool st prev ks := fun z => k it List.mem_cons_self _ z
    refine ⟨k pool (by simp) _ hp, hle, ⟨st, prev, ks, ki hi⟩, fun e => ?_, fun c e1 e2 => ?_, fun j c e1 e2 => ?_⟩
    · obtain ⟨p, q, z⟩ := h2 e
      exact ⟨p, q, ki z⟩
    · obtain ⟨p, z⟩ := h3 c e1 e2
      exact ⟨p, ki z⟩
    · obtain ⟨p, z⟩ := h4 j c e1 e2
      exact ⟨p, ki z⟩
  case self =>
    rintro A i s Q E ⟨hp, hle, ⟨st, prev, ks, hi⟩, _⟩ h
    exact cmb_self hi h
  case item =>
    rintro X rfl rfl rfl hc i pins s σ H E I hf ⟨hp, hle, hany, h2, h3, h4⟩ hgo
    have hi : i < C.length := hgo
    have ec : C[i]? = some C[i] := List.getElem?_eq_getElem hi
    obtain ⟨c1, c2, c3⟩ := ch i C[i] ec
    have fin : ∀ h' : Heap, IsCmb h' it pool 1 (.ref s.heap.objs.size) C[i] → h'.get? s.heap.objs.size = some (tupO (C[i].map fun i => items.toArray.getD i .none)) → (∀ b o, b ≠ it → s.heap.get? b = some o → h'.get? b = some o) →
        ∃ u, some (Value.ref s.heap.objs.size) = some u ∧ wpAny (model X.prog X.w) X.A (letOwnedTupleGo tg (.ref it) u) (fun _ s2 => ∃ x H', Inv X pins σ H' s2 ∧ RelV x u ∧ (Itcb xs C).yld i H x H' ∧ CmbTn it pool items C (i + 1) s2.heap ∧ ∀ b ∈ [it, pool], H' b = none) E { s with heap := h' } := by
      intro h' k1 k2 k3
      have hv := vals_pick r c2
      have new : ObjOk X.prog X.w (upd H s.heap.objs.size (.tup (C[i].map fun j => xs.getD j .non))) h' s.heap.objs.size (.tup (C[i].map fun j => xs.getD j .non)) :=
        ⟨by rw [List.length_map]; exact Nat.le_trans c1 (by decide), _, hv, ⟨_, k2, rfl, _, rfl⟩⟩
      have J := I.turnedNew (t' := s.toks) (ch := [it]) (T := s.heap.objs.size) (fun b o hb e => k3 b o (fun z => hb (List.mem_singleton.mpr z)) e) (fun b hb => hf b (by rw [List.mem_singleton.mp hb]; exact List.mem_cons_self)) (Nat.le_refl _) new
      refine ⟨_, rfl, go_of (s := { s with heap := h' }) k1 rfl rfl (by decide) ⟨.ref s.heap.objs.size, _, J, rfl, ⟨_, _, ec, I.hok.fresh (Nat.le_refl _), rfl, rfl⟩, ⟨k3 pool _ ne hp, hi, ⟨_, _, _, k1⟩, fun e => ?_, fun c e1 _ => ?_, fun j c e1 e2 => ?_⟩, fun b hb => ?_⟩⟩
      · rw [e] at hi
        exact absurd hi (Nat.not_lt_zero _)
      · exact absurd e1 (Nat.succ_ne_zero _)
      · cases e1
        rw [ec] at e2
        cases e2
        exact ⟨_, k1⟩
      · have hb0 := (hf b hb).1
        obtain ⟨o, ho⟩ : ∃ o, s.heap.get? b = some o := by
          rcases List.mem_cons.mp hb with rfl | hb
          · obtain ⟨st, prev, ks, hi⟩ := hany
            exact ⟨_, hi⟩
          · rw [List.mem_singleton.mp hb]
            exact ⟨_, hp⟩
        rw [upd_ne (Nat.ne_of_lt (Heap.lt_size ho))]
        exact hb0
    cases i with
    | zero =>
      obtain ⟨prev, h0⟩ := h3 _ rfl ec
      exact cmb_item0 h0 hp ne c1 fin
    | succ j =>
      have ej : C[j]? = some C[j] := List.getElem?_eq_getElem (by omega)
      obtain ⟨prev, h1⟩ := h4 j _ rfl ej
      exact cmb_item1 h1 hp ne ((ch j _ ej).2.2.trans ec) c1 fin
  case done =>
    rintro X rfl rfl rfl hc i pins s σ H E I hf ⟨hp, hle, hany, h2, h3, h4⟩ hstop
    have hi : C.length ≤ i := hstop
    have fin : ∀ h' : Heap, (∀ b o, b ≠ it → s.heap.get? b = some o → h'.get? b = some o) → (none : Option Value) = none ∧ Inv X pins σ H { s with heap := h' } := fun h' k =>
      ⟨rfl, I.turnedL (t' := s.toks) (ch := [it]) (fun b o hb e => k b o (fun z => hb (List.mem_singleton.mpr z)) e) fun b hb => hf b (by rw [List.mem_singleton.mp hb]; exact List.mem_cons_self)⟩
    cases C with
    | nil =>
      obtain ⟨prev, ks, z⟩ := h2 rfl
      exact cmb_end2 (I.ok.hd hc) z fin
    | cons c0 C =>
      have e : i = C.length + 1 := Nat.le_antisymm hle hi
      have ej : (c0 :: C)[C.length]? = some (c0 :: C)[C.length] := List.getElem?_eq_getElem (by simp)
      obtain ⟨prev, h1⟩ := h4 _ _ e ej
      refine cmb_end1 (I.ok.hd hc) h1 hp ((ch _ _ ej).2.2.trans ?_) fin
      exact List.getElem?_eq_none (by simp)
theorem combs_chn {n r : Nat} {C : List (List Nat)} (h : combs n r = some C) : Chn n C ∧ ((r > n ∧ C = []) ∨ (¬ r > n ∧ C[0]? = some (List.range r))) := by
  unfold combs at h
  split at h
  · rename_i hr
    cases h
    exact ⟨fun i c z => (by cases z), .inl ⟨hr, rfl⟩⟩
  · rename_i hr
    obtain ⟨h0, hc⟩ := run_chn h
    exact ⟨hc, .inr ⟨hr, h0⟩⟩
/-- combinations(x, r) begun -/
theorem cmb_begin {pins : List (Addr × Obj)} {σ : L2.St} {H : Hp} {s : Shared} {R : It → Hp → Prop} {x : Value} {xs : List V} {r : Nat} {t : Tok} {C : List (List Nat)} (I : Inv X pins σ H s) (g : Gathers X.prog X.w X.A.in1.in1 s x (Vals xs))
    (hz : xs.length ≤ sizeLine) (hr : r ≤ 1000) (hC : combs xs.length r = some C) (q : R (Itcb xs C) H) :
    wpAny (model X.prog X.w) X.A (call (.type "itertools.combinations") [x, .int r t]) (fun v s1 => wpAny (model X.prog X.w) X.A (pyIter v) (PIE X pins σ tg R) X.xe s1) X.xe s := by
  refine cmb_call g hr (fun items rv => by rw [← rv.length]; exact hz) fun h' tk items rv k => ?_
  rw [rv.length] at hC
  obtain ⟨hch, hb⟩ := combs_chn hC
  generalize hst : (if r > items.length then (2 : Int) else 0) = st
  have J : Inv X pins σ H { s with heap := h', toks := tk } := I.kept k
  have lt : h'.objs.size < (h'.push (tupO items)).objs.size := by
    rw [Heap.size_push]
    exact Nat.lt_succ_self _
  have e1 : ((h'.push (tupO items)).push (cmbO h'.objs.size st .none (List.range r))).get? (h'.push (tupO items)).objs.size = some (cmbO h'.objs.size st .none (List.range r)) := Heap.get?_push_size _ rfl
  have e2 : ((h'.push (tupO items)).push (cmbO h'.objs.size st .none (List.range r))).get? h'.objs.size = some (tupO items) := Heap.get?_push_of_some _ (Heap.get?_push_size _ rfl)
  refine cmb_self (s := { s with heap := (h'.push (tupO items)).push (cmbO h'.objs.size st .none (List.range r)), toks := tk }) e1 ?_
  have fresh : ∀ b, h'.objs.size ≤ b → FpOk X pins H b := fun b hb => J.fpOk hb (J.hok.fresh hb)
  refine ⟨_, [(h'.push (tupO items)).objs.size, h'.objs.size], CmbTn (h'.push (tupO items)).objs.size h'.objs.size items C, Itcb xs C, H, rfl, ?_, turn_cmb _ _ (Nat.ne_of_lt lt) rv hch, ?_, fun b hb => ?_, q⟩
  · exact I.kept fun b o e => Heap.get?_push_of_some _ (Heap.get?_push_of_some _ (k b o e))
  · refine ⟨e2, Nat.zero_le _, ⟨_, _, _, e1⟩, fun e => ?_, fun c _ e => ?_, fun j c e _ => absurd e (by omega)⟩
    · rcases hb with ⟨h1, _⟩ | ⟨_, h2⟩
      · obtain rfl : st = 2 := hst.symm.trans (if_pos h1)
        exact ⟨_, _, e1⟩
      · rw [e] at h2
        cases h2
    · rcases hb with ⟨_, h2⟩ | ⟨h1, h2⟩
      · rw [h2] at e
        cases e
      · obtain rfl : st = 0 := hst.symm.trans (if_neg h1)
        rw [h2] at e
        cases e
        exact ⟨_, e1⟩
  · rcases List.mem_cons.mp hb with rfl | hb
    · exact fresh _ (Nat.le_of_lt lt)
    · rw [List.mem_singleton.mp hb]
      exact fresh _ (Nat.le_refl _)
def iCmbT (K : PySem.W.Frag) (ta : TA) : TI := fun σ H R => ta σ H fun vs H1 => ∃ l k xs C, vs = [.ref l, .int k] ∧ (SqT K H1 l xs ∨ SqL K H1 l xs) ∧ 0 ≤ k ∧ k ≤ 1000 ∧ combs xs.length k.toNat = some C ∧ R (Itcb xs C) H1
variable {a b : Expr} {p p2 pos q2 : Pos}
theorem pi_cmb {ta : TA} (hg : Gl X "combinations") (hm : X.mg "combinations" = some (.type "itertools.combinations")) (ha : PA X [a, b] ta) (hs : starEach [a, b] X.env = (false, eval a X.env) :: starEach [b] X.env := by rfl) (hpl : (backTo pos (starEach [b] X.env)).any (·.1) = false := by rfl) :
    PI X tg (.Call (.Name "combinations" p) [a, b] [] pos) (iCmbT X.K ta) := by
  refine ⟨fun pins s σ H R I h => ?_⟩
  refine Call_ (ld_glob I hg hm (PyProof.Rows.callWith_type1 (thn (ha.run pos pins s σ H _ I h) fun us s1 ⟨vs, H1, I1, r1, l, k, xs, C, e, sq, k0, k1, hC, q⟩ => ?_) hs hpl))
  subst e
  obtain ⟨n, rfl⟩ : ∃ n : Nat, k = n := ⟨k.toNat, by omega⟩
  cases r1 with
  | cons ra rr =>
    cases rr with
    | cons rb rr =>
      cases rr
      obtain rfl := ra
      obtain ⟨t, rfl⟩ := rb
      rw [Int.toNat_natCast] at hC
      rcases sq with sq | sq
      · obtain ⟨its, rv, ⟨o, ho, hc, m, hd⟩, hz⟩ := I1.tuple sq
        have hl := rv.length
        refine cmb_begin I1 (fun kk => wpAny_collect_seq l (.inr rfl) ho hc hd (fun h' z => ?_) (by rw [List.size_toArray, ← hl]; exact hz)) hz (by omega) hC q
        exact kk h' s1.toks its rv z
      · obtain ⟨its, rv, pl, hz⟩ := I1.list sq
        obtain ⟨o, ho, hc, m, hd⟩ := pl.isList
        have hl := rv.length
        refine cmb_begin I1 (fun kk => wpAny_collect_seq l (.inl rfl) ho hc hd (fun h' z => ?_) (by rw [List.size_toArray, ← hl]; exact hz)) hz (by omega) hC q
        exact kk h' s1.toks its rv z
end
end DL

set_option Elab.async false
set_option linter.all false
set_option autoImplicit false
set_option maxRecDepth 100000
set_option maxHeartbeats 2000000
namespace DL
open PySem PySem.Spec PyProof.Rows L2
/-! ### for c in combinations(xs, r), combinations(range(n), r) -/
def picks (ds : List Dv) (C : List (List Nat)) : List Dv := C.map fun c => .tuple (c.map fun j => ds.getD j .none)
def cmbR : List Dv → Option (List Dv)
  | [d, .int k] => (itemsOf d).bind fun ds => if 0 ≤ k ∧ k ≤ 1000 then (combs ds.length k.toNat).map (picks ds) else none
  | _ => none
theorem dp_pick {K : PySem.W.Frag} {G : Hp} {vs : List V} {ds : List Dv} (h : DpAll K G vs ds) : ∀ {c : List Nat}, (∀ j ∈ c, j < ds.length) → DpAll K G (c.map fun j => vs.getD j .non) (c.map fun j => ds.getD j .none)
  | [], _ => .nil
  | j :: c, hc => by
    have hj := hc j List.mem_cons_self
    obtain ⟨v, e, d⟩ := dpAll_get h (List.getElem?_eq_getElem hj)
    refine .cons ?_ (dp_pick h fun k hk => hc k (List.mem_cons_of_mem _ hk))
    show Dp K G (vs.getD j .non) (ds.getD j .none)
    rw [List.getD_eq_getElem?_getD, e, List.getD_eq_getElem?_getD, List.getElem?_eq_getElem hj]
    exact d
theorem jok_cmb {K : PySem.W.Frag} {G : Hp} {vs : List V} {ds : List Dv} {C : List (List Nat)} (h : DpAll K G vs ds) (ch : Chn ds.length C) : Jok K G (Itcb vs C) (picks ds C) := fun i G1 H1 s gh => by
  refine ⟨fun d hd => ?_, fun hl => show C.length ≤ i by simpa [picks] using hl⟩
  unfold picks at hd
  rw [List.getElem?_map] at hd
  obtain ⟨c, hc, rfl⟩ := Option.map_eq_some_iff.mp hd
  refine ⟨(List.getElem?_eq_some_iff.mp hc).1, fun x H2 ⟨p, c', ec, hp, ex, e2⟩ => .inr ⟨p, _, hp, e2, ?_⟩⟩
  rw [hc] at ec
  cases ec
  subst ex
  have gp := g_none gh hp
  have up : Sub G1 (upd G1 p (.tup (c.map fun j => vs.getD j .non))) := fun b o e => by
    rw [upd_ne (fun z => by rw [z, gp] at e; cases e)]
    exact e
  exact .tup (SqT.of upd_same) (dpAll_mono (s.trans up) _ _ (dp_pick h (ch i c hc).2.1))
section
variable {X : Cx} {tg : Expr} {ix : List Nat} {a b : Expr} {ga : MA} {f g : M} {p p2 pos q2 : Pos}
theorem di_cmb (hg : Gl X "combinations") (hm : X.mg "combinations" = some (.type "itertools.combinations")) (ha : PA X [a, b] (TA' X.K ix ga)) (hs : starEach [a, b] X.env = (false, eval a X.env) :: starEach [b] X.env := by rfl) (hpl : (backTo pos (starEach [b] X.env)).any (·.1) = false := by rfl) :
    PI X tg (.Call (.Name "combinations" p) [a, b] [] pos) (TI' X.K ix (iRng cmbR ga)) :=
  pi_imp (pi_cmb hg hm ha hs hpl) fun σ H R h => rng_open h fun G1 H1 vs ds es gh vd hr k => by
    unfold cmbR at hr
    split at hr
    rotate_left
    · cases hr
    rename_i d n
    obtain ⟨its, hi, hr⟩ := Option.bind_eq_some_iff.mp hr
    split at hr
    rotate_left
    · cases hr
    rename_i hk
    obtain ⟨C, hC, rfl⟩ := Option.map_eq_some_iff.mp hr
    obtain ⟨v, u, rfl, hv, hu⟩ := vds2 vd
    rw [vd_int hu]
    cases d with
    | list ds =>
      cases hi
      obtain ⟨l, vs, rfl, h1, h2⟩ := vd_list hv
      have e := dpAll_length h2
      exact ⟨l, n, vs, C, rfl, .inr h1, hk.1, hk.2, by rw [e]; exact hC, k _ (jok_cmb h2 (combs_chn hC).1)⟩
    | tuple ds =>
      cases hi
      obtain ⟨l, vs, rfl, _, h1, h2⟩ := vd_tup gh hv
      have e := dpAll_length h2
      exact ⟨l, n, vs, C, rfl, .inl h1, hk.1, hk.2, by rw [e]; exact hC, k _ (jok_cmb h2 (combs_chn hC).1)⟩
    | none => cases hi
    | bool b => cases hi
    | int b => cases hi
    | str b => cases hi
    | dict b => cases hi
/-! range(n) as the row -/
def iCmbQ (ta tb : TE) : TI := fun σ H R => ta σ H fun x H1 => ∃ i, x = .int i ∧ RgOk 0 i ∧ tb σ H1 fun y H2 => ∃ k C, y = .int k ∧ 0 ≤ k ∧ k ≤ 1000 ∧ combs i.toNat k.toNat = some C ∧ R (Itcb (rgV 0 i) C) H2
theorem pi_cmbQ {ta tb : TE} (hc : X.calm = true) (hg : Gl X "combinations") (hm : X.mg "combinations" = some (.type "itertools.combinations")) (hg2 : Gl X "range") (hm2 : X.mg "range" = none) (ha : PE X a ta) (hb : PE X b tb) (na : starEach [a] X.env = (false, eval a X.env) :: starEach [] X.env := by rfl)
    (hs : starEach [Expr.Call (.Name "range" p2) [a] [] q2, b] X.env = (false, eval (.Call (.Name "range" p2) [a] [] q2) X.env) :: starEach [b] X.env := by rfl) (nb : starEach [b] X.env = (false, eval b X.env) :: starEach [] X.env := by rfl) (hpl : (backTo pos (starEach [b] X.env)).any (·.1) = false := by rfl) :
    PI X tg (.Call (.Name "combinations" p) [.Call (.Name "range" p2) [a] [] q2, b] [] pos) (iCmbQ ta tb) := by
  refine ⟨fun pins s σ H R I h => ?_⟩
  refine Call_ (ld_glob I hg hm (PyProof.Rows.callWith_type1 (args_cons (Call_ (ld_blt I hg2 hm2 boot_range (PyProof.Rows.callWith_type1 (one_arg ha I h (fun v s2 x H2 I2 r q => ?_) na) na))) hs) hs hpl))
  obtain ⟨i, rfl, ok, q⟩ := q
  obtain ⟨t, rfl⟩ := r
  refine call_range_1 ?_
  have I3 := ClX.pin_new (h' := s2.heap.push { cls := .type "range", data := .fields #[.int 0 s2.toks, .int i t, .int 1 (s2.toks + 1)] }) (t' := s2.toks + 1 + 1) I2 (fun b u e => Heap.get?_push_of_some _ e) (Nat.le_refl _) (Heap.get?_push_size _ rfl) (fun v z => by cases z)
  refine one_arg hb I3 q (fun v s4 y H4 I4 r q => ?_) nb
  obtain ⟨k, C, rfl, k0, k1, hC, q⟩ := q
  obtain ⟨t', rfl⟩ := r
  obtain ⟨n, rfl⟩ : ∃ n : Nat, k = n := ⟨k.toNat, by omega⟩
  rw [Int.toNat_natCast] at hC
  obtain ⟨b1, b2, b3, b4, b5⟩ := ok
  have hlen : (rgV 0 i).length = i.toNat := by rw [rgV_length]; simp
  have at4 := ClX.pin_at I4
  refine cmb_begin (ClX.unpin I4) (fun kk => collect_range (n := (i - 0).toNat) (by have := I4.ok.hd hc; simp [this]) at4 (small_one b1 b2 b3 b4) (rangeSize_nat 0 i) b5 fun h' tk acc z hi => kk h' tk acc.toList (vals_rg hi) z) (by rw [hlen, sizeLine_eq]; omega) (by omega) (by rw [hlen]; exact hC) q
def iCmbG (f g : M) : ML := fun ρ => (f ρ).bind fun x => match x.1 with
  | .sh (.int i) => (g x.2).bind fun y => (match y.1 with
    | .sh (.int k) => if bnd62 i = true ∧ i.toNat ≤ 1000 ∧ 0 ≤ k ∧ k ≤ 1000 then (combs i.toNat k.toNat).map fun C => (picks (rangeD 0 i.toNat) C, y.2) else none
    | _ => none)
  | _ => none
theorem di_cmbR (hc : X.calm = true) (hg : Gl X "combinations") (hm : X.mg "combinations" = some (.type "itertools.combinations")) (hg2 : Gl X "range") (hm2 : X.mg "range" = none) (ha : PE X a (TE' X.K ix f)) (hb : PE X b (TE' X.K ix g)) (na : starEach [a] X.env = (false, eval a X.env) :: starEach [] X.env := by rfl)
    (hs : starEach [Expr.Call (.Name "range" p2) [a] [] q2, b] X.env = (false, eval (.Call (.Name "range" p2) [a] [] q2) X.env) :: starEach [b] X.env := by rfl) (nb : starEach [b] X.env = (false, eval b X.env) :: starEach [] X.env := by rfl) (hpl : (backTo pos (starEach [b] X.env)).any (·.1) = false := by rfl) :
    PI X tg (.Call (.Name "combinations" p) [.Call (.Name "range" p2) [a] [] q2, b] [] pos) (TI' X.K ix (iCmbG f g)) :=
  pi_imp (pi_cmbQ hc hg hm hg2 hm2 ha hb na hs nb hpl) fun σ H R ⟨Fr, FX, G, ρ, ds, ρ', R0, hf, k⟩ => by
    unfold iCmbG at hf
    obtain ⟨⟨r0, ρ0⟩, h0, hf⟩ := Option.bind_eq_some_iff.mp hf
    split at hf
    rotate_left
    · cases hf
    rename_i i e
    cases (show r0 = .sh (.int i) from e)
    obtain ⟨⟨r1, ρ1⟩, h1, hf⟩ := Option.bind_eq_some_iff.mp hf
    split at hf
    rotate_left
    · cases hf
    rename_i n e'
    cases (show r1 = .sh (.int n) from e')
    split at hf
    rotate_left
    · cases hf
    rename_i hk
    obtain ⟨C, hC, e2⟩ := Option.map_eq_some_iff.mp hf
    cases e2
    have bi := of_decide_eq_true hk.1
    refine ⟨Fr, FX, G, ρ, _, ρ0, R0, h0, fun v G1 H1 s1 R1 v1 => ⟨i, sh_int v1, ⟨by decide, by decide, bi.1, bi.2, by omega⟩, Fr, FX, G1, ρ0, _, ρ1, R1, h1, fun u G2 H2 s2 R2 v2 => ⟨n, C, sh_int v2, hk.2.2.1, hk.2.2.2, hC, ?_⟩⟩⟩
    have dp : DpAll X.K G2 (rgV 0 i) (rangeD 0 i.toNat) := by
      have := dpAll_ints (K := X.K) (G := G2) ((List.range (i - 0).toNat).map fun k => 0 + (k : Nat))
      rw [List.map_map, List.map_map] at this
      have e3 : (i - 0).toNat = i.toNat := by simp
      rw [e3] at this
      unfold rgV rangeD
      rw [e3]
      exact this
    have ln : (rangeD 0 i.toNat).length = i.toNat := by simp [rangeD]
    exact k _ G2 H2 (s1.trans s2) R2 (jok_cmb dp (by rw [ln]; exact (combs_chn hC).1))
end
end DL

set_option Elab.async false
set_option linter.all false
set_option autoImplicit false
set_option maxRecDepth 100000
set_option maxHeartbeats 1000000
namespace DL
open PySem PySem.Spec PyProof.Rows L2
section
variable {f g h : M} {ρ ρ1 ρ2 ρ3 : Rho} {op op' : Dv → Dv → Option Rz} {a b c : Dv} {p q : Bool}
/-- a chain of two comparisons of shared data; the last is looked at only if the first holds -/
theorem chain_s (ha : f ρ = some (.sh a, ρ)) (hb : g ρ = some (.sh b, ρ)) (hc : h ρ = some (.sh c, ρ)) (h1 : op a b = some (.sh (eB p))) (h2 : op' b c = some (.sh (eB q))) : eChain op op' f g h ρ = some (.sh (eB (p && q)), ρ) := by
  unfold eChain
  rw [pk_s ha]
  simp only [Option.bind_some]
  rw [pk_s hb]
  simp only [Option.bind_some]
  show (op a b).bind _ = _
  rw [h1]
  cases p with
  | false => rfl
  | true =>
    show (pkM h ρ).bind _ = _
    rw [pk_s hc]
    show (op' b c).bind _ = _
    rw [h2]
    rfl
end
/-! ### sorted, one item of any kind too -/
def srtO {α : Type} (e : α → Dv) [OrdE e] (xs : List α) : Option (List α) := if (xs.all (OrdE.ok e) = true ∨ xs.length = 1) ∧ xs.length ≤ sizeLine then some (isort (OrdE.lt e) xs) else none
theorem srt_e {α : Type} {e : α → Dv} [OrdE e] {xs ys : List α} (h : srtO e xs = some ys) (hd : EqE.dep e ≤ 64 := by decide) : sortG [.list (xs.map e)] = some (.ow (.lst (ys.map e))) := by
  unfold srtO at h
  split at h
  rotate_left
  · cases h
  rename_i hc
  cases h
  rcases hc.1 with h1 | h1
  · exact sort_e (if_pos ⟨h1, hc.2⟩) hd
  · match xs, h1 with
    | [x], _ =>
      have one : okOne [e x] = true := by
        unfold okOne
        simp only [Bool.and_eq_true, Bool.not_eq_true', decide_eq_true_eq]
        refine ⟨⟨?_, OrdE.alike x x⟩, Nat.le_trans (EqE.hd x) hd⟩
        have := OrdE.notNone (e := e) x
        cases hx : e x with
        | none => exact absurd hx this
        | _ => rfl
      show (if okSo [e x] = true then some (Rz.ow (.lst (sortD [e x]))) else if okOne [e x] = true then some (.ow (.lst [e x])) else none) = some (.ow (.lst [e x]))
      rw [if_pos one, show sortD [e x] = [e x] from List.mergeSort_singleton ..]
      split <;> rfl
/-! ### list(range(..)), tuple(range(..)), combinations: typed -/
def rgO (i j : Int) : Option (List Int) := if bnd62 i = true ∧ bnd62 j = true ∧ (j - i).toNat ≤ 16777216 then some (rangeI i (j - i).toNat) else none
section
variable {f g : M} {ρ ρ1 ρ2 : Rho} {i j : Int} {xs : List Int}
theorem rgZ_t {tup : Bool} (h : rgO i j = some xs) : rgZ tup i j = some (if tup = true then .sh (.tuple (xs.map eI)) else .ow (.lst (xs.map eI))) := by
  unfold rgO at h
  split at h
  · rename_i hc
    cases h
    unfold rgZ
    rw [if_pos hc, rangeI_e]
  · cases h
theorem tupRg1_ (hf : f ρ = some (.sh (eI j), ρ1)) (h : rgO 0 j = some xs) : eRg1 true f ρ = some (.sh (eT eI xs), ρ1) := by
  unfold eRg1
  rw [hf]
  show ((rgZ true 0 j).bind _) = _
  rw [rgZ_t h]
  rfl
theorem lstRg1_ (hf : f ρ = some (.sh (eI j), ρ1)) (h : rgO 0 j = some xs) : eRg1 false f ρ = some (.ow (.lst (xs.map eI)), ρ1) := by
  unfold eRg1
  rw [hf]
  show ((rgZ false 0 j).bind _) = _
  rw [rgZ_t h]
  rfl
theorem tupRg2_ (hf : f ρ = some (.sh (eI i), ρ1)) (hg : g ρ1 = some (.sh (eI j), ρ2)) (h : rgO i j = some xs) : eRg2 true f g ρ = some (.sh (eT eI xs), ρ2) := by
  unfold eRg2
  rw [hf]
  show ((g ρ1).bind _) = _
  rw [hg]
  show ((rgZ true i j).bind _) = _
  rw [rgZ_t h]
  rfl
theorem lstRg2_ (hf : f ρ = some (.sh (eI i), ρ1)) (hg : g ρ1 = some (.sh (eI j), ρ2)) (h : rgO i j = some xs) : eRg2 false f g ρ = some (.ow (.lst (xs.map eI)), ρ2) := by
  unfold eRg2
  rw [hf]
  show ((g ρ1).bind _) = _
  rw [hg]
  show ((rgZ false i j).bind _) = _
  rw [rgZ_t h]
  rfl
end
section
variable {α : Type} {e : α → Dv}
/-- the items of xs at the places of a combination -/
def pickT (xs : List α) (C : List (List Nat)) : List (List α) := C.map fun c => c.filterMap fun j => xs[j]?
theorem pickT_e {xs : List α} {C : List (List Nat)} (ch : Chn xs.length C) : picks (xs.map e) C = (pickT xs C).map (eT e) := by
  unfold picks pickT
  rw [List.map_map]
  refine List.map_congr_left fun c hc => ?_
  obtain ⟨i, hi, ec⟩ := List.getElem_of_mem hc
  have hj := (ch i c (by rw [List.getElem?_eq_getElem hi, ec])).2.1
  show PyData.tuple _ = PyData.tuple _
  refine congrArg PyData.tuple ?_
  clear ec hi hc
  induction c with
  | nil => rfl
  | cons j c ih =>
    have h1 := hj j List.mem_cons_self
    rw [List.map_cons, ih fun k hk => hj k (List.mem_cons_of_mem _ hk)]
    show _ = List.map e (List.filterMap (fun j => xs[j]?) (j :: c))
    rw [List.filterMap_cons, List.getElem?_eq_getElem h1, List.map_cons, List.getD_eq_getElem?_getD, List.getElem?_map, List.getElem?_eq_getElem h1]
    rfl
def comO (xs : List α) (k : Int) : Option (List (List α)) := if 0 ≤ k ∧ k ≤ 1000 then (combs xs.length k.toNat).map (pickT xs) else none
theorem cmb_t {xs : List α} {k : Int} {ys : List (List α)} (h : comO xs k = some ys) : cmbR [eT e xs, eI k] = some (ys.map (eT e)) := by
  unfold comO at h
  split at h
  · rename_i hk
    obtain ⟨C, hC, rfl⟩ := Option.map_eq_some_iff.mp h
    unfold cmbR eI
    show (if 0 ≤ k ∧ k ≤ 1000 then (combs (xs.map e).length k.toNat).map (picks (xs.map e)) else none) = _
    rw [if_pos hk, List.length_map, hC, Option.map_some, pickT_e (combs_chn hC).1]
  · cases h
theorem cmb_l {xs : List α} {k : Int} {ys : List (List α)} (h : comO xs k = some ys) : cmbR [eL e xs, eI k] = some (ys.map (eT e)) := cmb_t (e := e) h
def pairO : List α → Option (α × α)
  | [a, b] => some (a, b)
  | _ => none
def cmb2O (xs : List α) : Option (List (α × α)) := (comO xs 2).bind (mapO pairO)
theorem pairs_e : ∀ {zs : List (List α)} {ys : List (α × α)}, mapO pairO zs = some ys → zs.map (eT e) = ys.map (e2 e e)
  | [], _, h => by cases h; rfl
  | z :: zs, ys, h => by
    unfold mapO at h
    obtain ⟨p, hp, h⟩ := bnd h
    obtain ⟨ps, hps, h⟩ := bnd h
    cases h
    rw [List.map_cons, List.map_cons, pairs_e hps]
    refine congrArg (· :: _) ?_
    unfold pairO at hp
    split at hp
    · cases hp
      rfl
    · cases hp
theorem cmb2_t {xs : List α} {ys : List (α × α)} (h : cmb2O xs = some ys) : cmbR [eT e xs, eI 2] = some (ys.map (e2 e e)) := by
  obtain ⟨zs, h1, h2⟩ := bnd h
  rw [cmb_t h1, pairs_e h2]
theorem cmb2_l {xs : List α} {ys : List (α × α)} (h : cmb2O xs = some ys) : cmbR [eL e xs, eI 2] = some (ys.map (e2 e e)) := cmb2_t (e := e) h
end
/-- combinations(range(n), k) -/
def cmbrO (n k : Int) : Option (List (List Int)) := if bnd62 n = true ∧ n.toNat ≤ 1000 ∧ 0 ≤ k ∧ k ≤ 1000 then comO (rangeI 0 n.toNat) k else none
theorem cmbr_ {f g : M} {ρ ρ1 ρ2 : Rho} {n k : Int} {ys : List (List Int)} (hf : f ρ = some (.sh (eI n), ρ1)) (hg : g ρ1 = some (.sh (eI k), ρ2)) (h : cmbrO n k = some ys) : iCmbG f g ρ = some (ys.map (eT eI), ρ2) := by
  unfold cmbrO at h
  split at h
  rotate_left
  · cases h
  rename_i hc
  unfold comO at h
  rw [if_pos hc.2.2] at h
  obtain ⟨C, hC, rfl⟩ := Option.map_eq_some_iff.mp h
  unfold iCmbG
  rw [hf]
  show ((g ρ1).bind _) = _
  rw [hg]
  show (if _ then _ else none) = _
  rw [if_pos hc]
  rw [rangeI_len] at hC
  rw [hC, Option.map_some, rangeI_e, pickT_e (by rw [rangeI_len]; exact (combs_chn hC).1)]
end DL

set_option Elab.async false
set_option linter.all false
set_option autoImplicit false
set_option maxRecDepth 100000
set_option maxHeartbeats 1000000
namespace DL
open PySem PySem.Spec PyProof.Rows L2
/-! ### a head's facts and one fact more -/
def hookI (n : Nat) (fa : List He.Fa) (fn : List He.DefD) (ex : PySem.W.Frag → Bool) : PySem.W.Hook where
  α := He.AlD × Bool
  obs := fun s => (He.obsDG n fa fn s.heap.get?, ex (He.frG s.heap.get? (He.asD s.heap.get? n)))
  val := fun _ => (He.valD fn, true)
  says := fun _ h => ∃ K : PySem.W.Frag, K.In h ∧ He.SaysD fa fn K ∧ ex K = true
  of := fun _ _ e => ⟨_, He.frG_in, congrArg Prod.fst e, congrArg Prod.snd e⟩
  keeps := fun _ _ _ ⟨K, hK, c, cx⟩ k => ⟨K, PySem.W.Frag.In.keeps hK k, c, cx⟩
def obsI (n : Nat) (fa : List He.Fa) (fn : List He.DefD) (ex : PySem.W.Frag → Bool) (g : Addr → Option Obj) : He.AlD × Bool := (He.obsDG n fa fn g, ex (He.frG g (He.asD g n)))
theorem obsI_eq {n : Nat} {fa : List He.Fa} {fn : List He.DefD} {ex : PySem.W.Frag → Bool} {g : Addr → Option Obj} {s : Shared} (h : ∀ a, g a = s.heap.get? a) : obsI n fa fn ex g = (hookI n fa fn ex).obs s := by
  rw [show g = s.heap.get? from funext h]
  rfl
/-- the module's name x stands for the built-in type t -/
def isTy (x : Str) (t : String) (K : PySem.W.Frag) : Bool := He.eqO (PySem.W.nsIn K mainGlobals x) (some (some (.type t)))
theorem isTy_ok {K : PySem.W.Frag} {h : Heap} {mg : Str → Option Value} {x : Str} {t : String} (X : K.In h) (G : h.Ns mainGlobals mg) (c : isTy x t K = true) : mg x = some (.type t) := PySem.W.mg_of X G (He.eqO_ok c)
end DL

set_option Elab.async false
set_option linter.all false
set_option autoImplicit false
set_option maxRecDepth 100000
set_option maxHeartbeats 4000000
namespace K89
open PySem PySem.Spec PyProof.Rows L2 DL
def topS (i : Nat) : Stmt := PySem.Challenge.pw_turnwarrant_k89_whole_chords.main.body.getD i (.Pass ⟨0, 0, 0, 0⟩)
structure Zs (mg : Str → Option Value) : Prop where
  abs : mg "abs" = none
  bool : mg "bool" = none
  int : mg "int" = none
  isinstance : mg "isinstance" = none
  len : mg "len" = none
  list : mg "list" = none
  min : mg "min" = none
  range : mg "range" = none
  set : mg "set" = none
  sorted : mg "sorted" = none
  tuple : mg "tuple" = none
  c_TONES : ∃ t, mg "TONES" = some (.int 12 t)
  i_combinations : mg "combinations" = some (.type "itertools.combinations")
/-! _law_next -/
abbrev s__law_next : Stmt := topS 17
theorem sc__law_next : FnScope ["w", "many"] ["w", "many"] (defScope s__law_next) := ⟨rfl, rfl, rfl, by decide +kernel, rfl, by decide +kernel, by decide +kernel⟩
def g__law_next : MS :=
    (sSeq (sAugS iaddD (eVar 0) (eC (.str ("at" : Str))) (eC (.int 1)))
    (sSeq (sIf (tB (binS (cmpD fun i j => decide (j < i)) (binS ixA (eVar 0) (eC (.str ("at" : Str)))) (eCall lenG (aCons (binS ixA (eVar 0) (eC (.str ("draws" : Str)))) aNil)))) (sRet [0] (eC (.int 0))) sNil)
    (sRet [0] (binS modD (eCall intG (aCons (binS ixA (binS ixA (eVar 0) (eC (.str ("draws" : Str)))) (binS subD (binS ixA (eVar 0) (eC (.str ("at" : Str)))) (eC (.int 1)))) aNil)) (eVar 1)))))
def F__law_next : FnS := runF 2 2 [0] g__law_next
/-! _law_pick -/
abbrev s__law_pick : Stmt := topS 18
theorem sc__law_pick : FnScope ["w", "rows"] ["w", "rows"] (defScope s__law_pick) := ⟨rfl, rfl, rfl, by decide +kernel, rfl, by decide +kernel, by decide +kernel⟩
def g__law_pick : MS :=
    (sRet [0] (binS ixA (eVar 1) (eFn F__law_next (aCons (eVar 0) (aCons (frM (eCall lenG (aCons (eVar 1) aNil))) aNil)))))
def F__law_pick : FnS := runF 2 2 [0] g__law_pick
/-! _law_draws -/
abbrev s__law_draws : Stmt := topS 16
theorem sc__law_draws : FnScope ["script", "many", "draws", "mixed", "k", "cell", "rest", "turn"] ["script", "many"] (defScope s__law_draws) := ⟨rfl, rfl, rfl, by decide +kernel, rfl, by decide +kernel, by decide +kernel⟩
def g__law_draws : MS :=
    (sSeq (sSet 2 (eLst aNil))
    (sSeq (sSet 3 (eC (.int 7)))
    (sSeq (sFor (iRng rng1 (aCons (eCall lenG (aCons (eVar 0) aNil)) aNil)) (tName 4) (sSeq (sSet 5 (eCall absG (aCons (eCall intG (aCons (binS ixA (eVar 0) (eVar 4)) aNil)) aNil)))
    (sSeq (sSet 3 (binS modD (eCall intG (aCons (binS addD (binS addD (binS mulD (eVar 3) (eC (.int 48271))) (binS modD (eVar 5) (eC (.int 1000003)))) (eVar 4)) aNil)) (eC (.int 65537))))
    (sSeq (sSet 6 (eC (.int 0)))
    (sSeq (sIf (tB (binS (cmpD fun i j => decide (j ≤ i)) (eVar 5) (binS powD (eC (.int 10)) (eC (.int 18))))) (sSet 6 (cpM (eVar 5))) (sSeq (sExpr (mutM "list" appG (eVar 2) (aCons (frM (binS modD (eCall intG (aCons (eVar 5) aNil)) (eC (.int 997)))) aNil)))
    (sExpr (mutM "list" appG (eVar 2) (aCons (frM (binS modD (binS modD (eCall intG (aCons (binS addD (binS mulD (eVar 3) (eC (.int 69621))) (eC (.int 5))) aNil)) (eC (.int 65521))) (eC (.int 997)))) aNil)))))
    (sFor (iRng rng1 (aCons (eC (.int 60)) aNil)) (tName 7) (sIf (tB (binS (cmpD fun i j => decide (j < i)) (eVar 6) (eC (.int 0)))) (sSeq (sExpr (mutM "list" appG (eVar 2) (aCons (frM (binS modD (eCall intG (aCons (eVar 6) aNil)) (eC (.int 997)))) aNil)))
    (sSet 6 (binS divD (eVar 6) (eC (.int 997))))) sNil)))))))
    (sSeq (sFor (iRng rng1 (aCons (eVar 1) aNil)) (tName 4) (sSeq (sSet 3 (binS modD (eCall intG (aCons (binS addD (binS addD (binS mulD (eVar 3) (eC (.int 16807))) (eVar 4)) (eC (.int 1))) aNil)) (eC (.int 65537))))
    (sExpr (mutM "list" appG (eVar 2) (aCons (frM (binS modD (eCall intG (aCons (eVar 3) aNil)) (eC (.int 997)))) aNil)))))
    (sRet [] (eCut (eVar 2) oNo (oInt (eVar 1))))))))
def F__law_draws : FnS := runF 2 8 [] g__law_draws
/-! moved_chord -/
abbrev s_moved_chord : Stmt := topS 7
theorem sc_moved_chord : FnScope ["chord", "k", "tone"] ["chord", "k"] (defScope s_moved_chord) := ⟨rfl, rfl, rfl, by decide +kernel, rfl, by decide +kernel, by decide +kernel⟩
def g_moved_chord : MS :=
    (sRet [] (frM (eCall tupleG (aCons (eCall sortG (aCons (eLc [2] (iSeq (eVar 0)) (tName 2) cYes (binS modD (binS addD (eVar 2) (eVar 1)) (eC (.int 12)))) aNil)) aNil))))
def F_moved_chord : FnS := runF 2 3 [] g_moved_chord
/-! mirrored_chord -/
abbrev s_mirrored_chord : Stmt := topS 8
theorem sc_mirrored_chord : FnScope ["chord", "tone"] ["chord"] (defScope s_mirrored_chord) := ⟨rfl, rfl, rfl, by decide +kernel, rfl, by decide +kernel, by decide +kernel⟩
def g_mirrored_chord : MS :=
    (sRet [] (frM (eCall tupleG (aCons (eCall sortG (aCons (eLc [1] (iSeq (eVar 0)) (tName 1) cYes (binS modD (unS negD (eVar 1)) (eC (.int 12)))) aNil)) aNil))))
def F_mirrored_chord : FnS := runF 1 2 [] g_mirrored_chord
/-! chord_form -/
abbrev s_chord_form : Stmt := topS 9
theorem sc_chord_form : FnScope ["chord", "some", "form", "over", "k"] ["chord"] (defScope s_chord_form) := ⟨rfl, rfl, rfl, by decide +kernel, rfl, by decide +kernel, by decide +kernel⟩
def g_chord_form : MS :=
    (sSeq (sSet 1 (pkM (eLc [4] (iRng rng1 (aCons (eC (.int 12)) aNil)) (tName 4) cYes (eTup (aCons (frM (eFn F_moved_chord (aCons (frM (eVar 0)) (aCons (frM (eVar 4)) aNil)))) (aCons (eC (.int 0)) (aCons (frM (eVar 4)) aNil)))))))
    (sSeq (sSet 1 (pkM (binS addD (eVar 1) (eLc [4] (iRng rng1 (aCons (eC (.int 12)) aNil)) (tName 4) cYes (eTup (aCons (frM (eFn F_moved_chord (aCons (frM (eFn F_mirrored_chord (aCons (frM (eVar 0)) aNil))) (aCons (frM (eVar 4)) aNil)))) (aCons (eC (.int 1)) (aCons (frM (eVar 4)) aNil))))))))
    (sSeq (sAsg (eCall minG (aCons (eVar 1) aNil)) (tTupT [(tName 2), (tName 3), (tName 4)]))
    (sRet [] (eTup (aCons (frM (eVar 2)) (aCons (frM (eVar 4)) (aCons (frM (eVar 3)) aNil))))))))
def F_chord_form : FnS := runF 1 5 [] g_chord_form
/-! all_chords -/
abbrev s_all_chords : Stmt := topS 11
theorem sc_all_chords : FnScope ["size", "chord"] ["size"] (defScope s_all_chords) := ⟨rfl, rfl, rfl, by decide +kernel, rfl, by decide +kernel, by decide +kernel⟩
def g_all_chords : MS :=
    (sRet [] (frM (eCall tupleG (aCons (eLc [1] (iCmbG (eC (.int 12)) (eVar 0)) (tName 1) (tB (binS eqqD (binS ixA (eFn F_chord_form (aCons (frM (eVar 1)) aNil)) (eC (.int 0))) (eVar 1))) (eVar 1)) aNil))))
def F_all_chords : FnS := runF 1 2 [] g_all_chords
/-! _law_moved -/
abbrev s__law_moved : Stmt := topS 20
theorem sc__law_moved : FnScope ["chord", "k", "tone"] ["chord", "k"] (defScope s__law_moved) := ⟨rfl, rfl, rfl, by decide +kernel, rfl, by decide +kernel, by decide +kernel⟩
def g__law_moved : MS :=
    (sRet [] (frM (eCall tupleG (aCons (eCall sortG (aCons (eLc [2] (iSeq (eVar 0)) (tName 2) cYes (binS modD (eCall intG (aCons (binS addD (eVar 2) (eVar 1)) aNil)) (eC (.int 12)))) aNil)) aNil))))
def F__law_moved : FnS := runF 2 3 [] g__law_moved
/-! _law_mirrored -/
abbrev s__law_mirrored : Stmt := topS 21
theorem sc__law_mirrored : FnScope ["chord", "tone"] ["chord"] (defScope s__law_mirrored) := ⟨rfl, rfl, rfl, by decide +kernel, rfl, by decide +kernel, by decide +kernel⟩
def g__law_mirrored : MS :=
    (sRet [] (frM (eCall tupleG (aCons (eCall sortG (aCons (eLc [1] (iSeq (eVar 0)) (tName 1) cYes (binS modD (eCall intG (aCons (binS subD (eC (.int 0)) (eVar 1)) aNil)) (eC (.int 12)))) aNil)) aNil))))
def F__law_mirrored : FnS := runF 1 2 [] g__law_mirrored
/-! _law_images -/
abbrev s__law_images : Stmt := topS 22
theorem sc__law_images : FnScope ["chord", "k"] ["chord"] (defScope s__law_images) := ⟨rfl, rfl, rfl, by decide +kernel, rfl, by decide +kernel, by decide +kernel⟩
def g__law_images : MS :=
    (sRet [] (frM (binS addD (eLc [1] (iRng rng1 (aCons (eC (.int 12)) aNil)) (tName 1) cYes (eFn F__law_moved (aCons (frM (eVar 0)) (aCons (frM (eVar 1)) aNil)))) (eLc [1] (iRng rng1 (aCons (eC (.int 12)) aNil)) (tName 1) cYes (eFn F__law_moved (aCons (frM (eFn F__law_mirrored (aCons (frM (eVar 0)) aNil))) (aCons (frM (eVar 1)) aNil)))))))
def F__law_images : FnS := runF 1 2 [] g__law_images
/-! _law_forms -/
abbrev s__law_forms : Stmt := topS 25
theorem sc__law_forms : FnScope ["size", "rows", "tone", "found", "seen", "row", "image"] ["size"] (defScope s__law_forms) := ⟨rfl, rfl, rfl, by decide +kernel, rfl, by decide +kernel, by decide +kernel⟩
def g__law_forms : MS :=
    (sSeq (sSet 1 (pkM (eLst (aCons (eTup aNil) aNil))))
    (sSeq (sFor (iRng rng1 (aCons (eC (.int 12)) aNil)) (tName 2) (sSet 1 (pkM (binS addD (eVar 1) (eLc [5] (iSeq (eVar 1)) (tName 5) (tAn (tB (binS (cmpD fun i j => decide (i < j)) (eCall lenA (aCons (eVar 5) aNil)) (eVar 0))) (tOr' (tB (binS eqqD (eVar 2) (eC (.int 0)))) (tB (binS neqD (eVar 5) (eTup aNil))))) (binS addD (eVar 5) (eTup (aCons (frM (eVar 2)) aNil))))))))
    (sSeq (sPar 3 4 (aCons (eLst aNil) (aCons eDctN aNil)))
    (sSeq (sFor (iSeq (eCall sortG (aCons (eLc [5] (iSeq (eVar 1)) (tName 5) (tB (binS eqqD (eCall lenA (aCons (eVar 5) aNil)) (eVar 0))) (eVar 5)) aNil))) (tName 5) (sIf (tB (binS ninAD (eVar 5) (eVar 4))) (sSeq (sExpr (mutM "list" appG (eVar 3) (aCons (frM (eVar 5)) aNil)))
    (sFor (iSeq (eFn F__law_images (aCons (frM (eVar 5)) aNil))) (tName 6) (sAsg (eC (.bool true)) (tSub (eVar 4) (eVar 6))))) sNil))
    (sRet [] (frM (eVar 3)))))))
def F__law_forms : FnS := runF 1 7 [] g__law_forms
/-! steps_of -/
abbrev s_steps_of : Stmt := topS 10
theorem sc_steps_of : FnScope ["chord", "found", "one", "other"] ["chord"] (defScope s_steps_of) := ⟨rfl, rfl, rfl, by decide +kernel, rfl, by decide +kernel, by decide +kernel⟩
def g_steps_of : MS :=
    (sSeq (sSet 1 (binS mulD (eLst (aCons (eC (.int 0)) aNil)) (binS divD (eC (.int 12)) (eC (.int 2)))))
    (sSeq (sFor (iRng cmbR (aCons (eVar 0) (aCons (eC (.int 2)) aNil))) (tTupT [(tName 2), (tName 3)]) (sAugS iaddD (eVar 1) (binS subD (eCall min2G (aCons (binS subD (eVar 3) (eVar 2)) (aCons (binS addD (binS subD (eC (.int 12)) (eVar 3)) (eVar 2)) aNil))) (eC (.int 1))) (eC (.int 1))))
    (sRet [] (frM (eCall tupleG (aCons (eVar 1) aNil))))))
def F_steps_of : FnS := runF 1 4 [] g_steps_of
/-! twins -/
abbrev s_twins : Stmt := topS 14
theorem sc_twins : FnScope ["found", "size", "forms", "told", "form", "k", "i"] [] (defScope s_twins) := ⟨rfl, rfl, rfl, by decide +kernel, rfl, by decide +kernel, by decide +kernel⟩
def g_twins : MS :=
    (sSeq (sSet 0 (pkM (eLst aNil)))
    (sSeq (sFor (iRng rng1 (aCons (binS addD (binS divD (eC (.int 12)) (eC (.int 2))) (eC (.int 1))) aNil)) (tName 1) (sSeq (sSet 2 (pkM (eFn F_all_chords (aCons (frM (eVar 1)) aNil))))
    (sSeq (sSet 3 (pkM (eLc [4] (iSeq (eVar 2)) (tName 4) cYes (eFn F_steps_of (aCons (frM (eVar 4)) aNil)))))
    (sSet 0 (pkM (binS addD (eVar 0) (eLc2 [5, 6] [6] (iRng rng1 (aCons (eCall lenG (aCons (eVar 2) aNil)) aNil)) (tName 5) cYes (iRng rng1 (aCons (eVar 5) aNil)) (tName 6) (tB (binS eqqD (binS ixA (eVar 3) (eVar 6)) (binS ixA (eVar 3) (eVar 5)))) (eTup (aCons (frM (binS ixA (eVar 2) (eVar 6))) (aCons (frM (binS ixA (eVar 2) (eVar 5))) aNil))))))))))
    (sRet [] (frM (eCall tupleG (aCons (eCall sortG (aCons (eVar 0) aNil)) aNil))))))
def F_twins : FnS := runF 0 7 [] g_twins
/-! common_divisor -/
abbrev s_common_divisor : Stmt := topS 2
theorem sc_common_divisor : FnScope ["a", "b"] ["a", "b"] (defScope s_common_divisor) := ⟨rfl, rfl, rfl, by decide +kernel, rfl, by decide +kernel, by decide +kernel⟩
def g_common_divisor : MS :=
    (sSeq (sPar 0 1 (aCons (frM (eCall absG (aCons (eVar 0) aNil))) (aCons (frM (eCall absG (aCons (eVar 1) aNil))) aNil)))
    (sSeq (whileS (tV (eVar 1)) (sPar 0 1 (aCons (frM (eVar 1)) (aCons (frM (binS modD (eVar 0) (eVar 1))) aNil))) 1048576)
    (sRet [] (frM (eVar 0)))))
def F_common_divisor : FnS := runF 2 2 [] g_common_divisor
/-! product_of -/
abbrev s_product_of : Stmt := topS 3
theorem sc_product_of : FnScope ["numbers", "found", "number"] ["numbers"] (defScope s_product_of) := ⟨rfl, rfl, rfl, by decide +kernel, rfl, by decide +kernel, by decide +kernel⟩
def g_product_of : MS :=
    (sSeq (sSet 1 (eC (.int 1)))
    (sSeq (sFor (iSeq (eVar 0)) (tName 2) (sSet 1 (pkM (binS mulD (eVar 1) (eVar 2)))))
    (sRet [] (frM (eVar 1)))))
def F_product_of : FnS := runF 1 3 [] g_product_of
/-! factorial -/
abbrev s_factorial : Stmt := topS 4
theorem sc_factorial : FnScope ["n"] ["n"] (defScope s_factorial) := ⟨rfl, rfl, rfl, by decide +kernel, rfl, by decide +kernel, by decide +kernel⟩
def g_factorial : MS :=
    (sRet [] (frM (eFn F_product_of (aCons (frM (eRg2 false (eC (.int 1)) (binS addD (eVar 0) (eC (.int 1))))) aNil))))
def F_factorial : FnS := runF 1 1 [] g_factorial
/-! _choices -/
abbrev s__choices : Stmt := topS 12
theorem sc__choices : FnScope ["n", "k"] ["n", "k"] (defScope s__choices) := ⟨rfl, rfl, rfl, by decide +kernel, rfl, by decide +kernel, by decide +kernel⟩
def g__choices : MS :=
    (sRet [] (frM (eIf (tB (eChain (cmpD fun i j => decide (i ≤ j)) (cmpD fun i j => decide (i ≤ j)) (eC (.int 0)) (eVar 1) (eVar 0))) (binS divD (eFn F_factorial (aCons (frM (eVar 0)) aNil)) (binS mulD (eFn F_factorial (aCons (frM (eVar 1)) aNil)) (eFn F_factorial (aCons (frM (binS subD (eVar 0) (eVar 1))) aNil)))) (eC (.int 0)))))
def F__choices : FnS := runF 2 2 [] g__choices
/-! count_chords -/
abbrev s_count_chords : Stmt := topS 13
theorem sc_count_chords : FnScope ["size", "total", "k", "rings", "length", "fixed", "alone"] ["size"] (defScope s_count_chords) := ⟨rfl, rfl, rfl, by decide +kernel, rfl, by decide +kernel, by decide +kernel⟩
def g_count_chords : MS :=
    (sSeq (sSet 1 (eC (.int 0)))
    (sSeq (sFor (iRng rng1 (aCons (eC (.int 12)) aNil)) (tName 2) (sSeq (sSet 3 (pkM (cpM (eIf (tB (binS (cmpD fun i j => decide (j < i)) (eVar 2) (eC (.int 0)))) (frM (eFn F_common_divisor (aCons (frM (eVar 2)) (aCons (frM (eC (.int 12))) aNil)))) (frM (eC (.int 12)))))))
    (sSeq (sSet 4 (binS divD (eC (.int 12)) (eVar 3)))
    (sSeq (sIf (tB (binS eqqD (binS modD (eVar 0) (eVar 4)) (eC (.int 0)))) (sAug 1 iaddD (eFn F__choices (aCons (frM (eVar 3)) (aCons (frM (binS divD (eVar 0) (eVar 4))) aNil)))) sNil)
    (sSeq (sSet 5 (pkM (cpM (eIf (tB (binS eqqD (binS modD (eVar 2) (eC (.int 2))) (eC (.int 0)))) (eC (.int 2)) (eC (.int 0))))))
    (sFor (iRng rng1 (aCons (binS addD (eVar 5) (eC (.int 1))) aNil)) (tName 6) (sIf (tB (binS eqqD (binS modD (binS subD (eVar 0) (eVar 6)) (eC (.int 2))) (eC (.int 0)))) (sAug 1 iaddD (binS mulD (eFn F__choices (aCons (frM (eVar 5)) (aCons (frM (eVar 6)) aNil))) (eFn F__choices (aCons (frM (binS divD (binS subD (eC (.int 12)) (eVar 5)) (eC (.int 2)))) (aCons (frM (binS divD (binS subD (eVar 0) (eVar 6)) (eC (.int 2)))) aNil))))) sNil)))))))
    (sRet [] (binS divD (eVar 1) (binS mulD (eC (.int 2)) (eC (.int 12)))))))
def F_count_chords : FnS := runF 1 7 [] g_count_chords
/-! _law_plain -/
abbrev s__law_plain : Stmt := topS 19
theorem sc__law_plain : FnScope ["thing", "one"] ["thing"] (defScope s__law_plain) := ⟨rfl, rfl, rfl, by decide +kernel, rfl, by decide +kernel, by decide +kernel⟩
def g__law_plain (self : FnS) : MS :=
    (sSeq (sIf (tV (unS (isiD "tuple") (eVar 0))) (sRet [] (binS eqqD (eLc [1] (iSeq (eVar 0)) (tName 1) (tNo (tV (eFn self (aCons (frM (eVar 1)) aNil)))) (eVar 1)) (eLst aNil))) sNil)
    (sRet [] (frM (eAnd (unS (isiD "int") (eVar 0)) (eNot (unS (isiD "bool") (eVar 0)))))))
def F__law_plain : Nat → FnS
  | 0 => runF 1 2 [] (fun _ => none)
  | n + 1 => runF 1 2 [] (g__law_plain (F__law_plain n))
/-! _law_steps -/
abbrev s__law_steps : Stmt := topS 24
theorem sc__law_steps : FnScope ["chord", "found", "one", "other"] ["chord"] (defScope s__law_steps) := ⟨rfl, rfl, rfl, by decide +kernel, rfl, by decide +kernel, by decide +kernel⟩
def g__law_steps : MS :=
    (sSeq (sSet 1 (binS mulD (eLst (aCons (eC (.int 0)) aNil)) (eC (.int 6))))
    (sSeq (sFor (iSeq (eVar 0)) (tName 2) (sFor (iSeq (eVar 0)) (tName 3) (sIf (tB (binS (cmpD fun i j => decide (i < j)) (eVar 2) (eVar 3))) (sAugS iaddD (eVar 1) (binS subD (eCall min2G (aCons (binS subD (eVar 3) (eVar 2)) (aCons (binS addD (binS subD (eC (.int 12)) (eVar 3)) (eVar 2)) aNil))) (eC (.int 1))) (eC (.int 1))) sNil)))
    (sRet [] (frM (eCall tupleG (aCons (eVar 1) aNil))))))
def F__law_steps : FnS := runF 1 4 [] g__law_steps
/-! _law_form -/
abbrev s__law_form : Stmt := topS 23
theorem sc__law_form : FnScope ["chord", "images", "least", "at", "image"] ["chord"] (defScope s__law_form) := ⟨rfl, rfl, rfl, by decide +kernel, rfl, by decide +kernel, by decide +kernel⟩
def g__law_form : MS :=
    (sSeq (sSet 1 (pkM (eFn F__law_images (aCons (frM (eVar 0)) aNil))))
    (sSeq (sSet 2 (pkM (eCall minG (aCons (eLc [4] (iSeq (eVar 1)) (tName 4) (tOr' (tB (binS eqqD (eVar 0) (eTup aNil))) (tB (binS inAD (eC (.int 0)) (eVar 4)))) (eVar 4)) aNil))))
    (sSeq (sSet 3 (pkM (eIdx (eVar 1) (aCons (frM (eVar 2)) aNil))))
    (sRet [] (eTup (aCons (frM (eVar 2)) (aCons (frM (binS modD (eCall intG (aCons (eVar 3) aNil)) (eC (.int 12)))) (aCons (frM (binS divD (eVar 3) (eC (.int 12)))) aNil))))))))
def F__law_form : FnS := runF 1 5 [] g__law_form
/-! law -/
abbrev s_law : Stmt := topS 26
theorem sc_law : FnScope ["script", "w", "turn", "share", "chord", "k", "dues", "one", "size", "told", "due", "pairs", "many", "forms", "rows", "tone", "form", "j"] ["script"] (defScope s_law) := ⟨rfl, rfl, rfl, by decide +kernel, rfl, by decide +kernel, by decide +kernel⟩
def L_0 : MS := (sSet 1 (eDisp [((.inr ("draws" : Str) : Key), (eFn F__law_draws (aCons (frM (eVar 0)) (aCons (eC (.int 300)) aNil)))), ((.inr ("at" : Str) : Key), (eC (.int 0)))]))
def L_1_0 : MS := (sSet 3 (binS addD (eC (.int 2)) (eFn F__law_next (aCons (eVar 1) (aCons (eC (.int 3)) aNil)))))
def L_1_1 : MS := (sSet 4 (pkM (eCall tupleG (aCons (eLc [15] (iRng rng1 (aCons (eC (.int 12)) aNil)) (tName 15) (tB (binS eqqD (eFn F__law_next (aCons (eVar 1) (aCons (frM (eVar 3)) aNil))) (eC (.int 0)))) (eVar 15)) aNil))))
def L_1_2 : MS := (sSet 5 (pkM (eFn F__law_next (aCons (eVar 1) (aCons (eC (.int 12)) aNil)))))
def L_1_3 : MS := (sSet 6 (eLst (aCons (eTup (aCons (frM (eFn F_moved_chord (aCons (frM (eVar 4)) (aCons (frM (eVar 5)) aNil)))) (aCons (frM (eFn F__law_moved (aCons (frM (eVar 4)) (aCons (frM (eVar 5)) aNil)))) aNil))) (aCons (eTup (aCons (frM (eFn F_mirrored_chord (aCons (frM (eVar 4)) aNil))) (aCons (frM (eFn F__law_mirrored (aCons (frM (eVar 4)) aNil))) aNil))) (aCons (eTup (aCons (frM (eFn F_steps_of (aCons (frM (eVar 4)) aNil))) (aCons (frM (eFn F__law_steps (aCons (frM (eVar 4)) aNil))) aNil))) aNil)))))
def L_1_4_0 : MS := (sExpr (mutM "list" appG (eVar 6) (aCons (eTup (aCons (frM (eFn F_chord_form (aCons (frM (eVar 7)) aNil))) (aCons (frM (eFn F__law_form (aCons (frM (eVar 7)) aNil))) aNil))) aNil)))
def L_1_4 : MS := (sFor (iSeq (eTup (aCons (frM (eVar 4)) (aCons (frM (eFn F__law_moved (aCons (frM (eFn F__law_mirrored (aCons (frM (eVar 4)) aNil))) (aCons (frM (eVar 5)) aNil)))) (aCons (frM (eFn F__law_moved (aCons (frM (eVar 4)) (aCons (frM (eVar 5)) aNil)))) (aCons (frM (eCall tupleG (aCons (eSset (binS addD (eVar 4) (eTup (aCons (frM (eVar 5)) aNil)))) aNil))) aNil)))))) (tName 7) L_1_4_0)
def L_1_5_0 : MS := (sRet [] (eC (.bool false)))
def L_1_5 : MS := (sIf (tB (binS neqD (eLc [9, 10] (iSeq (eVar 6)) (tTupT [(tName 9), (tName 10)]) (tOr' (tNo (tV (eFn (F__law_plain 4) (aCons (frM (eVar 9)) aNil)))) (tB (binS neqD (eVar 9) (eVar 10)))) (eVar 9)) (eLst aNil))) L_1_5_0 sNil)
def L_1 : MS := (sFor (iRng rng1 (aCons (eC (.int 4)) aNil)) (tName 2) (sSeq L_1_0
    (sSeq L_1_1
    (sSeq L_1_2
    (sSeq L_1_3
    (sSeq L_1_4
    L_1_5))))))
def L_2 : MS := (sSet 8 (pkM (eFn F__law_pick (aCons (eVar 1) (aCons (frM (eLst (aCons (eC (.int 0)) (aCons (eC (.int 1)) (aCons (eC (.int 2)) (aCons (eC (.int 3)) (aCons (eC (.int 9)) (aCons (eC (.int 10)) (aCons (eC (.int 11)) (aCons (eC (.int 12)) (aCons (eC (.int 4)) (aCons (eC (.int 8)) aNil)))))))))))) aNil)))))
def L_3 : MS := (sPar 9 10 (aCons (frM (eFn F_all_chords (aCons (frM (eVar 8)) aNil))) (aCons (frM (eFn F__law_forms (aCons (frM (eVar 8)) aNil))) aNil)))
def L_4_0 : MS := (sRet [] (eC (.bool false)))
def L_4 : MS := (sIf (tOr' (tNo (tV (eFn (F__law_plain 4) (aCons (frM (eVar 9)) aNil)))) (tOr' (tB (binS neqD (eCall listG (aCons (eVar 9) aNil)) (eVar 10))) (tB (binS neqD (eFn F_count_chords (aCons (frM (eVar 8)) aNil)) (eCall lenG (aCons (eVar 10) aNil)))))) L_4_0 sNil)
def L_5_0 : MS := (sSet 11 (pkM (eLst aNil)))
def L_5_1_0 : MS := (sSet 13 (pkM (eFn F__law_forms (aCons (frM (eVar 12)) aNil))))
def L_5_1_1 : MS := (sSet 14 (pkM (eLc [16] (iSeq (eVar 13)) (tName 16) cYes (eFn F__law_steps (aCons (frM (eVar 16)) aNil)))))
def L_5_1_2_0 : MS := (sSet 11 (pkM (binS addD (eVar 11) (eLc [17] (iRng rng1 (aCons (eVar 5) aNil)) (tName 17) (tB (binS eqqD (binS ixA (eVar 14) (eVar 17)) (binS ixA (eVar 14) (eVar 5)))) (eTup (aCons (frM (binS ixA (eVar 13) (eVar 17))) (aCons (frM (binS ixA (eVar 13) (eVar 5))) aNil)))))))
def L_5_1_2 : MS := (sFor (iRng rng1 (aCons (eCall lenG (aCons (eVar 13) aNil)) aNil)) (tName 5) L_5_1_2_0)
def L_5_1 : MS := (sFor (iRng rng1 (aCons (eC (.int 7)) aNil)) (tName 12) (sSeq L_5_1_0
    (sSeq L_5_1_1
    L_5_1_2)))
def L_5_2 : MS := (sSet 9 (pkM (eFn F_twins aNil)))
def L_5_3 : MS := (sRet [] (frM (eAnd (eFn (F__law_plain 4) (aCons (frM (eVar 9)) aNil)) (binS eqqD (eCall listG (aCons (eVar 9) aNil)) (eCall sortG (aCons (eVar 11) aNil))))))
def L_5 : MS := (sIf (tB (binS eqqD (eFn F__law_next (aCons (eVar 1) (aCons (eC (.int 9)) aNil))) (eC (.int 0)))) (sSeq L_5_0
    (sSeq L_5_1
    (sSeq L_5_2
    L_5_3))) sNil)
def L_6 : MS := (sSet 8 (pkM (eFn F__law_next (aCons (eVar 1) (aCons (eC (.int 13)) aNil)))))
def L_7 : MS := (sRet [] (binS eqqD (eFn F_count_chords (aCons (frM (eVar 8)) aNil)) (eFn F_count_chords (aCons (frM (binS subD (eC (.int 12)) (eVar 8))) aNil))))
def g_law : MS :=
    (sSeq L_0
    (sSeq L_1
    (sSeq L_2
    (sSeq L_3
    (sSeq L_4
    (sSeq L_5
    (sSeq L_6
    L_7)))))))
def F_law : FnS := runF 1 18 [] g_law
section
variable {P : Program} {w : World} {K : PySem.W.Frag} {mg : Str → Option Value} {base : Heap}
theorem ok__law_next (Z : Zs mg) (D : Dn K mg "_law_next" s__law_next ["w", "many"]) : Has P w K mg base 1 "_law_next" ["w", "many"] F__law_next :=
  fn_has D sc__law_next [0] g__law_next fun cdv A outer s H E fA hr =>
    (ds_cons (ds_augS (u201 hr) (de_var 0) de_str de_int iadd_d)
    (ds_cons (ds_if (dt_cmp gt_d (de_ix (ixA_d (u11 hr)) (de_var 0) de_str) (de_callB len_d (by rfl) Z.len (by rfl) (da_cons (de_ix (ixA_d (u11 hr)) (de_var 0) de_str) da_nil))) (ds_one (ds_ret de_int)) ds_nil)
    (ds_one (ds_ret (de_bin mod_d (de_callTy int_d (by rfl) Z.int (by rfl) (da_cons (de_ix (ixA_d (u11 hr)) (de_ix (ixA_d (u11 hr)) (de_var 0) de_str) (de_bin sub_d (de_ix (ixA_d (u11 hr)) (de_var 0) de_str) de_int)) da_nil)) (de_var 1))))))
theorem ok__law_pick (Z : Zs mg) (D : Dn K mg "_law_pick" s__law_pick ["w", "rows"]) (h__law_next : Has P w K mg base 1 "_law_next" ["w", "many"] F__law_next) : Has P w K mg base 2 "_law_pick" ["w", "rows"] F__law_pick :=
  fn_has D sc__law_pick [0] g__law_pick fun cdv A outer s H E fA hr =>
    (ds_one (ds_ret (de_ix (ixA_d (u11 hr)) (de_var 1) (de_call h__law_next hr (by first | omega | decide) (by rfl) (da_cons (de_var 0) (da_cons (de_fr (de_callB len_d (by rfl) Z.len (by rfl) (da_cons (de_var 1) da_nil))) da_nil)) (aLen_cons (aLen_cons aLen_nil))))))
theorem ok__law_draws (Z : Zs mg) (D : Dn K mg "_law_draws" s__law_draws ["script", "many"]) : Has P w K mg base 1 "_law_draws" ["script", "many"] F__law_draws :=
  fn_has D sc__law_draws [] g__law_draws fun cdv A outer s H E fA hr =>
    (ds_cons (ds_set (i := 2) sc__law_draws.nd rfl (by first | exact .inl rfl | exact .inr rfl) (by decide) (de_lst da_nil))
    (ds_cons (ds_set (i := 3) sc__law_draws.nd rfl (by first | exact .inl rfl | exact .inr rfl) (by decide) de_int)
    (ds_cons (ds_for PassesOwn.never rfl (di_range1 (by rfl) Z.range (da_cons (de_callB len_d (by rfl) Z.len (by rfl) (da_cons (de_var 0) da_nil)) da_nil)) (dg_name (i := 4) sc__law_draws.nd rfl (by first | exact .inl rfl | exact .inr rfl) (by decide)) (ds_cons (ds_set (i := 5) sc__law_draws.nd rfl (by first | exact .inl rfl | exact .inr rfl) (by decide) (de_callB abs_d (by rfl) Z.abs (by rfl) (da_cons (de_callTy int_d (by rfl) Z.int (by rfl) (da_cons (de_ix (ixA_d (u11 hr)) (de_var 0) (de_var 4)) da_nil)) da_nil)))
    (ds_cons (ds_set (i := 3) sc__law_draws.nd rfl (by first | exact .inl rfl | exact .inr rfl) (by decide) (de_bin mod_d (de_callTy int_d (by rfl) Z.int (by rfl) (da_cons (de_bin add_d (de_bin add_d (de_bin mul_d (de_var 3) de_int) (de_bin mod_d (de_var 5) de_int)) (de_var 4)) da_nil)) de_int))
    (ds_cons (ds_set (i := 6) sc__law_draws.nd rfl (by first | exact .inl rfl | exact .inr rfl) (by decide) de_int)
    (ds_cons (ds_if (dt_cmp ge_d (de_var 5) (de_bin pow_d de_int de_int)) (ds_one (ds_set (i := 6) sc__law_draws.nd rfl (by first | exact .inl rfl | exact .inr rfl) (by decide) (de_cp (de_var 5)))) (ds_cons (ds_expr (de_app (de_var 2) (da_cons (de_fr (de_bin mod_d (de_callTy int_d (by rfl) Z.int (by rfl) (da_cons (de_var 5) da_nil)) de_int)) da_nil)))
    (ds_one (ds_expr (de_app (de_var 2) (da_cons (de_fr (de_bin mod_d (de_bin mod_d (de_callTy int_d (by rfl) Z.int (by rfl) (da_cons (de_bin add_d (de_bin mul_d (de_var 3) de_int) de_int) da_nil)) de_int) de_int)) da_nil))))))
    (ds_one (ds_for PassesOwn.never rfl (di_range1 (by rfl) Z.range (da_cons de_int da_nil)) (dg_name (i := 7) sc__law_draws.nd rfl (by first | exact .inl rfl | exact .inr rfl) (by decide)) (ds_one (ds_if (dt_cmp gt_d (de_var 6) de_int) (ds_cons (ds_expr (de_app (de_var 2) (da_cons (de_fr (de_bin mod_d (de_callTy int_d (by rfl) Z.int (by rfl) (da_cons (de_var 6) da_nil)) de_int)) da_nil)))
    (ds_one (ds_set (i := 6) sc__law_draws.nd rfl (by first | exact .inl rfl | exact .inr rfl) (by decide) (de_bin div_d (de_var 6) de_int)))) ds_nil)))))))))
    (ds_cons (ds_for PassesOwn.never rfl (di_range1 (by rfl) Z.range (da_cons (de_var 1) da_nil)) (dg_name (i := 4) sc__law_draws.nd rfl (by first | exact .inl rfl | exact .inr rfl) (by decide)) (ds_cons (ds_set (i := 3) sc__law_draws.nd rfl (by first | exact .inl rfl | exact .inr rfl) (by decide) (de_bin mod_d (de_callTy int_d (by rfl) Z.int (by rfl) (da_cons (de_bin add_d (de_bin add_d (de_bin mul_d (de_var 3) de_int) (de_var 4)) de_int) da_nil)) de_int))
    (ds_one (ds_expr (de_app (de_var 2) (da_cons (de_fr (de_bin mod_d (de_callTy int_d (by rfl) Z.int (by rfl) (da_cons (de_var 3) da_nil)) de_int)) da_nil))))))
    (ds_one (ds_ret (de_cut (de_var 2) do_no (do_int (de_var 1)))))))))
theorem ok_moved_chord (Z : Zs mg) (D : Dn K mg "moved_chord" s_moved_chord ["chord", "k"]) : Has P w K mg base 1 "moved_chord" ["chord", "k"] F_moved_chord :=
  fn_has D sc_moved_chord [] g_moved_chord fun cdv A outer s H E fA hr =>
    (ds_one (ds_ret (de_fr (de_callTy tuple_d (by rfl) Z.tuple (by rfl) (da_cons (de_callB (sorted_d (u201 hr)) (by rfl) Z.sorted (by rfl) (da_cons (de_lc (own := [(("tone" : Str), 2)]) rfl sc_moved_chord.nd (di_seq (de_var 0)) (blkOk_by (by rfl)) (fun _ _ _ _ _ => (dg_name (i := 2) sc_moved_chord.nd rfl (by first | exact .inl rfl | exact .inr rfl) (by decide))) (fun _ _ _ _ _ => dp_nil) (fun _ _ _ _ _ => (de_bin mod_d (de_bin add_d (de_var 2) (de_var 1)) (de_gint (by rfl) Z.c_TONES)))) da_nil)) da_nil)))))
theorem ok_mirrored_chord (Z : Zs mg) (D : Dn K mg "mirrored_chord" s_mirrored_chord ["chord"]) : Has P w K mg base 1 "mirrored_chord" ["chord"] F_mirrored_chord :=
  fn_has D sc_mirrored_chord [] g_mirrored_chord fun cdv A outer s H E fA hr =>
    (ds_one (ds_ret (de_fr (de_callTy tuple_d (by rfl) Z.tuple (by rfl) (da_cons (de_callB (sorted_d (u201 hr)) (by rfl) Z.sorted (by rfl) (da_cons (de_lc (own := [(("tone" : Str), 1)]) rfl sc_mirrored_chord.nd (di_seq (de_var 0)) (blkOk_by (by rfl)) (fun _ _ _ _ _ => (dg_name (i := 1) sc_mirrored_chord.nd rfl (by first | exact .inl rfl | exact .inr rfl) (by decide))) (fun _ _ _ _ _ => dp_nil) (fun _ _ _ _ _ => (de_bin mod_d (de_neg (de_var 1)) (de_gint (by rfl) Z.c_TONES)))) da_nil)) da_nil)))))
theorem ok_chord_form (Z : Zs mg) (D : Dn K mg "chord_form" s_chord_form ["chord"]) (h_mirrored_chord : Has P w K mg base 1 "mirrored_chord" ["chord"] F_mirrored_chord) (h_moved_chord : Has P w K mg base 1 "moved_chord" ["chord", "k"] F_moved_chord) : Has P w K mg base 2 "chord_form" ["chord"] F_chord_form :=
  fn_has D sc_chord_form [] g_chord_form fun cdv A outer s H E fA hr =>
    (ds_cons (ds_setLcP (i := 1) (own := [(("k" : Str), 4)]) rfl sc_chord_form.nd rfl rfl (by decide) (by rfl) (di_range1 (by rfl) Z.range (da_cons (de_gint (by rfl) Z.c_TONES) da_nil)) (blkOk_by (by rfl)) (fun _ _ _ _ _ => (dg_name (i := 4) sc_chord_form.nd rfl (by first | exact .inl rfl | exact .inr rfl) (by decide))) (fun _ _ _ _ _ => dp_nil) (fun _ _ _ _ _ => (de_tup (da_cons (de_fr (de_call h_moved_chord hr (by first | omega | decide) (by rfl) (da_cons (de_fr (de_var 0)) (da_cons (de_fr (de_var 4)) da_nil)) (aLen_cons (aLen_cons aLen_nil)))) (da_cons de_int (da_cons (de_fr (de_var 4)) da_nil))))))
    (ds_cons (ds_set (i := 1) sc_chord_form.nd rfl (by first | exact .inl rfl | exact .inr rfl) (by decide) (de_pk (de_bin add_d (de_var 1) (de_lc (own := [(("k" : Str), 4)]) rfl sc_chord_form.nd (di_range1 (by rfl) Z.range (da_cons (de_gint (by rfl) Z.c_TONES) da_nil)) (blkOk_by (by rfl)) (fun _ _ _ _ _ => (dg_name (i := 4) sc_chord_form.nd rfl (by first | exact .inl rfl | exact .inr rfl) (by decide))) (fun _ _ _ _ _ => dp_nil) (fun _ _ _ _ _ => (de_tup (da_cons (de_fr (de_call h_moved_chord hr (by first | omega | decide) (by rfl) (da_cons (de_fr (de_call h_mirrored_chord hr (by first | omega | decide) (by rfl) (da_cons (de_fr (de_var 0)) da_nil) (aLen_cons aLen_nil))) (da_cons (de_fr (de_var 4)) da_nil)) (aLen_cons (aLen_cons aLen_nil)))) (da_cons de_int (da_cons (de_fr (de_var 4)) da_nil)))))))))
    (ds_cons (ds_asg (de_callB (min_d rfl hr.hd (u201 hr)) (by rfl) Z.min (by rfl) (da_cons (de_var 1) da_nil)) (dg_tup rfl (dgs_cons (dg_name (i := 2) sc_chord_form.nd rfl (by first | exact .inl rfl | exact .inr rfl) (by decide)) (dgs_cons (dg_name (i := 3) sc_chord_form.nd rfl (by first | exact .inl rfl | exact .inr rfl) (by decide)) (dgs_cons (dg_name (i := 4) sc_chord_form.nd rfl (by first | exact .inl rfl | exact .inr rfl) (by decide)) dgs_nil)))))
    (ds_one (ds_ret (de_tup (da_cons (de_fr (de_var 2)) (da_cons (de_fr (de_var 4)) (da_cons (de_fr (de_var 3)) da_nil)))))))))
theorem ok_all_chords (Z : Zs mg) (D : Dn K mg "all_chords" s_all_chords ["size"]) (h_chord_form : Has P w K mg base 2 "chord_form" ["chord"] F_chord_form) : Has P w K mg base 3 "all_chords" ["size"] F_all_chords :=
  fn_has D sc_all_chords [] g_all_chords fun cdv A outer s H E fA hr =>
    (ds_one (ds_ret (de_fr (de_callTy tuple_d (by rfl) Z.tuple (by rfl) (da_cons (de_lc (own := [(("chord" : Str), 1)]) rfl sc_all_chords.nd (di_cmbR rfl (by rfl) Z.i_combinations (by rfl) Z.range (de_gint (by rfl) Z.c_TONES) (de_var 0)) (blkOk_by (by rfl)) (fun _ _ _ _ _ => (dg_name (i := 1) sc_all_chords.nd rfl (by first | exact .inl rfl | exact .inr rfl) (by decide))) (fun _ _ _ _ _ => (dp_one (dt_cmp (eq_d (u65 hr)) (de_ix (ixA_d (u11 hr)) (de_call h_chord_form hr (by first | omega | decide) (by rfl) (da_cons (de_fr (de_var 1)) da_nil) (aLen_cons aLen_nil)) de_int) (de_var 1)))) (fun _ _ _ _ _ => (de_var 1))) da_nil)))))
theorem ok__law_moved (Z : Zs mg) (D : Dn K mg "_law_moved" s__law_moved ["chord", "k"]) : Has P w K mg base 1 "_law_moved" ["chord", "k"] F__law_moved :=
  fn_has D sc__law_moved [] g__law_moved fun cdv A outer s H E fA hr =>
    (ds_one (ds_ret (de_fr (de_callTy tuple_d (by rfl) Z.tuple (by rfl) (da_cons (de_callB (sorted_d (u201 hr)) (by rfl) Z.sorted (by rfl) (da_cons (de_lc (own := [(("tone" : Str), 2)]) rfl sc__law_moved.nd (di_seq (de_var 0)) (blkOk_by (by rfl)) (fun _ _ _ _ _ => (dg_name (i := 2) sc__law_moved.nd rfl (by first | exact .inl rfl | exact .inr rfl) (by decide))) (fun _ _ _ _ _ => dp_nil) (fun _ _ _ _ _ => (de_bin mod_d (de_callTy int_d (by rfl) Z.int (by rfl) (da_cons (de_bin add_d (de_var 2) (de_var 1)) da_nil)) de_int))) da_nil)) da_nil)))))
theorem ok__law_mirrored (Z : Zs mg) (D : Dn K mg "_law_mirrored" s__law_mirrored ["chord"]) : Has P w K mg base 1 "_law_mirrored" ["chord"] F__law_mirrored :=
  fn_has D sc__law_mirrored [] g__law_mirrored fun cdv A outer s H E fA hr =>
    (ds_one (ds_ret (de_fr (de_callTy tuple_d (by rfl) Z.tuple (by rfl) (da_cons (de_callB (sorted_d (u201 hr)) (by rfl) Z.sorted (by rfl) (da_cons (de_lc (own := [(("tone" : Str), 1)]) rfl sc__law_mirrored.nd (di_seq (de_var 0)) (blkOk_by (by rfl)) (fun _ _ _ _ _ => (dg_name (i := 1) sc__law_mirrored.nd rfl (by first | exact .inl rfl | exact .inr rfl) (by decide))) (fun _ _ _ _ _ => dp_nil) (fun _ _ _ _ _ => (de_bin mod_d (de_callTy int_d (by rfl) Z.int (by rfl) (da_cons (de_bin sub_d de_int (de_var 1)) da_nil)) de_int))) da_nil)) da_nil)))))
theorem ok__law_images (Z : Zs mg) (D : Dn K mg "_law_images" s__law_images ["chord"]) (h__law_mirrored : Has P w K mg base 1 "_law_mirrored" ["chord"] F__law_mirrored) (h__law_moved : Has P w K mg base 1 "_law_moved" ["chord", "k"] F__law_moved) : Has P w K mg base 2 "_law_images" ["chord"] F__law_images :=
  fn_has D sc__law_images [] g__law_images fun cdv A outer s H E fA hr =>
    (ds_one (ds_ret (de_fr (de_bin add_d (de_lc (own := [(("k" : Str), 1)]) rfl sc__law_images.nd (di_range1 (by rfl) Z.range (da_cons de_int da_nil)) (blkOk_by (by rfl)) (fun _ _ _ _ _ => (dg_name (i := 1) sc__law_images.nd rfl (by first | exact .inl rfl | exact .inr rfl) (by decide))) (fun _ _ _ _ _ => dp_nil) (fun _ _ _ _ _ => (de_call h__law_moved hr (by first | omega | decide) (by rfl) (da_cons (de_fr (de_var 0)) (da_cons (de_fr (de_var 1)) da_nil)) (aLen_cons (aLen_cons aLen_nil))))) (de_lc (own := [(("k" : Str), 1)]) rfl sc__law_images.nd (di_range1 (by rfl) Z.range (da_cons de_int da_nil)) (blkOk_by (by rfl)) (fun _ _ _ _ _ => (dg_name (i := 1) sc__law_images.nd rfl (by first | exact .inl rfl | exact .inr rfl) (by decide))) (fun _ _ _ _ _ => dp_nil) (fun _ _ _ _ _ => (de_call h__law_moved hr (by first | omega | decide) (by rfl) (da_cons (de_fr (de_call h__law_mirrored hr (by first | omega | decide) (by rfl) (da_cons (de_fr (de_var 0)) da_nil) (aLen_cons aLen_nil))) (da_cons (de_fr (de_var 1)) da_nil)) (aLen_cons (aLen_cons aLen_nil)))))))))
theorem ok__law_forms (Z : Zs mg) (D : Dn K mg "_law_forms" s__law_forms ["size"]) (h__law_images : Has P w K mg base 2 "_law_images" ["chord"] F__law_images) : Has P w K mg base 3 "_law_forms" ["size"] F__law_forms :=
  fn_has D sc__law_forms [] g__law_forms fun cdv A outer s H E fA hr =>
    (ds_cons (ds_set (i := 1) sc__law_forms.nd rfl (by first | exact .inl rfl | exact .inr rfl) (by decide) (de_pk (de_lst (da_cons (de_tup da_nil) da_nil))))
    (ds_cons (ds_for PassesOwn.never rfl (di_range1 (by rfl) Z.range (da_cons de_int da_nil)) (dg_name (i := 2) sc__law_forms.nd rfl (by first | exact .inl rfl | exact .inr rfl) (by decide)) (ds_one (ds_set (i := 1) sc__law_forms.nd rfl (by first | exact .inl rfl | exact .inr rfl) (by decide) (de_pk (de_bin add_d (de_var 1) (de_lc (own := [(("row" : Str), 5)]) rfl sc__law_forms.nd (di_seq (de_var 1)) (blkOk_by (by rfl)) (fun _ _ _ _ _ => (dg_name (i := 5) sc__law_forms.nd rfl (by first | exact .inl rfl | exact .inr rfl) (by decide))) (fun _ _ _ _ _ => (dp_one (PW.pt (dw_and (dt_cmp lt_d (de_callB lenA_d (by rfl) Z.len (by rfl) (da_cons (de_var 5) da_nil)) (de_var 0)) (dw_and1 (PW.pt (dw_or (dt_cmp (eq_d (u65 hr)) (de_var 2) de_int) (dw_or1 (dt_cmp (ne_d (u65 hr)) (de_var 5) (de_tup da_nil)))))))))) (fun _ _ _ _ _ => (de_bin add_d (de_var 5) (de_tup (da_cons (de_fr (de_var 2)) da_nil))))))))))
    (ds_cons (ds_par (i := 3) (j := 4) rfl sc__law_forms.nd rfl rfl (by decide) (by decide) (by decide) rfl rfl (da_cons (de_lst da_nil) (da_cons de_dnewN da_nil)) (by rfl))
    (ds_cons (ds_for PassesOwn.never rfl (di_seq (de_callB (sorted_d (u201 hr)) (by rfl) Z.sorted (by rfl) (da_cons (de_lc (own := [(("row" : Str), 5)]) rfl sc__law_forms.nd (di_seq (de_var 1)) (blkOk_by (by rfl)) (fun _ _ _ _ _ => (dg_name (i := 5) sc__law_forms.nd rfl (by first | exact .inl rfl | exact .inr rfl) (by decide))) (fun _ _ _ _ _ => (dp_one (dt_cmp (eq_d (u65 hr)) (de_callB lenA_d (by rfl) Z.len (by rfl) (da_cons (de_var 5) da_nil)) (de_var 0)))) (fun _ _ _ _ _ => (de_var 5))) da_nil))) (dg_name (i := 5) sc__law_forms.nd rfl (by first | exact .inl rfl | exact .inr rfl) (by decide)) (ds_one (ds_if (dt_cmp (ninA_d (u66 hr)) (de_var 5) (de_var 4)) (ds_cons (ds_expr (de_app (de_var 3) (da_cons (de_fr (de_var 5)) da_nil)))
    (ds_one (ds_for PassesOwn.never rfl (di_seq (de_call h__law_images hr (by first | omega | decide) (by rfl) (da_cons (de_fr (de_var 5)) da_nil) (aLen_cons aLen_nil))) (dg_name (i := 6) sc__law_forms.nd rfl (by first | exact .inl rfl | exact .inr rfl) (by decide)) (ds_one (ds_asg de_bl (dg_sub (u201 hr) (de_var 4) (de_var 6))))))) ds_nil)))
    (ds_one (ds_ret (de_fr (de_var 3))))))))
theorem ok_steps_of (Z : Zs mg) (D : Dn K mg "steps_of" s_steps_of ["chord"]) : Has P w K mg base 1 "steps_of" ["chord"] F_steps_of :=
  fn_has D sc_steps_of [] g_steps_of fun cdv A outer s H E fA hr =>
    (ds_cons (ds_set (i := 1) sc_steps_of.nd rfl (by first | exact .inl rfl | exact .inr rfl) (by decide) (de_bin mul_d (de_lst (da_cons de_int da_nil)) (de_bin div_d (de_gint (by rfl) Z.c_TONES) de_int)))
    (ds_cons (ds_for PassesOwn.never rfl (di_cmb (by rfl) Z.i_combinations (da_cons (de_var 0) (da_cons de_int da_nil))) (dg_tup rfl (dgs_cons (dg_name (i := 2) sc_steps_of.nd rfl (by first | exact .inl rfl | exact .inr rfl) (by decide)) (dgs_cons (dg_name (i := 3) sc_steps_of.nd rfl (by first | exact .inl rfl | exact .inr rfl) (by decide)) dgs_nil))) (ds_one (ds_augS (u201 hr) (de_var 1) (de_bin sub_d (de_callB (min2_d rfl) (by rfl) Z.min (by rfl) (da_cons (de_bin sub_d (de_var 3) (de_var 2)) (da_cons (de_bin add_d (de_bin sub_d (de_gint (by rfl) Z.c_TONES) (de_var 3)) (de_var 2)) da_nil))) de_int) de_int iadd_d)))
    (ds_one (ds_ret (de_fr (de_callTy tuple_d (by rfl) Z.tuple (by rfl) (da_cons (de_var 1) da_nil)))))))
theorem ok_twins (Z : Zs mg) (D : Dn K mg "twins" s_twins []) (h_all_chords : Has P w K mg base 3 "all_chords" ["size"] F_all_chords) (h_steps_of : Has P w K mg base 1 "steps_of" ["chord"] F_steps_of) : Has P w K mg base 4 "twins" [] F_twins :=
  fn_has D sc_twins [] g_twins fun cdv A outer s H E fA hr =>
    (ds_cons (ds_set (i := 0) sc_twins.nd rfl (by first | exact .inl rfl | exact .inr rfl) (by decide) (de_pk (de_lst da_nil)))
    (ds_cons (ds_for PassesOwn.never rfl (di_range1 (by rfl) Z.range (da_cons (de_bin add_d (de_bin div_d (de_gint (by rfl) Z.c_TONES) de_int) de_int) da_nil)) (dg_name (i := 1) sc_twins.nd rfl (by first | exact .inl rfl | exact .inr rfl) (by decide)) (ds_cons (ds_set (i := 2) sc_twins.nd rfl (by first | exact .inl rfl | exact .inr rfl) (by decide) (de_pk (de_call h_all_chords hr (by first | omega | decide) (by rfl) (da_cons (de_fr (de_var 1)) da_nil) (aLen_cons aLen_nil))))
    (ds_cons (ds_set (i := 3) sc_twins.nd rfl (by first | exact .inl rfl | exact .inr rfl) (by decide) (de_pk (de_lc (own := [(("form" : Str), 4)]) rfl sc_twins.nd (di_seq (de_var 2)) (blkOk_by (by rfl)) (fun _ _ _ _ _ => (dg_name (i := 4) sc_twins.nd rfl (by first | exact .inl rfl | exact .inr rfl) (by decide))) (fun _ _ _ _ _ => dp_nil) (fun _ _ _ _ _ => (de_call h_steps_of hr (by first | omega | decide) (by rfl) (da_cons (de_fr (de_var 4)) da_nil) (aLen_cons aLen_nil))))))
    (ds_one (ds_set (i := 0) sc_twins.nd rfl (by first | exact .inl rfl | exact .inr rfl) (by decide) (de_pk (de_bin add_d (de_var 0) (de_lc2 (own := [(("k" : Str), 5), (("i" : Str), 6)]) (vs1 := [6]) rfl sc_twins.nd (di_range1 (by rfl) Z.range (da_cons (de_callB len_d (by rfl) Z.len (by rfl) (da_cons (de_var 2) da_nil)) da_nil)) (blkOk_by (by rfl)) (fun _ _ _ _ _ => (dg_name (i := 5) sc_twins.nd rfl (by first | exact .inl rfl | exact .inr rfl) (by decide))) (fun _ _ _ _ _ => dp_nil) (fun _ _ _ _ _ => (di_range1 (by rfl) Z.range (da_cons (de_var 5) da_nil))) (fun _ _ _ _ _ => (dg_name (i := 6) sc_twins.nd rfl (by first | exact .inl rfl | exact .inr rfl) (by decide))) (fun _ _ _ _ _ => (dp_one (dt_cmp (eq_d (u65 hr)) (de_ix (ixA_d (u11 hr)) (de_var 3) (de_var 6)) (de_ix (ixA_d (u11 hr)) (de_var 3) (de_var 5))))) (fun _ _ _ _ _ => (de_tup (da_cons (de_fr (de_ix (ixA_d (u11 hr)) (de_var 2) (de_var 6))) (da_cons (de_fr (de_ix (ixA_d (u11 hr)) (de_var 2) (de_var 5))) da_nil))))))))))))
    (ds_one (ds_ret (de_fr (de_callTy tuple_d (by rfl) Z.tuple (by rfl) (da_cons (de_callB (sorted_d (u201 hr)) (by rfl) Z.sorted (by rfl) (da_cons (de_var 0) da_nil)) da_nil)))))))
theorem ok_common_divisor (Z : Zs mg) (D : Dn K mg "common_divisor" s_common_divisor ["a", "b"]) : Has P w K mg base 1 "common_divisor" ["a", "b"] F_common_divisor :=
  fn_has D sc_common_divisor [] g_common_divisor fun cdv A outer s H E fA hr =>
    (ds_cons (ds_par (i := 0) (j := 1) rfl sc_common_divisor.nd rfl rfl (by decide) (by decide) (by decide) rfl rfl (da_cons (de_fr (de_callB abs_d (by rfl) Z.abs (by rfl) (da_cons (de_var 0) da_nil))) (da_cons (de_fr (de_callB abs_d (by rfl) Z.abs (by rfl) (da_cons (de_var 1) da_nil))) da_nil)) (by rfl))
    (ds_cons (ds_while 1048576 PassesOwn.never (dt_truth (de_var 1)) (ds_one (ds_par (i := 0) (j := 1) rfl sc_common_divisor.nd rfl rfl (by decide) (by decide) (by decide) rfl rfl (da_cons (de_fr (de_var 1)) (da_cons (de_fr (de_bin mod_d (de_var 0) (de_var 1))) da_nil)) (by rfl))))
    (ds_one (ds_ret (de_fr (de_var 0))))))
theorem ok_product_of (Z : Zs mg) (D : Dn K mg "product_of" s_product_of ["numbers"]) : Has P w K mg base 1 "product_of" ["numbers"] F_product_of :=
  fn_has D sc_product_of [] g_product_of fun cdv A outer s H E fA hr =>
    (ds_cons (ds_set (i := 1) sc_product_of.nd rfl (by first | exact .inl rfl | exact .inr rfl) (by decide) de_int)
    (ds_cons (ds_for PassesOwn.never rfl (di_seq (de_var 0)) (dg_name (i := 2) sc_product_of.nd rfl (by first | exact .inl rfl | exact .inr rfl) (by decide)) (ds_one (ds_set (i := 1) sc_product_of.nd rfl (by first | exact .inl rfl | exact .inr rfl) (by decide) (de_pk (de_bin mul_d (de_var 1) (de_var 2))))))
    (ds_one (ds_ret (de_fr (de_var 1))))))
theorem ok_factorial (Z : Zs mg) (D : Dn K mg "factorial" s_factorial ["n"]) (h_product_of : Has P w K mg base 1 "product_of" ["numbers"] F_product_of) : Has P w K mg base 2 "factorial" ["n"] F_factorial :=
  fn_has D sc_factorial [] g_factorial fun cdv A outer s H E fA hr =>
    (ds_one (ds_ret (de_fr (de_call h_product_of hr (by first | omega | decide) (by rfl) (da_cons (de_fr (de_lst_rg2 rfl (by rfl) Z.list (by rfl) Z.range de_int (de_bin add_d (de_var 0) de_int))) da_nil) (aLen_cons aLen_nil)))))
theorem ok__choices (Z : Zs mg) (D : Dn K mg "_choices" s__choices ["n", "k"]) (h_factorial : Has P w K mg base 2 "factorial" ["n"] F_factorial) : Has P w K mg base 3 "_choices" ["n", "k"] F__choices :=
  fn_has D sc__choices [] g__choices fun cdv A outer s H E fA hr =>
    (ds_one (ds_ret (de_fr (de_ifExp (dt_chain le_d le_d de_int (de_var 1) (de_var 0)) (de_bin div_d (de_call h_factorial hr (by first | omega | decide) (by rfl) (da_cons (de_fr (de_var 0)) da_nil) (aLen_cons aLen_nil)) (de_bin mul_d (de_call h_factorial hr (by first | omega | decide) (by rfl) (da_cons (de_fr (de_var 1)) da_nil) (aLen_cons aLen_nil)) (de_call h_factorial hr (by first | omega | decide) (by rfl) (da_cons (de_fr (de_bin sub_d (de_var 0) (de_var 1))) da_nil) (aLen_cons aLen_nil)))) de_int))))
theorem ok_count_chords (Z : Zs mg) (D : Dn K mg "count_chords" s_count_chords ["size"]) (h__choices : Has P w K mg base 3 "_choices" ["n", "k"] F__choices) (h_common_divisor : Has P w K mg base 1 "common_divisor" ["a", "b"] F_common_divisor) : Has P w K mg base 4 "count_chords" ["size"] F_count_chords :=
  fn_has D sc_count_chords [] g_count_chords fun cdv A outer s H E fA hr =>
    (ds_cons (ds_set (i := 1) sc_count_chords.nd rfl (by first | exact .inl rfl | exact .inr rfl) (by decide) de_int)
    (ds_cons (ds_for PassesOwn.never rfl (di_range1 (by rfl) Z.range (da_cons (de_gint (by rfl) Z.c_TONES) da_nil)) (dg_name (i := 2) sc_count_chords.nd rfl (by first | exact .inl rfl | exact .inr rfl) (by decide)) (ds_cons (ds_set (i := 3) sc_count_chords.nd rfl (by first | exact .inl rfl | exact .inr rfl) (by decide) (de_pk (de_cp (de_ifExp (dt_cmp gt_d (de_var 2) de_int) (de_fr (de_call h_common_divisor hr (by first | omega | decide) (by rfl) (da_cons (de_fr (de_var 2)) (da_cons (de_fr (de_gint (by rfl) Z.c_TONES)) da_nil)) (aLen_cons (aLen_cons aLen_nil)))) (de_fr (de_gint (by rfl) Z.c_TONES))))))
    (ds_cons (ds_set (i := 4) sc_count_chords.nd rfl (by first | exact .inl rfl | exact .inr rfl) (by decide) (de_bin div_d (de_gint (by rfl) Z.c_TONES) (de_var 3)))
    (ds_cons (ds_if (dt_cmp (eq_d (u65 hr)) (de_bin mod_d (de_var 0) (de_var 4)) de_int) (ds_one (ds_aug (i := 1) sc_count_chords.nd rfl (by first | exact .inl rfl | exact .inr rfl) (by decide) (de_call h__choices hr (by first | omega | decide) (by rfl) (da_cons (de_fr (de_var 3)) (da_cons (de_fr (de_bin div_d (de_var 0) (de_var 4))) da_nil)) (aLen_cons (aLen_cons aLen_nil))) iadd_d)) ds_nil)
    (ds_cons (ds_set (i := 5) sc_count_chords.nd rfl (by first | exact .inl rfl | exact .inr rfl) (by decide) (de_pk (de_cp (de_ifExp (dt_cmp (eq_d (u65 hr)) (de_bin mod_d (de_var 2) de_int) de_int) de_int de_int))))
    (ds_one (ds_for PassesOwn.never rfl (di_range1 (by rfl) Z.range (da_cons (de_bin add_d (de_var 5) de_int) da_nil)) (dg_name (i := 6) sc_count_chords.nd rfl (by first | exact .inl rfl | exact .inr rfl) (by decide)) (ds_one (ds_if (dt_cmp (eq_d (u65 hr)) (de_bin mod_d (de_bin sub_d (de_var 0) (de_var 6)) de_int) de_int) (ds_one (ds_aug (i := 1) sc_count_chords.nd rfl (by first | exact .inl rfl | exact .inr rfl) (by decide) (de_bin mul_d (de_call h__choices hr (by first | omega | decide) (by rfl) (da_cons (de_fr (de_var 5)) (da_cons (de_fr (de_var 6)) da_nil)) (aLen_cons (aLen_cons aLen_nil))) (de_call h__choices hr (by first | omega | decide) (by rfl) (da_cons (de_fr (de_bin div_d (de_bin sub_d (de_gint (by rfl) Z.c_TONES) (de_var 5)) de_int)) (da_cons (de_fr (de_bin div_d (de_bin sub_d (de_var 0) (de_var 6)) de_int)) da_nil)) (aLen_cons (aLen_cons aLen_nil)))) iadd_d)) ds_nil)))))))))
    (ds_one (ds_ret (de_bin div_d (de_var 1) (de_bin mul_d de_int (de_gint (by rfl) Z.c_TONES)))))))
theorem ok__law_plain (Z : Zs mg) (D : Dn K mg "_law_plain" s__law_plain ["thing"]) : ∀ n : Nat, Has P w K mg base (0 + n + 1) "_law_plain" ["thing"] (F__law_plain n)
  | 0 => fn_has D sc__law_plain [] _ fun _ _ _ _ _ _ _ _ => ds_void
  | n + 1 => by
    have h__law_plain := ok__law_plain Z D  n
    exact fn_has D sc__law_plain [] (g__law_plain (F__law_plain n)) fun cdv A outer s H E fA hr =>
    (ds_cons (ds_if (dt_truth (de_isi (T := "tuple") (by decide) (by rfl) Z.isinstance (by rfl) Z.tuple (by rfl) (de_var 0))) (ds_one (ds_ret (de_cmp (eq_d (u65 hr)) (de_lc (own := [(("one" : Str), 1)]) rfl sc__law_plain.nd (di_seq (de_var 0)) (blkOk_by (by rfl)) (fun _ _ _ _ _ => (dg_name (i := 1) sc__law_plain.nd rfl (by first | exact .inl rfl | exact .inr rfl) (by decide))) (fun _ _ _ _ _ => (dp_one (dt_not (dt_truth (de_call h__law_plain hr (by first | omega | decide) (by rfl) (da_cons (de_fr (de_var 1)) da_nil) (aLen_cons aLen_nil)))))) (fun _ _ _ _ _ => (de_var 1))) (de_lst da_nil)))) ds_nil)
    (ds_one (ds_ret (de_fr (de_and (de_isi (T := "int") (by decide) (by rfl) Z.isinstance (by rfl) Z.int (by rfl) (de_var 0)) (de_one (de_not (de_isi (T := "bool") (by decide) (by rfl) Z.isinstance (by rfl) Z.bool (by rfl) (de_var 0)))))))))
theorem ok__law_steps (Z : Zs mg) (D : Dn K mg "_law_steps" s__law_steps ["chord"]) : Has P w K mg base 1 "_law_steps" ["chord"] F__law_steps :=
  fn_has D sc__law_steps [] g__law_steps fun cdv A outer s H E fA hr =>
    (ds_cons (ds_set (i := 1) sc__law_steps.nd rfl (by first | exact .inl rfl | exact .inr rfl) (by decide) (de_bin mul_d (de_lst (da_cons de_int da_nil)) de_int))
    (ds_cons (ds_for PassesOwn.never rfl (di_seq (de_var 0)) (dg_name (i := 2) sc__law_steps.nd rfl (by first | exact .inl rfl | exact .inr rfl) (by decide)) (ds_one (ds_for PassesOwn.never rfl (di_seq (de_var 0)) (dg_name (i := 3) sc__law_steps.nd rfl (by first | exact .inl rfl | exact .inr rfl) (by decide)) (ds_one (ds_if (dt_cmp lt_d (de_var 2) (de_var 3)) (ds_one (ds_augS (u201 hr) (de_var 1) (de_bin sub_d (de_callB (min2_d rfl) (by rfl) Z.min (by rfl) (da_cons (de_bin sub_d (de_var 3) (de_var 2)) (da_cons (de_bin add_d (de_bin sub_d de_int (de_var 3)) (de_var 2)) da_nil))) de_int) de_int iadd_d)) ds_nil)))))
    (ds_one (ds_ret (de_fr (de_callTy tuple_d (by rfl) Z.tuple (by rfl) (da_cons (de_var 1) da_nil)))))))
theorem ok__law_form (Z : Zs mg) (D : Dn K mg "_law_form" s__law_form ["chord"]) (h__law_images : Has P w K mg base 2 "_law_images" ["chord"] F__law_images) : Has P w K mg base 3 "_law_form" ["chord"] F__law_form :=
  fn_has D sc__law_form [] g__law_form fun cdv A outer s H E fA hr =>
    (ds_cons (ds_set (i := 1) sc__law_form.nd rfl (by first | exact .inl rfl | exact .inr rfl) (by decide) (de_pk (de_call h__law_images hr (by first | omega | decide) (by rfl) (da_cons (de_fr (de_var 0)) da_nil) (aLen_cons aLen_nil))))
    (ds_cons (ds_set (i := 2) sc__law_form.nd rfl (by first | exact .inl rfl | exact .inr rfl) (by decide) (de_pk (de_callB (min_d rfl hr.hd (u201 hr)) (by rfl) Z.min (by rfl) (da_cons (de_lc (own := [(("image" : Str), 4)]) rfl sc__law_form.nd (di_seq (de_var 1)) (blkOk_by (by rfl)) (fun _ _ _ _ _ => (dg_name (i := 4) sc__law_form.nd rfl (by first | exact .inl rfl | exact .inr rfl) (by decide))) (fun _ _ _ _ _ => (dp_one (PW.pt (dw_or (dt_cmp (eq_d (u65 hr)) (de_var 0) (de_tup da_nil)) (dw_or1 (dt_cmp (inA_d (u66 hr)) de_int (de_var 4))))))) (fun _ _ _ _ _ => (de_var 4))) da_nil))))
    (ds_cons (ds_set (i := 3) sc__law_form.nd rfl (by first | exact .inl rfl | exact .inr rfl) (by decide) (de_pk (de_idx (u66 hr) (de_var 1) (da_cons (de_fr (de_var 2)) da_nil))))
    (ds_one (ds_ret (de_tup (da_cons (de_fr (de_var 2)) (da_cons (de_fr (de_bin mod_d (de_callTy int_d (by rfl) Z.int (by rfl) (da_cons (de_var 3) da_nil)) de_int)) (da_cons (de_fr (de_bin div_d (de_var 3) de_int)) da_nil)))))))))
theorem ok_law (Z : Zs mg) {fL : Addr} {fdL : FuncData} (D : FunD K "law" "law" (defArgs s_law) (defBody s_law) (defScope s_law) [] [] fL fdL) (h__law_draws : Has P w K mg base 1 "_law_draws" ["script", "many"] F__law_draws) (h__law_form : Has P w K mg base 3 "_law_form" ["chord"] F__law_form) (h__law_forms : Has P w K mg base 3 "_law_forms" ["size"] F__law_forms) (h__law_mirrored : Has P w K mg base 1 "_law_mirrored" ["chord"] F__law_mirrored) (h__law_moved : Has P w K mg base 1 "_law_moved" ["chord", "k"] F__law_moved) (h__law_next : Has P w K mg base 1 "_law_next" ["w", "many"] F__law_next) (h__law_pick : Has P w K mg base 2 "_law_pick" ["w", "rows"] F__law_pick) (h__law_plain : Has P w K mg base 5 "_law_plain" ["thing"] (F__law_plain 4)) (h__law_steps : Has P w K mg base 1 "_law_steps" ["chord"] F__law_steps) (h_all_chords : Has P w K mg base 3 "all_chords" ["size"] F_all_chords) (h_chord_form : Has P w K mg base 2 "chord_form" ["chord"] F_chord_form) (h_count_chords : Has P w K mg base 4 "count_chords" ["size"] F_count_chords) (h_mirrored_chord : Has P w K mg base 1 "mirrored_chord" ["chord"] F_mirrored_chord) (h_moved_chord : Has P w K mg base 1 "moved_chord" ["chord", "k"] F_moved_chord) (h_steps_of : Has P w K mg base 1 "steps_of" ["chord"] F_steps_of) (h_twins : Has P w K mg base 4 "twins" [] F_twins) : FnOk P w K mg base CX0 6 fL fdL ["script"] (spD K 1 F_law) :=
  fn_d (fun_ofD D) sc_law [] g_law (by decide) fun cdv A outer s H E hr =>
    (ds_cons (ds_set (i := 1) sc_law.nd rfl (by first | exact .inl rfl | exact .inr rfl) (by decide) (de_disp (.cons pe_str (de_call h__law_draws hr (by first | omega | decide) (by rfl) (da_cons (de_fr (de_var 0)) (da_cons de_int da_nil)) (aLen_cons (aLen_cons aLen_nil))) (.cons pe_str de_int .nil))))
    (ds_cons (ds_for PassesOwn.never rfl (di_range1 (by rfl) Z.range (da_cons de_int da_nil)) (dg_name (i := 2) sc_law.nd rfl (by first | exact .inl rfl | exact .inr rfl) (by decide)) (ds_cons (ds_set (i := 3) sc_law.nd rfl (by first | exact .inl rfl | exact .inr rfl) (by decide) (de_bin add_d de_int (de_call h__law_next hr (by first | omega | decide) (by rfl) (da_cons (de_var 1) (da_cons de_int da_nil)) (aLen_cons (aLen_cons aLen_nil)))))
    (ds_cons (ds_set (i := 4) sc_law.nd rfl (by first | exact .inl rfl | exact .inr rfl) (by decide) (de_pk (de_callTy tuple_d (by rfl) Z.tuple (by rfl) (da_cons (de_lc (own := [(("tone" : Str), 15)]) rfl sc_law.nd (di_range1 (by rfl) Z.range (da_cons de_int da_nil)) (blkOk_by (by rfl)) (fun _ _ _ _ _ => (dg_name (i := 15) sc_law.nd rfl (by first | exact .inl rfl | exact .inr rfl) (by decide))) (fun _ _ _ _ _ => (dp_one (dt_cmp (eq_d (u65 hr)) (de_call h__law_next hr (by first | omega | decide) (by rfl) (da_cons (de_var 1) (da_cons (de_fr (de_var 3)) da_nil)) (aLen_cons (aLen_cons aLen_nil))) de_int))) (fun _ _ _ _ _ => (de_var 15))) da_nil))))
    (ds_cons (ds_set (i := 5) sc_law.nd rfl (by first | exact .inl rfl | exact .inr rfl) (by decide) (de_pk (de_call h__law_next hr (by first | omega | decide) (by rfl) (da_cons (de_var 1) (da_cons de_int da_nil)) (aLen_cons (aLen_cons aLen_nil)))))
    (ds_cons (ds_set (i := 6) sc_law.nd rfl (by first | exact .inl rfl | exact .inr rfl) (by decide) (de_lst (da_cons (de_tup (da_cons (de_fr (de_call h_moved_chord hr (by first | omega | decide) (by rfl) (da_cons (de_fr (de_var 4)) (da_cons (de_fr (de_var 5)) da_nil)) (aLen_cons (aLen_cons aLen_nil)))) (da_cons (de_fr (de_call h__law_moved hr (by first | omega | decide) (by rfl) (da_cons (de_fr (de_var 4)) (da_cons (de_fr (de_var 5)) da_nil)) (aLen_cons (aLen_cons aLen_nil)))) da_nil))) (da_cons (de_tup (da_cons (de_fr (de_call h_mirrored_chord hr (by first | omega | decide) (by rfl) (da_cons (de_fr (de_var 4)) da_nil) (aLen_cons aLen_nil))) (da_cons (de_fr (de_call h__law_mirrored hr (by first | omega | decide) (by rfl) (da_cons (de_fr (de_var 4)) da_nil) (aLen_cons aLen_nil))) da_nil))) (da_cons (de_tup (da_cons (de_fr (de_call h_steps_of hr (by first | omega | decide) (by rfl) (da_cons (de_fr (de_var 4)) da_nil) (aLen_cons aLen_nil))) (da_cons (de_fr (de_call h__law_steps hr (by first | omega | decide) (by rfl) (da_cons (de_fr (de_var 4)) da_nil) (aLen_cons aLen_nil))) da_nil))) da_nil)))))
    (ds_cons (ds_for PassesOwn.never rfl (di_seq (de_tup (da_cons (de_fr (de_var 4)) (da_cons (de_fr (de_call h__law_moved hr (by first | omega | decide) (by rfl) (da_cons (de_fr (de_call h__law_mirrored hr (by first | omega | decide) (by rfl) (da_cons (de_fr (de_var 4)) da_nil) (aLen_cons aLen_nil))) (da_cons (de_fr (de_var 5)) da_nil)) (aLen_cons (aLen_cons aLen_nil)))) (da_cons (de_fr (de_call h__law_moved hr (by first | omega | decide) (by rfl) (da_cons (de_fr (de_var 4)) (da_cons (de_fr (de_var 5)) da_nil)) (aLen_cons (aLen_cons aLen_nil)))) (da_cons (de_fr (de_callTy tuple_d (by rfl) Z.tuple (by rfl) (da_cons (de_sset (u201 hr) rfl (by rfl) Z.sorted (by rfl) Z.set (de_bin add_d (de_var 4) (de_tup (da_cons (de_fr (de_var 5)) da_nil)))) da_nil))) da_nil)))))) (dg_name (i := 7) sc_law.nd rfl (by first | exact .inl rfl | exact .inr rfl) (by decide)) (ds_one (ds_expr (de_app (de_var 6) (da_cons (de_tup (da_cons (de_fr (de_call h_chord_form hr (by first | omega | decide) (by rfl) (da_cons (de_fr (de_var 7)) da_nil) (aLen_cons aLen_nil))) (da_cons (de_fr (de_call h__law_form hr (by first | omega | decide) (by rfl) (da_cons (de_fr (de_var 7)) da_nil) (aLen_cons aLen_nil))) da_nil))) da_nil)))))
    (ds_one (ds_if (dt_cmp (ne_d (u65 hr)) (de_lc (own := [(("told" : Str), 9), (("due" : Str), 10)]) rfl sc_law.nd (di_seq (de_var 6)) (blkOk_by (by rfl)) (fun _ _ _ _ _ => (dg_tup rfl (dgs_cons (dg_name (i := 9) sc_law.nd rfl (by first | exact .inl rfl | exact .inr rfl) (by decide)) (dgs_cons (dg_name (i := 10) sc_law.nd rfl (by first | exact .inl rfl | exact .inr rfl) (by decide)) dgs_nil)))) (fun _ _ _ _ _ => (dp_one (PW.pt (dw_or (dt_not (dt_truth (de_call h__law_plain hr (by first | omega | decide) (by rfl) (da_cons (de_fr (de_var 9)) da_nil) (aLen_cons aLen_nil)))) (dw_or1 (dt_cmp (ne_d (u65 hr)) (de_var 9) (de_var 10))))))) (fun _ _ _ _ _ => (de_var 9))) (de_lst da_nil)) (ds_one (ds_ret de_bl)) ds_nil))))))))
    (ds_cons (ds_set (i := 8) sc_law.nd rfl (by first | exact .inl rfl | exact .inr rfl) (by decide) (de_pk (de_call h__law_pick hr (by first | omega | decide) (by rfl) (da_cons (de_var 1) (da_cons (de_fr (de_lst (da_cons de_int (da_cons de_int (da_cons de_int (da_cons de_int (da_cons de_int (da_cons de_int (da_cons de_int (da_cons de_int (da_cons de_int (da_cons de_int da_nil)))))))))))) da_nil)) (aLen_cons (aLen_cons aLen_nil)))))
    (ds_cons (ds_par (i := 9) (j := 10) rfl sc_law.nd rfl rfl (by decide) (by decide) (by decide) rfl rfl (da_cons (de_fr (de_call h_all_chords hr (by first | omega | decide) (by rfl) (da_cons (de_fr (de_var 8)) da_nil) (aLen_cons aLen_nil))) (da_cons (de_fr (de_call h__law_forms hr (by first | omega | decide) (by rfl) (da_cons (de_fr (de_var 8)) da_nil) (aLen_cons aLen_nil))) da_nil)) (by rfl))
    (ds_cons (ds_if (PW.pt (dw_or (dt_not (dt_truth (de_call h__law_plain hr (by first | omega | decide) (by rfl) (da_cons (de_fr (de_var 9)) da_nil) (aLen_cons aLen_nil)))) (dw_or (dt_cmp (ne_d (u65 hr)) (de_callTy list_d (by rfl) Z.list (by rfl) (da_cons (de_var 9) da_nil)) (de_var 10)) (dw_or1 (dt_cmp (ne_d (u65 hr)) (de_call h_count_chords hr (by first | omega | decide) (by rfl) (da_cons (de_fr (de_var 8)) da_nil) (aLen_cons aLen_nil)) (de_callB len_d (by rfl) Z.len (by rfl) (da_cons (de_var 10) da_nil))))))) (ds_one (ds_ret de_bl)) ds_nil)
    (ds_cons (ds_if (dt_cmp (eq_d (u65 hr)) (de_call h__law_next hr (by first | omega | decide) (by rfl) (da_cons (de_var 1) (da_cons de_int da_nil)) (aLen_cons (aLen_cons aLen_nil))) de_int) (ds_cons (ds_set (i := 11) sc_law.nd rfl (by first | exact .inl rfl | exact .inr rfl) (by decide) (de_pk (de_lst da_nil)))
    (ds_cons (ds_for PassesOwn.never rfl (di_range1 (by rfl) Z.range (da_cons de_int da_nil)) (dg_name (i := 12) sc_law.nd rfl (by first | exact .inl rfl | exact .inr rfl) (by decide)) (ds_cons (ds_set (i := 13) sc_law.nd rfl (by first | exact .inl rfl | exact .inr rfl) (by decide) (de_pk (de_call h__law_forms hr (by first | omega | decide) (by rfl) (da_cons (de_fr (de_var 12)) da_nil) (aLen_cons aLen_nil))))
    (ds_cons (ds_set (i := 14) sc_law.nd rfl (by first | exact .inl rfl | exact .inr rfl) (by decide) (de_pk (de_lc (own := [(("form" : Str), 16)]) rfl sc_law.nd (di_seq (de_var 13)) (blkOk_by (by rfl)) (fun _ _ _ _ _ => (dg_name (i := 16) sc_law.nd rfl (by first | exact .inl rfl | exact .inr rfl) (by decide))) (fun _ _ _ _ _ => dp_nil) (fun _ _ _ _ _ => (de_call h__law_steps hr (by first | omega | decide) (by rfl) (da_cons (de_fr (de_var 16)) da_nil) (aLen_cons aLen_nil))))))
    (ds_one (ds_for PassesOwn.never rfl (di_range1 (by rfl) Z.range (da_cons (de_callB len_d (by rfl) Z.len (by rfl) (da_cons (de_var 13) da_nil)) da_nil)) (dg_name (i := 5) sc_law.nd rfl (by first | exact .inl rfl | exact .inr rfl) (by decide)) (ds_one (ds_set (i := 11) sc_law.nd rfl (by first | exact .inl rfl | exact .inr rfl) (by decide) (de_pk (de_bin add_d (de_var 11) (de_lc (own := [(("j" : Str), 17)]) rfl sc_law.nd (di_range1 (by rfl) Z.range (da_cons (de_var 5) da_nil)) (blkOk_by (by rfl)) (fun _ _ _ _ _ => (dg_name (i := 17) sc_law.nd rfl (by first | exact .inl rfl | exact .inr rfl) (by decide))) (fun _ _ _ _ _ => (dp_one (dt_cmp (eq_d (u65 hr)) (de_ix (ixA_d (u11 hr)) (de_var 14) (de_var 17)) (de_ix (ixA_d (u11 hr)) (de_var 14) (de_var 5))))) (fun _ _ _ _ _ => (de_tup (da_cons (de_fr (de_ix (ixA_d (u11 hr)) (de_var 13) (de_var 17))) (da_cons (de_fr (de_ix (ixA_d (u11 hr)) (de_var 13) (de_var 5))) da_nil))))))))))))))
    (ds_cons (ds_set (i := 9) sc_law.nd rfl (by first | exact .inl rfl | exact .inr rfl) (by decide) (de_pk (de_call0 h_twins hr (by first | omega | decide) (by rfl))))
    (ds_one (ds_ret (de_fr (de_and (de_call h__law_plain hr (by first | omega | decide) (by rfl) (da_cons (de_fr (de_var 9)) da_nil) (aLen_cons aLen_nil)) (de_one (de_cmp (eq_d (u65 hr)) (de_callTy list_d (by rfl) Z.list (by rfl) (da_cons (de_var 9) da_nil)) (de_callB (sorted_d (u201 hr)) (by rfl) Z.sorted (by rfl) (da_cons (de_var 11) da_nil))))))))))) ds_nil)
    (ds_cons (ds_set (i := 8) sc_law.nd rfl (by first | exact .inl rfl | exact .inr rfl) (by decide) (de_pk (de_call h__law_next hr (by first | omega | decide) (by rfl) (da_cons (de_var 1) (da_cons de_int da_nil)) (aLen_cons (aLen_cons aLen_nil)))))
    (ds_one (ds_ret (de_cmp (eq_d (u65 hr)) (de_call h_count_chords hr (by first | omega | decide) (by rfl) (da_cons (de_fr (de_var 8)) da_nil) (aLen_cons aLen_nil)) (de_call h_count_chords hr (by first | omega | decide) (by rfl) (da_cons (de_fr (de_bin sub_d de_int (de_var 8))) da_nil) (aLen_cons aLen_nil))))))))))))
end
/-! the head -/
def d__law_next : He.DefD := ⟨("_law_next", none), "_law_next", "_law_next", defArgs s__law_next, defBody s__law_next, defScope s__law_next, [], []⟩
def d__law_pick : He.DefD := ⟨("_law_pick", none), "_law_pick", "_law_pick", defArgs s__law_pick, defBody s__law_pick, defScope s__law_pick, [], []⟩
def d__law_draws : He.DefD := ⟨("_law_draws", none), "_law_draws", "_law_draws", defArgs s__law_draws, defBody s__law_draws, defScope s__law_draws, [], []⟩
def d_moved_chord : He.DefD := ⟨("moved_chord", none), "moved_chord", "moved_chord", defArgs s_moved_chord, defBody s_moved_chord, defScope s_moved_chord, [], []⟩
def d_mirrored_chord : He.DefD := ⟨("mirrored_chord", none), "mirrored_chord", "mirrored_chord", defArgs s_mirrored_chord, defBody s_mirrored_chord, defScope s_mirrored_chord, [], []⟩
def d_chord_form : He.DefD := ⟨("chord_form", none), "chord_form", "chord_form", defArgs s_chord_form, defBody s_chord_form, defScope s_chord_form, [], []⟩
def d_all_chords : He.DefD := ⟨("all_chords", none), "all_chords", "all_chords", defArgs s_all_chords, defBody s_all_chords, defScope s_all_chords, [], []⟩
def d__law_moved : He.DefD := ⟨("_law_moved", none), "_law_moved", "_law_moved", defArgs s__law_moved, defBody s__law_moved, defScope s__law_moved, [], []⟩
def d__law_mirrored : He.DefD := ⟨("_law_mirrored", none), "_law_mirrored", "_law_mirrored", defArgs s__law_mirrored, defBody s__law_mirrored, defScope s__law_mirrored, [], []⟩
def d__law_images : He.DefD := ⟨("_law_images", none), "_law_images", "_law_images", defArgs s__law_images, defBody s__law_images, defScope s__law_images, [], []⟩
def d__law_forms : He.DefD := ⟨("_law_forms", none), "_law_forms", "_law_forms", defArgs s__law_forms, defBody s__law_forms, defScope s__law_forms, [], []⟩
def d_steps_of : He.DefD := ⟨("steps_of", none), "steps_of", "steps_of", defArgs s_steps_of, defBody s_steps_of, defScope s_steps_of, [], []⟩
def d_twins : He.DefD := ⟨("twins", none), "twins", "twins", defArgs s_twins, defBody s_twins, defScope s_twins, [], []⟩
def d_common_divisor : He.DefD := ⟨("common_divisor", none), "common_divisor", "common_divisor", defArgs s_common_divisor, defBody s_common_divisor, defScope s_common_divisor, [], []⟩
def d_product_of : He.DefD := ⟨("product_of", none), "product_of", "product_of", defArgs s_product_of, defBody s_product_of, defScope s_product_of, [], []⟩
def d_factorial : He.DefD := ⟨("factorial", none), "factorial", "factorial", defArgs s_factorial, defBody s_factorial, defScope s_factorial, [], []⟩
def d__choices : He.DefD := ⟨("_choices", none), "_choices", "_choices", defArgs s__choices, defBody s__choices, defScope s__choices, [], []⟩
def d_count_chords : He.DefD := ⟨("count_chords", none), "count_chords", "count_chords", defArgs s_count_chords, defBody s_count_chords, defScope s_count_chords, [], []⟩
def d__law_plain : He.DefD := ⟨("_law_plain", none), "_law_plain", "_law_plain", defArgs s__law_plain, defBody s__law_plain, defScope s__law_plain, [], []⟩
def d__law_steps : He.DefD := ⟨("_law_steps", none), "_law_steps", "_law_steps", defArgs s__law_steps, defBody s__law_steps, defScope s__law_steps, [], []⟩
def d__law_form : He.DefD := ⟨("_law_form", none), "_law_form", "_law_form", defArgs s__law_form, defBody s__law_form, defScope s__law_form, [], []⟩
def d_law : He.DefD := ⟨("law", none), "law", "law", defArgs s_law, defBody s_law, defScope s_law, [], []⟩
def fn : List He.DefD := [d__law_next, d__law_pick, d__law_draws, d_moved_chord, d_mirrored_chord, d_chord_form, d_all_chords, d__law_moved, d__law_mirrored, d__law_images, d__law_forms, d_steps_of, d_twins, d_common_divisor, d_product_of, d_factorial, d__choices, d_count_chords, d__law_plain, d__law_steps, d__law_form, d_law]
def fa0 : List He.Fa := [.glo "_law_next", .glo "_law_pick", .glo "_law_draws", .glo "moved_chord", .glo "mirrored_chord", .glo "chord_form", .glo "all_chords", .glo "_law_moved", .glo "_law_mirrored", .glo "_law_images", .glo "_law_forms", .glo "steps_of", .glo "twins", .glo "common_divisor", .glo "product_of", .glo "factorial", .glo "_choices", .glo "count_chords", .glo "_law_plain", .glo "_law_steps", .glo "_law_form", .glo "law", .free "abs", .free "bool", .free "int", .free "isinstance", .free "len", .free "list", .free "min", .free "range"]
def fa1 : List He.Fa := [.free "set", .free "sorted", .free "tuple", .int "TONES" 12]
def fa : List He.Fa := fa0 ++ fa1
def loose : List PySem.Str := ["common_divisor", "product_of", "factorial", "moved_chord", "mirrored_chord", "chord_form", "steps_of", "all_chords", "_choices", "count_chords", "twins", "_law_draws", "_law_next", "_law_pick", "_law_plain", "_law_moved", "_law_mirrored", "_law_images", "_law_form", "_law_steps", "_law_forms", "TONES"]
abbrev R : PySem.W.OpenRow := PySem.W.OpenLaw.row PySem.Challenge.rw_turnwarrant_k89_whole_chords
def exI (K : PySem.W.Frag) : Bool := isTy "combinations" "itertools.combinations" K
abbrev hk : PySem.W.Hook := hookI 4 fa fn exI
def ob (s : PySem.W.SharedT) : He.AlD × Bool := obsI 4 fa fn exI (HandSHeadRun.getT s)
theorem ob_eq (s : PySem.W.SharedT) : ob s = hk.obs s.abs := obsI_eq (HandSHeadRun.getT_eq s)
theorem run (w : World) : HandSHeadRun.RunEqI R (PySem.W.view R.prog [0, 26]) hk ob 1680 loose w := by
  unfold HandSHeadRun.RunEqI
  kernel_rfl
theorem facts {P : Program} {w : World} {K : PySem.W.Frag} {h : Heap} {mg : Str → Option Value} {f : Addr} (X : K.In h) (G : h.Ns mainGlobals mg) (hfa : mg ("law" : Str) = some (.ref f)) (c : He.SaysD fa fn K) (cx : exI K = true) :
    ∃ fd : FuncData, (∀ (s : Shared) (v : Value), BindsTo s fd ⟨[v], []⟩ [("script", v)]) ∧ ∀ base : Heap, K.In base → base.Ns mainGlobals mg → FnOk P w K mg base CX0 6 f fd ["script"] (spD K 1 F_law) := by
  have Z : Zs mg := ⟨He.free_ok X G (c.fact 22 (f := .free "abs") rfl), He.free_ok X G (c.fact 23 (f := .free "bool") rfl), He.free_ok X G (c.fact 24 (f := .free "int") rfl), He.free_ok X G (c.fact 25 (f := .free "isinstance") rfl), He.free_ok X G (c.fact 26 (f := .free "len") rfl), He.free_ok X G (c.fact 27 (f := .free "list") rfl), He.free_ok X G (c.fact 28 (f := .free "min") rfl), He.free_ok X G (c.fact 29 (f := .free "range") rfl), He.free_ok X G (c.fact 30 (f := .free "set") rfl), He.free_ok X G (c.fact 31 (f := .free "sorted") rfl), He.free_ok X G (c.fact 32 (f := .free "tuple") rfl), He.int_ok X G (c.fact 33 (f := .int "TONES" 12) rfl), isTy_ok X G cx⟩
  have D__law_next : Dn K mg "_law_next" s__law_next ["w", "many"] := by
    obtain ⟨fd, F⟩ := c.def_ 0 (d := d__law_next) rfl
    exact dn_mk F (He.glo_ok X G (c.fact 0 (f := .glo "_law_next") rfl)) fun _ _ _ _ _ _ us hl => match us, hl with | [_, _], _ => rfl
  have D__law_pick : Dn K mg "_law_pick" s__law_pick ["w", "rows"] := by
    obtain ⟨fd, F⟩ := c.def_ 1 (d := d__law_pick) rfl
    exact dn_mk F (He.glo_ok X G (c.fact 1 (f := .glo "_law_pick") rfl)) fun _ _ _ _ _ _ us hl => match us, hl with | [_, _], _ => rfl
  have D__law_draws : Dn K mg "_law_draws" s__law_draws ["script", "many"] := by
    obtain ⟨fd, F⟩ := c.def_ 2 (d := d__law_draws) rfl
    exact dn_mk F (He.glo_ok X G (c.fact 2 (f := .glo "_law_draws") rfl)) fun _ _ _ _ _ _ us hl => match us, hl with | [_, _], _ => rfl
  have D_moved_chord : Dn K mg "moved_chord" s_moved_chord ["chord", "k"] := by
    obtain ⟨fd, F⟩ := c.def_ 3 (d := d_moved_chord) rfl
    exact dn_mk F (He.glo_ok X G (c.fact 3 (f := .glo "moved_chord") rfl)) fun _ _ _ _ _ _ us hl => match us, hl with | [_, _], _ => rfl
  have D_mirrored_chord : Dn K mg "mirrored_chord" s_mirrored_chord ["chord"] := by
    obtain ⟨fd, F⟩ := c.def_ 4 (d := d_mirrored_chord) rfl
    exact dn_mk F (He.glo_ok X G (c.fact 4 (f := .glo "mirrored_chord") rfl)) fun _ _ _ _ _ _ us hl => match us, hl with | [_], _ => rfl
  have D_chord_form : Dn K mg "chord_form" s_chord_form ["chord"] := by
    obtain ⟨fd, F⟩ := c.def_ 5 (d := d_chord_form) rfl
    exact dn_mk F (He.glo_ok X G (c.fact 5 (f := .glo "chord_form") rfl)) fun _ _ _ _ _ _ us hl => match us, hl with | [_], _ => rfl
  have D_all_chords : Dn K mg "all_chords" s_all_chords ["size"] := by
    obtain ⟨fd, F⟩ := c.def_ 6 (d := d_all_chords) rfl
    exact dn_mk F (He.glo_ok X G (c.fact 6 (f := .glo "all_chords") rfl)) fun _ _ _ _ _ _ us hl => match us, hl with | [_], _ => rfl
  have D__law_moved : Dn K mg "_law_moved" s__law_moved ["chord", "k"] := by
    obtain ⟨fd, F⟩ := c.def_ 7 (d := d__law_moved) rfl
    exact dn_mk F (He.glo_ok X G (c.fact 7 (f := .glo "_law_moved") rfl)) fun _ _ _ _ _ _ us hl => match us, hl with | [_, _], _ => rfl
  have D__law_mirrored : Dn K mg "_law_mirrored" s__law_mirrored ["chord"] := by
    obtain ⟨fd, F⟩ := c.def_ 8 (d := d__law_mirrored) rfl
    exact dn_mk F (He.glo_ok X G (c.fact 8 (f := .glo "_law_mirrored") rfl)) fun _ _ _ _ _ _ us hl => match us, hl with | [_], _ => rfl
  have D__law_images : Dn K mg "_law_images" s__law_images ["chord"] := by
    obtain ⟨fd, F⟩ := c.def_ 9 (d := d__law_images) rfl
    exact dn_mk F (He.glo_ok X G (c.fact 9 (f := .glo "_law_images") rfl)) fun _ _ _ _ _ _ us hl => match us, hl with | [_], _ => rfl
  have D__law_forms : Dn K mg "_law_forms" s__law_forms ["size"] := by
    obtain ⟨fd, F⟩ := c.def_ 10 (d := d__law_forms) rfl
    exact dn_mk F (He.glo_ok X G (c.fact 10 (f := .glo "_law_forms") rfl)) fun _ _ _ _ _ _ us hl => match us, hl with | [_], _ => rfl
  have D_steps_of : Dn K mg "steps_of" s_steps_of ["chord"] := by
    obtain ⟨fd, F⟩ := c.def_ 11 (d := d_steps_of) rfl
    exact dn_mk F (He.glo_ok X G (c.fact 11 (f := .glo "steps_of") rfl)) fun _ _ _ _ _ _ us hl => match us, hl with | [_], _ => rfl
  have D_twins : Dn K mg "twins" s_twins [] := by
    obtain ⟨fd, F⟩ := c.def_ 12 (d := d_twins) rfl
    exact dn_mk F (He.glo_ok X G (c.fact 12 (f := .glo "twins") rfl)) fun _ _ _ _ _ _ us hl => match us, hl with | [], _ => rfl
  have D_common_divisor : Dn K mg "common_divisor" s_common_divisor ["a", "b"] := by
    obtain ⟨fd, F⟩ := c.def_ 13 (d := d_common_divisor) rfl
    exact dn_mk F (He.glo_ok X G (c.fact 13 (f := .glo "common_divisor") rfl)) fun _ _ _ _ _ _ us hl => match us, hl with | [_, _], _ => rfl
  have D_product_of : Dn K mg "product_of" s_product_of ["numbers"] := by
    obtain ⟨fd, F⟩ := c.def_ 14 (d := d_product_of) rfl
    exact dn_mk F (He.glo_ok X G (c.fact 14 (f := .glo "product_of") rfl)) fun _ _ _ _ _ _ us hl => match us, hl with | [_], _ => rfl
  have D_factorial : Dn K mg "factorial" s_factorial ["n"] := by
    obtain ⟨fd, F⟩ := c.def_ 15 (d := d_factorial) rfl
    exact dn_mk F (He.glo_ok X G (c.fact 15 (f := .glo "factorial") rfl)) fun _ _ _ _ _ _ us hl => match us, hl with | [_], _ => rfl
  have D__choices : Dn K mg "_choices" s__choices ["n", "k"] := by
    obtain ⟨fd, F⟩ := c.def_ 16 (d := d__choices) rfl
    exact dn_mk F (He.glo_ok X G (c.fact 16 (f := .glo "_choices") rfl)) fun _ _ _ _ _ _ us hl => match us, hl with | [_, _], _ => rfl
  have D_count_chords : Dn K mg "count_chords" s_count_chords ["size"] := by
    obtain ⟨fd, F⟩ := c.def_ 17 (d := d_count_chords) rfl
    exact dn_mk F (He.glo_ok X G (c.fact 17 (f := .glo "count_chords") rfl)) fun _ _ _ _ _ _ us hl => match us, hl with | [_], _ => rfl
  have D__law_plain : Dn K mg "_law_plain" s__law_plain ["thing"] := by
    obtain ⟨fd, F⟩ := c.def_ 18 (d := d__law_plain) rfl
    exact dn_mk F (He.glo_ok X G (c.fact 18 (f := .glo "_law_plain") rfl)) fun _ _ _ _ _ _ us hl => match us, hl with | [_], _ => rfl
  have D__law_steps : Dn K mg "_law_steps" s__law_steps ["chord"] := by
    obtain ⟨fd, F⟩ := c.def_ 19 (d := d__law_steps) rfl
    exact dn_mk F (He.glo_ok X G (c.fact 19 (f := .glo "_law_steps") rfl)) fun _ _ _ _ _ _ us hl => match us, hl with | [_], _ => rfl
  have D__law_form : Dn K mg "_law_form" s__law_form ["chord"] := by
    obtain ⟨fd, F⟩ := c.def_ 20 (d := d__law_form) rfl
    exact dn_mk F (He.glo_ok X G (c.fact 20 (f := .glo "_law_form") rfl)) fun _ _ _ _ _ _ us hl => match us, hl with | [_], _ => rfl
  obtain ⟨fd, F⟩ := c.def_ 21 (d := d_law) rfl
  have e := hfa.symm.trans (He.glo_ok X G (c.fact 21 (f := .glo "law") rfl))
  cases e
  have b := FunD.bindsA (ps := ["script"]) F fun _ _ _ _ _ _ us hl => match us, hl with | [_], _ => rfl
  refine ⟨fd, fun s v => b s [v] rfl, fun base _ _ => ?_⟩
  have h__law_next : Has P w K mg base 1 "_law_next" _ _ := ok__law_next Z D__law_next 
  have h__law_pick : Has P w K mg base 2 "_law_pick" _ _ := ok__law_pick Z D__law_pick h__law_next
  have h__law_draws : Has P w K mg base 1 "_law_draws" _ _ := ok__law_draws Z D__law_draws 
  have h_moved_chord : Has P w K mg base 1 "moved_chord" _ _ := ok_moved_chord Z D_moved_chord 
  have h_mirrored_chord : Has P w K mg base 1 "mirrored_chord" _ _ := ok_mirrored_chord Z D_mirrored_chord 
  have h_chord_form : Has P w K mg base 2 "chord_form" _ _ := ok_chord_form Z D_chord_form h_mirrored_chord h_moved_chord
  have h_all_chords : Has P w K mg base 3 "all_chords" _ _ := ok_all_chords Z D_all_chords h_chord_form
  have h__law_moved : Has P w K mg base 1 "_law_moved" _ _ := ok__law_moved Z D__law_moved 
  have h__law_mirrored : Has P w K mg base 1 "_law_mirrored" _ _ := ok__law_mirrored Z D__law_mirrored 
  have h__law_images : Has P w K mg base 2 "_law_images" _ _ := ok__law_images Z D__law_images h__law_mirrored h__law_moved
  have h__law_forms : Has P w K mg base 3 "_law_forms" _ _ := ok__law_forms Z D__law_forms h__law_images
  have h_steps_of : Has P w K mg base 1 "steps_of" _ _ := ok_steps_of Z D_steps_of 
  have h_twins : Has P w K mg base 4 "twins" _ _ := ok_twins Z D_twins h_all_chords h_steps_of
  have h_common_divisor : Has P w K mg base 1 "common_divisor" _ _ := ok_common_divisor Z D_common_divisor 
  have h_product_of : Has P w K mg base 1 "product_of" _ _ := ok_product_of Z D_product_of 
  have h_factorial : Has P w K mg base 2 "factorial" _ _ := ok_factorial Z D_factorial h_product_of
  have h__choices : Has P w K mg base 3 "_choices" _ _ := ok__choices Z D__choices h_factorial
  have h_count_chords : Has P w K mg base 4 "count_chords" _ _ := ok_count_chords Z D_count_chords h__choices h_common_divisor
  have h__law_plain : Has P w K mg base 5 "_law_plain" _ _ := ok__law_plain Z D__law_plain  4
  have h__law_steps : Has P w K mg base 1 "_law_steps" _ _ := ok__law_steps Z D__law_steps 
  have h__law_form : Has P w K mg base 3 "_law_form" _ _ := ok__law_form Z D__law_form h__law_images
  exact ok_law Z F h__law_draws h__law_form h__law_forms h__law_mirrored h__law_moved h__law_next h__law_pick h__law_plain h__law_steps h_all_chords h_chord_form h_count_chords h_mirrored_chord h_moved_chord h_steps_of h_twins
end K89

set_option Elab.async false
set_option linter.all false
set_option autoImplicit false
set_option maxRecDepth 100000
set_option maxHeartbeats 4000000
namespace K89
open PySem PySem.Spec PyProof.Rows L2 DL
theorem next_same : F__law_next = nextF := rfl
theorem pick_same : F__law_pick = pickF := rfl
/-! moved_chord -/
def t_moved_chord (a_chord : (List Int)) (a_k : Int) : Option (List Int) :=
(szO (mapO (fun (x2 : Int) => some ((x2 + a_k) % 12)) a_chord)).bind fun y3 =>
(srtO eI y3).bind fun v4 =>
some v4
theorem sim_moved_chord {a_chord : (List Int)} {a_k : Int} {r : (List Int)} (h : t_moved_chord a_chord a_k = some r) : F_moved_chord [.sh ((eT eI) a_chord), .sh (eI a_k)] = some (.sh ((eT eI) r), [.sh ((eT eI) a_chord), .sh (eI a_k)]) := by
  unfold t_moved_chord at h
  refine run_wp rfl (fun i => by intro z; cases z) ?_
  show Wp (g_moved_chord [.sh ((eT eI) a_chord), .sh (eI a_k), .no]) _
  unfold g_moved_chord
  obtain ⟨y3, hy3, h⟩ := bnd h
  obtain ⟨v4, hv4, h⟩ := bnd h
  refine wp_ret (fr_s (call_s (ac_ (call_o (ac_ (lm_ (W := [.sh ((eT eI) a_chord), .sh (eI a_k), .no]) (e := eI) (e' := eI) (iseq_t (e := eI) (fr_s ev_0)) rfl rfl (fun x2 _ _ h => by rw [← Option.some.inj h]; exact ⟨[.sh ((eT eI) a_chord), .sh (eI a_k), .sh (eI x2)], [.sh ((eT eI) a_chord), .sh (eI a_k), .sh (eI x2)], rfl, (fr_s (bin_s (bin_s ev_2 ev_1 (add_i _ _)) (ec _ _) (mod_l _ _))), rfl⟩) hy3) (an_ _)) rfl (srt_e hv4)) (an_ _)) rfl (tupL_e (e := eI) v4))) ?_
  cases h
  exact rt_i rfl rfl
/-! mirrored_chord -/
def t_mirrored_chord (a_chord : (List Int)) : Option (List Int) :=
(szO (mapO (fun (x2 : Int) => some ((-x2) % 12)) a_chord)).bind fun y3 =>
(srtO eI y3).bind fun v4 =>
some v4
theorem sim_mirrored_chord {a_chord : (List Int)} {r : (List Int)} (h : t_mirrored_chord a_chord = some r) : F_mirrored_chord [.sh ((eT eI) a_chord)] = some (.sh ((eT eI) r), [.sh ((eT eI) a_chord)]) := by
  unfold t_mirrored_chord at h
  refine run_wp rfl (fun i => by intro z; cases z) ?_
  show Wp (g_mirrored_chord [.sh ((eT eI) a_chord), .no]) _
  unfold g_mirrored_chord
  obtain ⟨y3, hy3, h⟩ := bnd h
  obtain ⟨v4, hv4, h⟩ := bnd h
  refine wp_ret (fr_s (call_s (ac_ (call_o (ac_ (lm_ (W := [.sh ((eT eI) a_chord), .no]) (e := eI) (e' := eI) (iseq_t (e := eI) (fr_s ev_0)) rfl rfl (fun x2 _ _ h => by rw [← Option.some.inj h]; exact ⟨[.sh ((eT eI) a_chord), .sh (eI x2)], [.sh ((eT eI) a_chord), .sh (eI x2)], rfl, (fr_s (bin_s (un_gs ev_1 rfl (neg_i _)) (ec _ _) (mod_l _ _))), rfl⟩) hy3) (an_ _)) rfl (srt_e hv4)) (an_ _)) rfl (tupL_e (e := eI) v4))) ?_
  cases h
  exact rt_i rfl rfl
/-! chord_form -/
def t_chord_form (a_chord : (List Int)) : Option ((List Int) × Int × Int) :=
(szO (mapO (fun (x2 : Int) => (t_moved_chord a_chord x2).bind fun v3 => some (v3, 0, x2)) (rangeI 0 (Int.toNat 12)))).bind fun y4 =>
(szO (mapO (fun (x6 : Int) => (t_mirrored_chord a_chord).bind fun v7 => (t_moved_chord v7 x6).bind fun v8 => some (v8, 1, x6)) (rangeI 0 (Int.toNat 12)))).bind fun y9 =>
(plusO y4 y9).bind fun v10 =>
(minO (e3 (eT eI) eI eI) v10).bind fun v11 =>
some (v11.1, v11.2.2, v11.2.1)
theorem sim_chord_form {a_chord : (List Int)} {r : ((List Int) × Int × Int)} (h : t_chord_form a_chord = some r) : F_chord_form [.sh ((eT eI) a_chord)] = some (.sh ((e3 (eT eI) eI eI) r), [.sh ((eT eI) a_chord)]) := by
  unfold t_chord_form at h
  refine run_wp rfl (fun i => by intro z; cases z) ?_
  show Wp (g_chord_form [.sh ((eT eI) a_chord), .no, .no, .no, .no]) _
  unfold g_chord_form
  obtain ⟨y4, hy4, h⟩ := bnd h
  refine wp_seq (ρ1 := [.sh ((eT eI) a_chord), .sh ((eL (e3 (eT eI) eI eI)) y4), .no, .no, .no]) (set_s (pk_o (lm_ (W := [.sh ((eT eI) a_chord), .no, .no, .no, .no]) (e := eI) (e' := (e3 (eT eI) eI eI)) (irng_ (e := eI) (ac_ (ec _ _) (an_ _)) rfl (rng1_l _)) rfl rfl (fun x2 _ _ h => by obtain ⟨v3, hv3, h⟩ := bnd h; rw [← Option.some.inj h]; exact ⟨[.sh ((eT eI) a_chord), .no, .no, .no, .sh (eI x2)], [.sh ((eT eI) a_chord), .no, .no, .no, .sh (eI x2)], rfl, (fr_s (tup_ (ac_ (fr_s (fn_s (ρ2 := [.sh ((eT eI) a_chord), .no, .no, .no, .sh (eI x2)]) (ac_ (fr_s ev_0) (ac_ (fr_s ev_4) (an_ _))) rfl rfl (sim_moved_chord (a_chord := a_chord) (a_k := x2) hv3) rfl)) (ac_ (ec _ _) (ac_ (fr_s ev_4) (an_ _)))) rfl (few' rfl))), rfl⟩) hy4))) ?_
  obtain ⟨y9, hy9, h⟩ := bnd h
  obtain ⟨v10, hv10, h⟩ := bnd h
  refine wp_seq (ρ1 := [.sh ((eT eI) a_chord), .sh ((eL (e3 (eT eI) eI eI)) v10), .no, .no, .no]) (set_s (pk_o (bin_go (pk_s ev_1) (pk_o (lm_ (W := [.sh ((eT eI) a_chord), .sh ((eL (e3 (eT eI) eI eI)) y4), .no, .no, .no]) (e := eI) (e' := (e3 (eT eI) eI eI)) (irng_ (e := eI) (ac_ (ec _ _) (an_ _)) rfl (rng1_l _)) rfl rfl (fun x6 _ _ h => by obtain ⟨v7, hv7, h⟩ := bnd h; obtain ⟨v8, hv8, h⟩ := bnd h; rw [← Option.some.inj h]; exact ⟨[.sh ((eT eI) a_chord), .sh ((eL (e3 (eT eI) eI eI)) y4), .no, .no, .sh (eI x6)], [.sh ((eT eI) a_chord), .sh ((eL (e3 (eT eI) eI eI)) y4), .no, .no, .sh (eI x6)], rfl, (fr_s (tup_ (ac_ (fr_s (fn_s (ρ2 := [.sh ((eT eI) a_chord), .sh ((eL (e3 (eT eI) eI eI)) y4), .no, .no, .sh (eI x6)]) (ac_ (fr_s (fn_s (ρ2 := [.sh ((eT eI) a_chord), .sh ((eL (e3 (eT eI) eI eI)) y4), .no, .no, .sh (eI x6)]) (ac_ (fr_s ev_0) (an_ _)) rfl rfl (sim_mirrored_chord (a_chord := a_chord) hv7) rfl)) (ac_ (fr_s ev_4) (an_ _))) rfl rfl (sim_moved_chord (a_chord := v7) (a_k := x6) hv8) rfl)) (ac_ (ec _ _) (ac_ (fr_s ev_4) (an_ _)))) rfl (few' rfl))), rfl⟩) hy9)) rfl rfl (plusL_e (e := (e3 (eT eI) eI eI)) hv10)))) ?_
  obtain ⟨v11, hv11, h⟩ := bnd h
  refine wp_seq (ρ1 := [.sh ((eT eI) a_chord), .sh ((eL (e3 (eT eI) eI eI)) v10), .sh ((eT eI) v11.1), .sh (eI v11.2.1), .sh (eI v11.2.2)]) (asg_ (fr_s (call_s (ac_ ev_1 (an_ _)) rfl (minL_e hv11))) rfl) ?_
  refine wp_ret (tup_ (ac_ (fr_s ev_2) (ac_ (fr_s ev_4) (ac_ (fr_s ev_3) (an_ _)))) rfl (few' rfl)) ?_
  cases h
  exact rt_i rfl rfl
/-! all_chords -/
def t_all_chords (a_size : Int) : Option (List (List Int)) :=
(cmbrO 12 a_size).bind fun v2 =>
(szO (lcO (fun (x3 : (List Int)) => (t_chord_form x3).bind fun v4 => if (eqE (eT eI) v4.1 x3) = true then (some (some x3)) else some none) v2)).bind fun y5 =>
some y5
theorem sim_all_chords {a_size : Int} {r : (List (List Int))} (h : t_all_chords a_size = some r) : F_all_chords [.sh (eI a_size)] = some (.sh ((eT (eT eI)) r), [.sh (eI a_size)]) := by
  unfold t_all_chords at h
  refine run_wp rfl (fun i => by intro z; cases z) ?_
  show Wp (g_all_chords [.sh (eI a_size), .no]) _
  unfold g_all_chords
  obtain ⟨v2, hv2, h⟩ := bnd h
  obtain ⟨y5, hy5, h⟩ := bnd h
  refine wp_ret (fr_s (call_s (ac_ (lc_ (W := [.sh (eI a_size), .no]) (e := (eT eI)) (e' := (eT eI)) (cmbr_ (ec _ _) ev_0 hv2) rfl rfl (fun x3 _ _ h => by obtain ⟨v4, hv4, h⟩ := bnd h; exact ite_elim h (fun c1 h => by rw [← Option.some.inj h]; exact ⟨[.sh (eI a_size), .sh ((eT eI) x3)], rfl, _, _, tcong (tb_ (bin_s (bin_s (fn_s (ρ2 := [.sh (eI a_size), .sh ((eT eI) x3)]) (ac_ (fr_s ev_1) (an_ _)) rfl rfl (sim_chord_form (a_chord := x3) hv4) rfl) (ec _ _) (show ixA ((e3 (eT eI) eI eI) v4) (eI 0) = some (.sh ((eT eI) v4.1)) from rfl)) ev_1 (eq_e (e := (eT eI)) v4.1 x3))) c1, (fr_s ev_1), rfl⟩) (fun c1 h => by rw [← Option.some.inj h]; exact ⟨[.sh (eI a_size), .sh ((eT eI) x3)], rfl, _, tcong (tb_ (bin_s (bin_s (fn_s (ρ2 := [.sh (eI a_size), .sh ((eT eI) x3)]) (ac_ (fr_s ev_1) (an_ _)) rfl rfl (sim_chord_form (a_chord := x3) hv4) rfl) (ec _ _) (show ixA ((e3 (eT eI) eI eI) v4) (eI 0) = some (.sh ((eT eI) v4.1)) from rfl)) ev_1 (eq_e (e := (eT eI)) v4.1 x3))) c1, rfl⟩)) hy5) (an_ _)) rfl (tupL_e (e := (eT eI)) y5))) ?_
  cases h
  exact rt_i rfl rfl
/-! _law_moved -/
def t__law_moved (a_chord : (List Int)) (a_k : Int) : Option (List Int) :=
(szO (mapO (fun (x2 : Int) => some ((x2 + a_k) % 12)) a_chord)).bind fun y3 =>
(srtO eI y3).bind fun v4 =>
some v4
theorem sim__law_moved {a_chord : (List Int)} {a_k : Int} {r : (List Int)} (h : t__law_moved a_chord a_k = some r) : F__law_moved [.sh ((eT eI) a_chord), .sh (eI a_k)] = some (.sh ((eT eI) r), [.sh ((eT eI) a_chord), .sh (eI a_k)]) := by
  unfold t__law_moved at h
  refine run_wp rfl (fun i => by intro z; cases z) ?_
  show Wp (g__law_moved [.sh ((eT eI) a_chord), .sh (eI a_k), .no]) _
  unfold g__law_moved
  obtain ⟨y3, hy3, h⟩ := bnd h
  obtain ⟨v4, hv4, h⟩ := bnd h
  refine wp_ret (fr_s (call_s (ac_ (call_o (ac_ (lm_ (W := [.sh ((eT eI) a_chord), .sh (eI a_k), .no]) (e := eI) (e' := eI) (iseq_t (e := eI) (fr_s ev_0)) rfl rfl (fun x2 _ _ h => by rw [← Option.some.inj h]; exact ⟨[.sh ((eT eI) a_chord), .sh (eI a_k), .sh (eI x2)], [.sh ((eT eI) a_chord), .sh (eI a_k), .sh (eI x2)], rfl, (fr_s (bin_s (call_s (ac_ (bin_s ev_2 ev_1 (add_i _ _)) (an_ _)) rfl (int_i _)) (ec _ _) (mod_l _ _))), rfl⟩) hy3) (an_ _)) rfl (srt_e hv4)) (an_ _)) rfl (tupL_e (e := eI) v4))) ?_
  cases h
  exact rt_i rfl rfl
/-! _law_mirrored -/
def t__law_mirrored (a_chord : (List Int)) : Option (List Int) :=
(szO (mapO (fun (x2 : Int) => some ((0 - x2) % 12)) a_chord)).bind fun y3 =>
(srtO eI y3).bind fun v4 =>
some v4
theorem sim__law_mirrored {a_chord : (List Int)} {r : (List Int)} (h : t__law_mirrored a_chord = some r) : F__law_mirrored [.sh ((eT eI) a_chord)] = some (.sh ((eT eI) r), [.sh ((eT eI) a_chord)]) := by
  unfold t__law_mirrored at h
  refine run_wp rfl (fun i => by intro z; cases z) ?_
  show Wp (g__law_mirrored [.sh ((eT eI) a_chord), .no]) _
  unfold g__law_mirrored
  obtain ⟨y3, hy3, h⟩ := bnd h
  obtain ⟨v4, hv4, h⟩ := bnd h
  refine wp_ret (fr_s (call_s (ac_ (call_o (ac_ (lm_ (W := [.sh ((eT eI) a_chord), .no]) (e := eI) (e' := eI) (iseq_t (e := eI) (fr_s ev_0)) rfl rfl (fun x2 _ _ h => by rw [← Option.some.inj h]; exact ⟨[.sh ((eT eI) a_chord), .sh (eI x2)], [.sh ((eT eI) a_chord), .sh (eI x2)], rfl, (fr_s (bin_s (call_s (ac_ (bin_s (ec _ _) ev_1 (sub_i _ _)) (an_ _)) rfl (int_i _)) (ec _ _) (mod_l _ _))), rfl⟩) hy3) (an_ _)) rfl (srt_e hv4)) (an_ _)) rfl (tupL_e (e := eI) v4))) ?_
  cases h
  exact rt_i rfl rfl
/-! _law_images -/
def t__law_images (a_chord : (List Int)) : Option (List (List Int)) :=
(szO (mapO (fun (x2 : Int) => (t__law_moved a_chord x2).bind fun v3 => some v3) (rangeI 0 (Int.toNat 12)))).bind fun y4 =>
(szO (mapO (fun (x6 : Int) => (t__law_mirrored a_chord).bind fun v7 => (t__law_moved v7 x6).bind fun v8 => some v8) (rangeI 0 (Int.toNat 12)))).bind fun y9 =>
(plusO y4 y9).bind fun v10 =>
some v10
theorem sim__law_images {a_chord : (List Int)} {r : (List (List Int))} (h : t__law_images a_chord = some r) : F__law_images [.sh ((eT eI) a_chord)] = some (.sh ((eL (eT eI)) r), [.sh ((eT eI) a_chord)]) := by
  unfold t__law_images at h
  refine run_wp rfl (fun i => by intro z; cases z) ?_
  show Wp (g__law_images [.sh ((eT eI) a_chord), .no]) _
  unfold g__law_images
  obtain ⟨y4, hy4, h⟩ := bnd h
  obtain ⟨y9, hy9, h⟩ := bnd h
  obtain ⟨v10, hv10, h⟩ := bnd h
  refine wp_ret (fr_o (bin_go (pk_o (lm_ (W := [.sh ((eT eI) a_chord), .no]) (e := eI) (e' := (eT eI)) (irng_ (e := eI) (ac_ (ec _ _) (an_ _)) rfl (rng1_l _)) rfl rfl (fun x2 _ _ h => by obtain ⟨v3, hv3, h⟩ := bnd h; rw [← Option.some.inj h]; exact ⟨[.sh ((eT eI) a_chord), .sh (eI x2)], [.sh ((eT eI) a_chord), .sh (eI x2)], rfl, (fr_s (fn_s (ρ2 := [.sh ((eT eI) a_chord), .sh (eI x2)]) (ac_ (fr_s ev_0) (ac_ (fr_s ev_1) (an_ _))) rfl rfl (sim__law_moved (a_chord := a_chord) (a_k := x2) hv3) rfl)), rfl⟩) hy4)) (pk_o (lm_ (W := [.sh ((eT eI) a_chord), .no]) (e := eI) (e' := (eT eI)) (irng_ (e := eI) (ac_ (ec _ _) (an_ _)) rfl (rng1_l _)) rfl rfl (fun x6 _ _ h => by obtain ⟨v7, hv7, h⟩ := bnd h; obtain ⟨v8, hv8, h⟩ := bnd h; rw [← Option.some.inj h]; exact ⟨[.sh ((eT eI) a_chord), .sh (eI x6)], [.sh ((eT eI) a_chord), .sh (eI x6)], rfl, (fr_s (fn_s (ρ2 := [.sh ((eT eI) a_chord), .sh (eI x6)]) (ac_ (fr_s (fn_s (ρ2 := [.sh ((eT eI) a_chord), .sh (eI x6)]) (ac_ (fr_s ev_0) (an_ _)) rfl rfl (sim__law_mirrored (a_chord := a_chord) hv7) rfl)) (ac_ (fr_s ev_1) (an_ _))) rfl rfl (sim__law_moved (a_chord := v7) (a_k := x6) hv8) rfl)), rfl⟩) hy9)) rfl rfl (plusL_e (e := (eT eI)) hv10))) ?_
  cases h
  exact rt_i rfl rfl
/-! _law_forms -/
def t__law_forms (a_size : Int) : Option (List (List Int)) :=
(foldO (fun (x3 : Int) (s1 : (List (List Int))) => (szO (lcO (fun (x5 : (List Int)) => if ((decide ((List.length x5 : Int) < a_size)) && ((decide (x3 = 0)) || (!eqE (eT eI) x5 []))) = true then ((plusO x5 [x3]).bind fun v6 => some (some v6)) else some none) s1)).bind fun y7 =>
(plusO s1 y7).bind fun v8 =>
some v8) (rangeI 0 (Int.toNat 12)) [[]]).bind fun (s9 : (List (List Int))) =>
(szO (lcO (fun (x12 : (List Int)) => if (decide ((List.length x12 : Int) = a_size)) = true then (some (some x12)) else some none) s9)).bind fun y13 =>
(srtO (eT eI) y13).bind fun v14 =>
(foldO (fun (x18 : (List Int)) (s15 : ((List (List Int)) × (List ((List Int) × Bool)))) => if (!dhas (EqE.eq (eT eI)) s15.2 x18) = true then ((pushO s15.1 x18).bind fun v20 =>
(t__law_images x18).bind fun v21 =>
(foldO (fun (x24 : (List Int)) (s22 : (List ((List Int) × Bool))) => (dputO (EqE.eq (eT eI)) s22 x24 true).bind fun v25 =>
some v25) v21 s15.2).bind fun (s26 : (List ((List Int) × Bool))) =>
some (v20, s26)) else (some (s15.1, s15.2))) v14 ([], [])).bind fun (s28 : ((List (List Int)) × (List ((List Int) × Bool)))) =>
some s28.1
theorem sim__law_forms {a_size : Int} {r : (List (List Int))} (h : t__law_forms a_size = some r) : F__law_forms [.sh (eI a_size)] = some (.sh ((eL (eT eI)) r), [.sh (eI a_size)]) := by
  unfold t__law_forms at h
  refine run_wp rfl (fun i => by intro z; cases z) ?_
  show Wp (g__law_forms [.sh (eI a_size), .no, .no, .no, .no, .no, .no]) _
  unfold g__law_forms
  refine wp_seq (ρ1 := [.sh (eI a_size), .sh ((eL (eT eI)) [[]]), .no, .no, .no, .no, .no]) (set_s (pk_o (lst_ (ac_ (tup_ (an_ _) rfl (few' rfl)) (an_ _)) rfl (few' rfl)))) ?_
  refine wp_seqW (wp_fold (R := (fun (s1 : (List (List Int))) ρ => ∃ j2, ρ = [.sh (eI a_size), .sh ((eL (eT eI)) s1), j2, .no, .no, .no, .no])) (e := eI) (s0 := [[]]) (irng_ (e := eI) (ac_ (ec _ _) (an_ _)) rfl (rng1_l _)) ⟨_, rfl⟩ (fun x3 s1 s' ρ hx hR h => ?_) h ?_)
  · obtain ⟨j2, rfl⟩ := hR
    refine ⟨[.sh (eI a_size), .sh ((eL (eT eI)) s1), .sh (eI x3), .no, .no, .no, .no], rfl, ?_⟩
    obtain ⟨y7, hy7, h⟩ := bnd h
    obtain ⟨v8, hv8, h⟩ := bnd h
    refine wp_st (ρ1 := [.sh (eI a_size), .sh ((eL (eT eI)) v8), .sh (eI x3), .no, .no, .no, .no]) (set_s (pk_o (bin_go (pk_s ev_1) (pk_o (lc_ (W := [.sh (eI a_size), .sh ((eL (eT eI)) s1), .sh (eI x3), .no, .no, .no, .no]) (e := (eT eI)) (e' := (eT eI)) (iseq_l (e := (eT eI)) (fr_s ev_1)) rfl rfl (fun x5 _ _ h => by exact ite_elim h (fun c4 h => by obtain ⟨v6, hv6, h⟩ := bnd h; rw [← Option.some.inj h]; exact ⟨[.sh (eI a_size), .sh ((eL (eT eI)) s1), .sh (eI x3), .no, .no, .sh ((eT eI) x5), .no], rfl, _, _, tcong (tan_ (tb_ (bin_s (call_s (ac_ ev_5 (an_ _)) rfl (lenAT_e (e := eI) x5)) ev_0 (cmp_i _ _ _))) (tor_ (tb_ (bin_s ev_2 (ec _ _) (eq_i _ _))) (tb_ (bin_s ev_5 (tup_ (an_ _) rfl (few' rfl)) (ne_e (e := (eT eI)) x5 []))))) c4, (fr_s (bin_gs (pk_s ev_5) (pk_s (tup_ (ac_ (fr_s ev_2) (an_ _)) rfl (few' rfl))) rfl rfl (plusT_e (e := eI) hv6))), rfl⟩) (fun c4 h => by rw [← Option.some.inj h]; exact ⟨[.sh (eI a_size), .sh ((eL (eT eI)) s1), .sh (eI x3), .no, .no, .sh ((eT eI) x5), .no], rfl, _, tcong (tan_ (tb_ (bin_s (call_s (ac_ ev_5 (an_ _)) rfl (lenAT_e (e := eI) x5)) ev_0 (cmp_i _ _ _))) (tor_ (tb_ (bin_s ev_2 (ec _ _) (eq_i _ _))) (tb_ (bin_s ev_5 (tup_ (an_ _) rfl (few' rfl)) (ne_e (e := (eT eI)) x5 []))))) c4, rfl⟩)) hy7)) rfl rfl (plusL_e (e := (eT eI)) hv8)))) ?_
    cases h
    exact ⟨_, .inl rfl, ⟨_, rfl⟩⟩
  · intro s9 ρ hR h
    obtain ⟨j10, rfl⟩ := hR
    refine qs_nx ?_
    refine wp_seq (ρ1 := [.sh (eI a_size), .sh ((eL (eT eI)) s9), j10, .ow (.lst (List.map (eT eI) [])), .ow (.dtn (List.map (ekv (eT eI) eB) [])), .no, .no]) (par_ (ac_ (lst_ (an_ _) rfl (few' rfl)) (ac_ (dtn_ _) (an_ _))) rfl rfl) ?_
    obtain ⟨y13, hy13, h⟩ := bnd h
    obtain ⟨v14, hv14, h⟩ := bnd h
    refine wp_seqW (wp_fold (R := (fun (s15 : ((List (List Int)) × (List ((List Int) × Bool)))) ρ => ∃ j16 j17, ρ = [.sh (eI a_size), .sh ((eL (eT eI)) s9), j10, .ow (.lst (List.map (eT eI) s15.1)), .ow (.dtn (List.map (ekv (eT eI) eB) s15.2)), j16, j17])) (e := (eT eI)) (s0 := ([], [])) (iseq_l (e := (eT eI)) (fr_o (call_o (ac_ (lc_ (W := [.sh (eI a_size), .sh ((eL (eT eI)) s9), j10, .ow (.lst (List.map (eT eI) [])), .ow (.dtn (List.map (ekv (eT eI) eB) [])), .no, .no]) (e := (eT eI)) (e' := (eT eI)) (iseq_l (e := (eT eI)) (fr_s ev_1)) rfl rfl (fun x12 _ _ h => by exact ite_elim h (fun c11 h => by rw [← Option.some.inj h]; exact ⟨[.sh (eI a_size), .sh ((eL (eT eI)) s9), j10, .ow (.lst (List.map (eT eI) [])), .ow (.dtn (List.map (ekv (eT eI) eB) [])), .sh ((eT eI) x12), .no], rfl, _, _, tcong (tb_ (bin_s (call_s (ac_ ev_5 (an_ _)) rfl (lenAT_e (e := eI) x12)) ev_0 (eq_i _ _))) c11, (fr_s ev_5), rfl⟩) (fun c11 h => by rw [← Option.some.inj h]; exact ⟨[.sh (eI a_size), .sh ((eL (eT eI)) s9), j10, .ow (.lst (List.map (eT eI) [])), .ow (.dtn (List.map (ekv (eT eI) eB) [])), .sh ((eT eI) x12), .no], rfl, _, tcong (tb_ (bin_s (call_s (ac_ ev_5 (an_ _)) rfl (lenAT_e (e := eI) x12)) ev_0 (eq_i _ _))) c11, rfl⟩)) hy13) (an_ _)) rfl (srt_e hv14)))) ⟨_, _, rfl⟩ (fun x18 s15 s' ρ hx hR h => ?_) h ?_)
    · obtain ⟨j16, j17, rfl⟩ := hR
      refine ⟨[.sh (eI a_size), .sh ((eL (eT eI)) s9), j10, .ow (.lst (List.map (eT eI) s15.1)), .ow (.dtn (List.map (ekv (eT eI) eB) s15.2)), .sh ((eT eI) x18), j17], rfl, ?_⟩
      refine ite_elim h (fun c19 h => ?_) (fun c19 h => ?_)
      · refine wp_if_t (tb_ (bin_gs (pk_s ev_5) (pk_al eva_4) rfl rfl (ninN_e (ek := (eT eI)) (ev := eB) s15.2 x18))) c19 ?_
        obtain ⟨v20, hv20, h⟩ := bnd h
        refine wp_seq (ρ1 := [.sh (eI a_size), .sh ((eL (eT eI)) s9), j10, .ow (.lst (List.map (eT eI) v20)), .ow (.dtn (List.map (ekv (eT eI) eB) s15.2)), .sh ((eT eI) x18), j17]) (expr_ (push_ (e := (eT eI)) hv20 eva_3 rfl (ac_ (fr_s ev_5) (an_ _)) rfl)) ?_
        obtain ⟨v21, hv21, h⟩ := bnd h
        refine (wp_fold (R := (fun (s22 : (List ((List Int) × Bool))) ρ => ∃ j23, ρ = [.sh (eI a_size), .sh ((eL (eT eI)) s9), j10, .ow (.lst (List.map (eT eI) v20)), .ow (.dtn (List.map (ekv (eT eI) eB) s22)), .sh ((eT eI) x18), j23])) (e := (eT eI)) (s0 := s15.2) (iseq_l (e := (eT eI)) (fr_s (fn_s (ρ2 := [.sh (eI a_size), .sh ((eL (eT eI)) s9), j10, .ow (.lst (List.map (eT eI) v20)), .ow (.dtn (List.map (ekv (eT eI) eB) s15.2)), .sh ((eT eI) x18), j17]) (ac_ (fr_s ev_5) (an_ _)) rfl rfl (sim__law_images (a_chord := x18) hv21) rfl))) ⟨_, rfl⟩ (fun x24 s22 s' ρ hx hR h => ?_) h ?_)
        · obtain ⟨j23, rfl⟩ := hR
          refine ⟨[.sh (eI a_size), .sh ((eL (eT eI)) s9), j10, .ow (.lst (List.map (eT eI) v20)), .ow (.dtn (List.map (ekv (eT eI) eB) s22)), .sh ((eT eI) x18), .sh ((eT eI) x24)], rfl, ?_⟩
          obtain ⟨v25, hv25, h⟩ := bnd h
          refine wp_st (ρ1 := [.sh (eI a_size), .sh ((eL (eT eI)) s9), j10, .ow (.lst (List.map (eT eI) v20)), .ow (.dtn (List.map (ekv (eT eI) eB) v25)), .sh ((eT eI) x18), .sh ((eT eI) x24)]) (asg_ (fr_s (ec _ _)) (tsub_ eva_4 (pk_s ev_6) rfl rfl (setN_e (ek := (eT eI)) (ev := eB) hv25))) ?_
          cases h
          exact ⟨_, .inl rfl, ⟨_, rfl⟩⟩
        · intro s26 ρ hR h
          obtain ⟨j27, rfl⟩ := hR
          cases h
          exact ⟨_, .inl rfl, ⟨_, _, rfl⟩⟩
      · refine wp_if_f (tb_ (bin_gs (pk_s ev_5) (pk_al eva_4) rfl rfl (ninN_e (ek := (eT eI)) (ev := eB) s15.2 x18))) c19 ?_
        refine wp_nil ?_
        cases h
        exact ⟨_, .inl rfl, ⟨_, _, rfl⟩⟩
    · intro s28 ρ hR h
      obtain ⟨j29, j30, rfl⟩ := hR
      refine qs_nx ?_
      refine wp_ret (fr_al (ds := List.map (eT eI) s28.1) eva_3 rfl) ?_
      cases h
      exact rt_i rfl rfl
/-! steps_of -/
def t_steps_of (a_chord : (List Int)) : Option (List Int) :=
(repLO [0] (12 / 2)).bind fun v1 =>
(cmb2O a_chord).bind fun v2 =>
(foldO (fun (x6 : (Int × Int)) (s3 : (List Int)) => (atI s3 ((if ((12 - x6.2) + x6.1) < (x6.2 - x6.1) then ((12 - x6.2) + x6.1) else (x6.2 - x6.1)) - 1)).bind fun v7 =>
(setO s3 ((if ((12 - x6.2) + x6.1) < (x6.2 - x6.1) then ((12 - x6.2) + x6.1) else (x6.2 - x6.1)) - 1) (v7 + 1)).bind fun v8 =>
some v8) v2 v1).bind fun (s9 : (List Int)) =>
some s9
theorem sim_steps_of {a_chord : (List Int)} {r : (List Int)} (h : t_steps_of a_chord = some r) : F_steps_of [.sh ((eT eI) a_chord)] = some (.sh ((eT eI) r), [.sh ((eT eI) a_chord)]) := by
  unfold t_steps_of at h
  refine run_wp rfl (fun i => by intro z; cases z) ?_
  show Wp (g_steps_of [.sh ((eT eI) a_chord), .no, .no, .no]) _
  unfold g_steps_of
  obtain ⟨v1, hv1, h⟩ := bnd h
  refine wp_seq (ρ1 := [.sh ((eT eI) a_chord), .ow (.lst (List.map eI v1)), .no, .no]) (set_o (bin_go (pk_o (lst_ (ac_ (ec _ _) (an_ _)) rfl (few' rfl))) (pk_s (bin_s (ec _ _) (ec _ _) (div_l _ _))) rfl rfl (repL_e (e := eI) (xs := [0]) (k := (12 / 2)) hv1))) ?_
  obtain ⟨v2, hv2, h⟩ := bnd h
  refine wp_seqW (wp_fold (R := (fun (s3 : (List Int)) ρ => ∃ j4 j5, ρ = [.sh ((eT eI) a_chord), .ow (.lst (List.map eI s3)), j4, j5])) (e := (e2 eI eI)) (s0 := v1) (irng_ (e := (e2 eI eI)) (ac_ ev_0 (ac_ (ec _ _) (an_ _))) rfl (cmb2_t (e := eI) hv2)) ⟨_, _, rfl⟩ (fun x6 s3 s' ρ hx hR h => ?_) h ?_)
  · obtain ⟨j4, j5, rfl⟩ := hR
    refine ⟨[.sh ((eT eI) a_chord), .ow (.lst (List.map eI s3)), .sh (eI x6.1), .sh (eI x6.2)], rfl, ?_⟩
    obtain ⟨v7, hv7, h⟩ := bnd h
    obtain ⟨v8, hv8, h⟩ := bnd h
    refine wp_st (ρ1 := [.sh ((eT eI) a_chord), .ow (.lst (List.map eI v8)), .sh (eI x6.1), .sh (eI x6.2)]) (augS_ eva_1 (pk_s (bin_s (call_s (ac_ (bin_s ev_3 ev_2 (sub_i _ _)) (ac_ (bin_s (bin_s (ec _ _) ev_3 (sub_i _ _)) ev_2 (add_i _ _)) (an_ _))) rfl (min2_i _ _)) (ec _ _) (sub_i _ _))) rfl rfl rfl (getl_e (e := eI) hv7) (pk_s (ec _ _)) rfl (iadd_i _ _) rfl (set_e (e := eI) hv8)) ?_
    cases h
    exact ⟨_, .inl rfl, ⟨_, _, rfl⟩⟩
  · intro s9 ρ hR h
    obtain ⟨j10, j11, rfl⟩ := hR
    refine qs_nx ?_
    refine wp_ret (fr_s (call_s (ac_ eva_1 (an_ _)) rfl (tupL_e (e := eI) s9))) ?_
    cases h
    exact rt_i rfl rfl
/-! twins -/
def t_twins  : Option (List ((List Int) × (List Int))) :=
(rngO1 ((12 / 2) + 1)).bind fun r1 =>
(foldO (fun (x6 : Int) (s2 : (List ((List Int) × (List Int)))) => (t_all_chords x6).bind fun v7 =>
(szO (mapO (fun (x9 : (List Int)) => (t_steps_of x9).bind fun v10 => some v10) v7)).bind fun y11 =>
(rngO1 (List.length v7 : Int)).bind fun r13 =>
(szO (catO (fun (x14 : Int) => (rngO1 x14).bind fun r16 => lcO (fun (x15 : Int) => (atI y11 x15).bind fun v17 => (atI y11 x14).bind fun v18 => if (eqE (eT eI) v17 v18) = true then ((atI v7 x15).bind fun v19 => (atI v7 x14).bind fun v20 => some (some (v19, v20))) else some none) r16) r13)).bind fun y21 =>
(plusO s2 y21).bind fun v22 =>
some v22) r1 []).bind fun (s23 : (List ((List Int) × (List Int)))) =>
(srtO (e2 (eT eI) (eT eI)) s23).bind fun v27 =>
some v27
theorem sim_twins  {r : (List ((List Int) × (List Int)))} (h : t_twins  = some r) : F_twins [] = some (.sh ((eT (e2 (eT eI) (eT eI))) r), []) := by
  unfold t_twins at h
  refine run_wp rfl (fun i => by intro z; cases z) ?_
  show Wp (g_twins [.no, .no, .no, .no, .no, .no, .no]) _
  unfold g_twins
  refine wp_seq (ρ1 := [.sh ((eL (e2 (eT eI) (eT eI))) []), .no, .no, .no, .no, .no, .no]) (set_s (pk_o (lst_ (an_ _) rfl (few' rfl)))) ?_
  obtain ⟨r1, hr1, h⟩ := bnd h
  refine wp_seqW (wp_fold (R := (fun (s2 : (List ((List Int) × (List Int)))) ρ => ∃ j3 j4 j5, ρ = [.sh ((eL (e2 (eT eI) (eT eI))) s2), j3, j4, j5, .no, .no, .no])) (e := eI) (s0 := []) (irng_ (e := eI) (ac_ (bin_s (bin_s (ec _ _) (ec _ _) (div_l _ _)) (ec _ _) (add_i _ _)) (an_ _)) rfl (rng1_t hr1)) ⟨_, _, _, rfl⟩ (fun x6 s2 s' ρ hx hR h => ?_) h ?_)
  · obtain ⟨j3, j4, j5, rfl⟩ := hR
    refine ⟨[.sh ((eL (e2 (eT eI) (eT eI))) s2), .sh (eI x6), j4, j5, .no, .no, .no], rfl, ?_⟩
    obtain ⟨v7, hv7, h⟩ := bnd h
    refine wp_seq (ρ1 := [.sh ((eL (e2 (eT eI) (eT eI))) s2), .sh (eI x6), .sh ((eT (eT eI)) v7), j5, .no, .no, .no]) (set_s (pk_s (fn_s (ρ2 := [.sh ((eL (e2 (eT eI) (eT eI))) s2), .sh (eI x6), j4, j5, .no, .no, .no]) (ac_ (fr_s ev_1) (an_ _)) rfl rfl (sim_all_chords (a_size := x6) hv7) rfl))) ?_
    obtain ⟨y11, hy11, h⟩ := bnd h
    refine wp_seq (ρ1 := [.sh ((eL (e2 (eT eI) (eT eI))) s2), .sh (eI x6), .sh ((eT (eT eI)) v7), .sh ((eL (eT eI)) y11), .no, .no, .no]) (set_s (pk_o (lm_ (W := [.sh ((eL (e2 (eT eI) (eT eI))) s2), .sh (eI x6), .sh ((eT (eT eI)) v7), j5, .no, .no, .no]) (e := (eT eI)) (e' := (eT eI)) (iseq_t (e := (eT eI)) (fr_s ev_2)) rfl rfl (fun x9 _ _ h => by obtain ⟨v10, hv10, h⟩ := bnd h; rw [← Option.some.inj h]; exact ⟨[.sh ((eL (e2 (eT eI) (eT eI))) s2), .sh (eI x6), .sh ((eT (eT eI)) v7), j5, .sh ((eT eI) x9), .no, .no], [.sh ((eL (e2 (eT eI) (eT eI))) s2), .sh (eI x6), .sh ((eT (eT eI)) v7), j5, .sh ((eT eI) x9), .no, .no], rfl, (fr_s (fn_s (ρ2 := [.sh ((eL (e2 (eT eI) (eT eI))) s2), .sh (eI x6), .sh ((eT (eT eI)) v7), j5, .sh ((eT eI) x9), .no, .no]) (ac_ (fr_s ev_4) (an_ _)) rfl rfl (sim_steps_of (a_chord := x9) hv10) rfl)), rfl⟩) hy11))) ?_
    obtain ⟨r13, hr13, h⟩ := bnd h
    obtain ⟨y21, hy21, h⟩ := bnd h
    obtain ⟨v22, hv22, h⟩ := bnd h
    refine wp_st (ρ1 := [.sh ((eL (e2 (eT eI) (eT eI))) v22), .sh (eI x6), .sh ((eT (eT eI)) v7), .sh ((eL (eT eI)) y11), .no, .no, .no]) (set_s (pk_o (bin_go (pk_s ev_0) (pk_o (lc2_ (W := [.sh ((eL (e2 (eT eI) (eT eI))) s2), .sh (eI x6), .sh ((eT (eT eI)) v7), .sh ((eL (eT eI)) y11), .no, .no, .no]) (e := eI) (e' := (e2 (eT eI) (eT eI))) (irng_ (e := eI) (ac_ (call_s (ac_ ev_2 (an_ _)) rfl (lenT_e (e := (eT eI)) v7)) (an_ _)) rfl (rng1_t hr13)) rfl rfl (fun x14 _ _ h => by obtain ⟨r16, hr16, h⟩ := bnd h; exact ⟨[.sh ((eL (e2 (eT eI) (eT eI))) s2), .sh (eI x6), .sh ((eT (eT eI)) v7), .sh ((eL (eT eI)) y11), .no, .sh (eI x14), .no], rfl, (inn_t (ρ3 := [.sh ((eL (e2 (eT eI) (eT eI))) s2), .sh (eI x6), .sh ((eT (eT eI)) v7), .sh ((eL (eT eI)) y11), .no, .sh (eI x14), .no]) (W1 := [.sh ((eL (e2 (eT eI) (eT eI))) s2), .sh (eI x6), .sh ((eT (eT eI)) v7), .sh ((eL (eT eI)) y11), .no, .sh (eI x14), .no]) (e1 := eI) rfl (irng_ (e := eI) (ac_ ev_5 (an_ _)) rfl (rng1_t hr16)) (by decide) rfl rfl h (fun x15 _ _ h => by obtain ⟨v17, hv17, h⟩ := bnd h; obtain ⟨v18, hv18, h⟩ := bnd h; exact ite_elim h (fun c12 h => by obtain ⟨v19, hv19, h⟩ := bnd h; obtain ⟨v20, hv20, h⟩ := bnd h; rw [← Option.some.inj h]; exact ⟨[.sh ((eL (e2 (eT eI) (eT eI))) s2), .sh (eI x6), .sh ((eT (eT eI)) v7), .sh ((eL (eT eI)) y11), .no, .sh (eI x14), .sh (eI x15)], rfl, _, _, tcong (tb_ (bin_s (bin_s ev_3 ev_6 (ixl_e (e := (eT eI)) hv17)) (bin_s ev_3 ev_5 (ixl_e (e := (eT eI)) hv18)) (eq_e (e := (eT eI)) v17 v18))) c12, (fr_s (tup_ (ac_ (fr_s (bin_s ev_2 ev_6 (ixt_e (e := (eT eI)) hv19))) (ac_ (fr_s (bin_s ev_2 ev_5 (ixt_e (e := (eT eI)) hv20))) (an_ _))) rfl (few' rfl))), rfl⟩) (fun c12 h => by rw [← Option.some.inj h]; exact ⟨[.sh ((eL (e2 (eT eI) (eT eI))) s2), .sh (eI x6), .sh ((eT (eT eI)) v7), .sh ((eL (eT eI)) y11), .no, .sh (eI x14), .sh (eI x15)], rfl, _, tcong (tb_ (bin_s (bin_s ev_3 ev_6 (ixl_e (e := (eT eI)) hv17)) (bin_s ev_3 ev_5 (ixl_e (e := (eT eI)) hv18)) (eq_e (e := (eT eI)) v17 v18))) c12, rfl⟩)))⟩) hy21)) rfl rfl (plusL_e (e := (e2 (eT eI) (eT eI))) hv22)))) ?_
    cases h
    exact ⟨_, .inl rfl, ⟨_, _, _, rfl⟩⟩
  · intro s23 ρ hR h
    obtain ⟨j24, j25, j26, rfl⟩ := hR
    refine qs_nx ?_
    obtain ⟨v27, hv27, h⟩ := bnd h
    refine wp_ret (fr_s (call_s (ac_ (call_o (ac_ ev_0 (an_ _)) rfl (srt_e hv27)) (an_ _)) rfl (tupL_e (e := (e2 (eT eI) (eT eI))) v27))) ?_
    cases h
    exact rt_i rfl rfl
/-! common_divisor -/
def t_common_divisor (a_a : Int) (a_b : Int) : Option Int :=
(some (if a_a < 0 then -a_a else a_a)).bind fun x1 =>
(some (if a_b < 0 then -a_b else a_b)).bind fun x2 =>
whileB (r := Int) (fun (s3 : (Int × Int)) => some (s3.2 != 0)) (fun (s3 : (Int × Int)) => (modO s3.1 s3.2).bind fun v4 =>
some (.nx (s3.2, v4))) 1048576 (x1, x2) (fun (s5 : (Int × Int)) => some s5.1) (fun x => some x)
theorem sim_common_divisor {a_a : Int} {a_b : Int} {r : Int} (h : t_common_divisor a_a a_b = some r) : F_common_divisor [.sh (eI a_a), .sh (eI a_b)] = some (.sh (eI r), [.sh (eI a_a), .sh (eI a_b)]) := by
  unfold t_common_divisor at h
  refine run_wp rfl (fun i => by intro z; cases z) ?_
  show Wp (g_common_divisor [.sh (eI a_a), .sh (eI a_b)]) _
  unfold g_common_divisor
  obtain ⟨x1, hx1, h⟩ := bnd h
  obtain ⟨x2, hx2, h⟩ := bnd h
  refine wp_seq (ρ1 := [.sh (eI x1), .sh (eI x2)]) (by rw [← Option.some.inj hx1, ← Option.some.inj hx2]; exact (par_ (ac_ (fr_s (call_s (ac_ ev_0 (an_ _)) rfl (abs_i _))) (ac_ (fr_s (call_s (ac_ ev_1 (an_ _)) rfl (abs_i _))) (an_ _))) rfl rfl)) ?_
  refine wp_seqW (wp_while (R := (fun (s3 : (Int × Int)) ρ => ρ = [.sh (eI s3.1), .sh (eI s3.2)])) (Qr := fun (x : Int) => Rt [.sh (eI a_a), .sh (eI a_b)] [] (.sh (eI x)) [.sh (eI a_a), .sh (eI a_b)]) (s0 := (x1, x2)) rfl (fun s3 ρ k hR h => ?_) (fun s3 s' ρ hR hc h => ?_) h ?_ (fun x rv ρ hk hq => by cases hk; exact hq))
  · obtain rfl := hR
    rw [← Option.some.inj h]
    exact ⟨[.sh (eI s3.1), .sh (eI s3.2)], (tv_ (pk_s ev_1) rfl (tru_i _)), rfl⟩
  · obtain rfl := hR
    obtain ⟨v4, hv4, h⟩ := bnd h
    refine wp_st (ρ1 := [.sh (eI s3.2), .sh (eI v4)]) (par_ (ac_ (fr_s ev_1) (ac_ (fr_s (bin_s ev_0 ev_1 (mod_t hv4))) (an_ _))) rfl rfl) ?_
    cases h
    exact pb_nx rfl
  · intro s5 ρ hR h
    obtain rfl := hR
    refine qs_nx ?_
    refine wp_ret (fr_s ev_0) ?_
    cases h
    exact rt_i rfl rfl
/-! product_of -/
def t_product_of (a_numbers : (List Int)) : Option Int :=
(foldO (fun (x3 : Int) (s1 : Int) => (mulO s1 x3).bind fun v4 =>
some v4) a_numbers 1).bind fun (s5 : Int) =>
some s5
theorem sim_product_of {a_numbers : (List Int)} {r : Int} (h : t_product_of a_numbers = some r) : F_product_of [.sh ((eL eI) a_numbers)] = some (.sh (eI r), [.sh ((eL eI) a_numbers)]) := by
  unfold t_product_of at h
  refine run_wp rfl (fun i => by intro z; cases z) ?_
  show Wp (g_product_of [.sh ((eL eI) a_numbers), .no, .no]) _
  unfold g_product_of
  refine wp_seq (ρ1 := [.sh ((eL eI) a_numbers), .sh (eI 1), .no]) (set_s (ec _ _)) ?_
  refine wp_seqW (wp_fold (R := (fun (s1 : Int) ρ => ∃ j2, ρ = [.sh ((eL eI) a_numbers), .sh (eI s1), j2])) (e := eI) (s0 := 1) (iseq_l (e := eI) (fr_s ev_0)) ⟨_, rfl⟩ (fun x3 s1 s' ρ hx hR h => ?_) h ?_)
  · obtain ⟨j2, rfl⟩ := hR
    refine ⟨[.sh ((eL eI) a_numbers), .sh (eI s1), .sh (eI x3)], rfl, ?_⟩
    obtain ⟨v4, hv4, h⟩ := bnd h
    refine wp_st (ρ1 := [.sh ((eL eI) a_numbers), .sh (eI v4), .sh (eI x3)]) (set_s (pk_s (bin_s ev_1 ev_2 (mul_t hv4)))) ?_
    cases h
    exact ⟨_, .inl rfl, ⟨_, rfl⟩⟩
  · intro s5 ρ hR h
    obtain ⟨j6, rfl⟩ := hR
    refine qs_nx ?_
    refine wp_ret (fr_s ev_1) ?_
    cases h
    exact rt_i rfl rfl
/-! factorial -/
def t_factorial (a_n : Int) : Option Int :=
(rgO 1 (a_n + 1)).bind fun v1 =>
(t_product_of v1).bind fun v2 =>
some v2
theorem sim_factorial {a_n : Int} {r : Int} (h : t_factorial a_n = some r) : F_factorial [.sh (eI a_n)] = some (.sh (eI r), [.sh (eI a_n)]) := by
  unfold t_factorial at h
  refine run_wp rfl (fun i => by intro z; cases z) ?_
  show Wp (g_factorial [.sh (eI a_n)]) _
  unfold g_factorial
  obtain ⟨v1, hv1, h⟩ := bnd h
  obtain ⟨v2, hv2, h⟩ := bnd h
  refine wp_ret (fr_s (fn_s (ρ2 := [.sh (eI a_n)]) (ac_ (fr_o (lstRg2_ (ec _ _) (bin_s ev_0 (ec _ _) (add_i _ _)) hv1)) (an_ _)) rfl rfl (sim_product_of (a_numbers := v1) hv2) rfl)) ?_
  cases h
  exact rt_i rfl rfl
/-! _choices -/
def t__choices (a_n : Int) (a_k : Int) : Option Int :=
((if ((decide (0 ≤ a_k)) && (decide (a_k ≤ a_n))) = true then ((t_factorial a_n).bind fun v1 => (t_factorial a_k).bind fun v2 => (t_factorial (a_n - a_k)).bind fun v3 => (mulO v2 v3).bind fun v4 => (divO v1 v4).bind fun v5 => some v5) else (some 0))).bind fun v6 =>
some v6
theorem sim__choices {a_n : Int} {a_k : Int} {r : Int} (h : t__choices a_n a_k = some r) : F__choices [.sh (eI a_n), .sh (eI a_k)] = some (.sh (eI r), [.sh (eI a_n), .sh (eI a_k)]) := by
  unfold t__choices at h
  refine run_wp rfl (fun i => by intro z; cases z) ?_
  show Wp (g__choices [.sh (eI a_n), .sh (eI a_k)]) _
  unfold g__choices
  obtain ⟨v6, hv6, h⟩ := bnd h
  refine wp_ret (fr_s (show _ = some (Rv.sh (eI v6), ([.sh (eI a_n), .sh (eI a_k)] : Rho)) from ite_elim hv6 (fun c7 h => by obtain ⟨v1, hv1, h⟩ := bnd h; obtain ⟨v2, hv2, h⟩ := bnd h; obtain ⟨v3, hv3, h⟩ := bnd h; obtain ⟨v4, hv4, h⟩ := bnd h; obtain ⟨v5, hv5, h⟩ := bnd h; rw [← Option.some.inj h]; exact eif_t (tb_ (chain_s (ec _ _) ev_1 ev_0 (cmp_i _ _ _) (cmp_i _ _ _))) c7 (bin_s (fn_s (ρ2 := [.sh (eI a_n), .sh (eI a_k)]) (ac_ (fr_s ev_0) (an_ _)) rfl rfl (sim_factorial (a_n := a_n) hv1) rfl) (bin_s (fn_s (ρ2 := [.sh (eI a_n), .sh (eI a_k)]) (ac_ (fr_s ev_1) (an_ _)) rfl rfl (sim_factorial (a_n := a_k) hv2) rfl) (fn_s (ρ2 := [.sh (eI a_n), .sh (eI a_k)]) (ac_ (fr_s (bin_s ev_0 ev_1 (sub_i _ _))) (an_ _)) rfl rfl (sim_factorial (a_n := (a_n - a_k)) hv3) rfl) (mul_t hv4)) (div_t hv5))) (fun c8 h => by rw [← Option.some.inj h]; exact eif_f (tb_ (chain_s (ec _ _) ev_1 ev_0 (cmp_i _ _ _) (cmp_i _ _ _))) c8 (ec _ _)))) ?_
  cases h
  exact rt_i rfl rfl
/-! count_chords -/
def t_count_chords (a_size : Int) : Option Int :=
(foldO (fun (x7 : Int) (s1 : Int) => ((if (decide (0 < x7)) = true then ((t_common_divisor x7 12).bind fun v8 => some v8) else (some 12))).bind fun v9 =>
(divO 12 v9).bind fun v12 =>
(modO a_size v12).bind fun v13 =>
(if (decide (v13 = 0)) = true then ((divO a_size v12).bind fun v18 =>
(t__choices v9 v18).bind fun v19 =>
(some (s1 + v19)).bind fun x20 =>
some x20) else (some s1)).bind fun s21 =>
(some (if (decide ((x7 % 2) = 0)) = true then 2 else 0)).bind fun x22 =>
(rngO1 (x22 + 1)).bind fun r23 =>
(foldO (fun (x26 : Int) (s24 : Int) => if (decide (((a_size - x26) % 2) = 0)) = true then ((t__choices x22 x26).bind fun v28 =>
(t__choices ((12 - x22) / 2) ((a_size - x26) / 2)).bind fun v29 =>
(mulO v28 v29).bind fun v30 =>
(some (s24 + v30)).bind fun x31 =>
some x31) else (some s24)) r23 s21).bind fun (s32 : Int) =>
some s32) (rangeI 0 (Int.toNat 12)) 0).bind fun (s34 : Int) =>
(divO s34 (2 * 12)).bind fun v40 =>
some v40
theorem sim_count_chords {a_size : Int} {r : Int} (h : t_count_chords a_size = some r) : F_count_chords [.sh (eI a_size)] = some (.sh (eI r), [.sh (eI a_size)]) := by
  unfold t_count_chords at h
  refine run_wp rfl (fun i => by intro z; cases z) ?_
  show Wp (g_count_chords [.sh (eI a_size), .no, .no, .no, .no, .no, .no]) _
  unfold g_count_chords
  refine wp_seq (ρ1 := [.sh (eI a_size), .sh (eI 0), .no, .no, .no, .no, .no]) (set_s (ec _ _)) ?_
  refine wp_seqW (wp_fold (R := (fun (s1 : Int) ρ => ∃ j2 j3 j4 j5 j6, ρ = [.sh (eI a_size), .sh (eI s1), j2, j3, j4, j5, j6])) (e := eI) (s0 := 0) (irng_ (e := eI) (ac_ (ec _ _) (an_ _)) rfl (rng1_l _)) ⟨_, _, _, _, _, rfl⟩ (fun x7 s1 s' ρ hx hR h => ?_) h ?_)
  · obtain ⟨j2, j3, j4, j5, j6, rfl⟩ := hR
    refine ⟨[.sh (eI a_size), .sh (eI s1), .sh (eI x7), j3, j4, j5, j6], rfl, ?_⟩
    obtain ⟨v9, hv9, h⟩ := bnd h
    refine wp_seq (ρ1 := [.sh (eI a_size), .sh (eI s1), .sh (eI x7), .sh (eI v9), j4, j5, j6]) (set_s (pk_s (cp_s (show _ = some (Rv.sh (eI v9), ([.sh (eI a_size), .sh (eI s1), .sh (eI x7), j3, j4, j5, j6] : Rho)) from ite_elim hv9 (fun c10 h => by obtain ⟨v8, hv8, h⟩ := bnd h; rw [← Option.some.inj h]; exact eif_t (tb_ (bin_s ev_2 (ec _ _) (cmp_i _ _ _))) c10 (fr_s (fn_s (ρ2 := [.sh (eI a_size), .sh (eI s1), .sh (eI x7), j3, j4, j5, j6]) (ac_ (fr_s ev_2) (ac_ (fr_s (ec _ _)) (an_ _))) rfl rfl (sim_common_divisor (a_a := x7) (a_b := 12) hv8) rfl))) (fun c11 h => by rw [← Option.some.inj h]; exact eif_f (tb_ (bin_s ev_2 (ec _ _) (cmp_i _ _ _))) c11 (fr_s (ec _ _))))))) ?_
    obtain ⟨v12, hv12, h⟩ := bnd h
    refine wp_seq (ρ1 := [.sh (eI a_size), .sh (eI s1), .sh (eI x7), .sh (eI v9), .sh (eI v12), j5, j6]) (set_s (bin_s (ec _ _) ev_3 (div_t hv12))) ?_
    obtain ⟨v13, hv13, h⟩ := bnd h
    refine wp_seqW (wp_join (R := (fun (s21 : Int) ρ => ρ = [.sh (eI a_size), .sh (eI s21), .sh (eI x7), .sh (eI v9), .sh (eI v12), j5, j6])) (fun s h => ?_) h ?_)
    · refine ite_elim h (fun c14 h => ?_) (fun c14 h => ?_)
      · refine wp_if_t (tb_ (bin_s (bin_s ev_0 ev_4 (mod_t hv13)) (ec _ _) (eq_i _ _))) c14 ?_
        obtain ⟨v18, hv18, h⟩ := bnd h
        obtain ⟨v19, hv19, h⟩ := bnd h
        obtain ⟨x20, hx20, h⟩ := bnd h
        refine wp_st (ρ1 := [.sh (eI a_size), .sh (eI x20), .sh (eI x7), .sh (eI v9), .sh (eI v12), j5, j6]) (by rw [← Option.some.inj hx20]; exact (aug_ rfl (pk_s (fn_s (ρ2 := [.sh (eI a_size), .sh (eI s1), .sh (eI x7), .sh (eI v9), .sh (eI v12), j5, j6]) (ac_ (fr_s ev_3) (ac_ (fr_s (bin_s ev_0 ev_4 (div_t hv18))) (an_ _))) rfl rfl (sim__choices (a_n := v9) (a_k := v18) hv19) rfl)) rfl (iadd_i _ _))) ?_
        cases h
        exact ⟨_, rfl, rfl⟩
      · refine wp_if_f (tb_ (bin_s (bin_s ev_0 ev_4 (mod_t hv13)) (ec _ _) (eq_i _ _))) c14 ?_
        refine wp_nil ?_
        cases h
        exact ⟨_, rfl, rfl⟩
    · intro s21 ρ hR h
      obtain rfl := hR
      refine qs_nx ?_
      obtain ⟨x22, hx22, h⟩ := bnd h
      refine wp_seq (ρ1 := [.sh (eI a_size), .sh (eI s21), .sh (eI x7), .sh (eI v9), .sh (eI v12), .sh (eI x22), j6]) (by rw [← Option.some.inj hx22]; exact (set_s (pk_s (cp_s (eif_e (e := eI) (x := 2) (y := 0) (tb_ (bin_s (bin_s ev_2 (ec _ _) (mod_l _ _)) (ec _ _) (eq_i _ _))) (ec _ _) (ec _ _)))))) ?_
      obtain ⟨r23, hr23, h⟩ := bnd h
      refine (wp_fold (R := (fun (s24 : Int) ρ => ∃ j25, ρ = [.sh (eI a_size), .sh (eI s24), .sh (eI x7), .sh (eI v9), .sh (eI v12), .sh (eI x22), j25])) (e := eI) (s0 := s21) (irng_ (e := eI) (ac_ (bin_s ev_5 (ec _ _) (add_i _ _)) (an_ _)) rfl (rng1_t hr23)) ⟨_, rfl⟩ (fun x26 s24 s' ρ hx hR h => ?_) h ?_)
      · obtain ⟨j25, rfl⟩ := hR
        refine ⟨[.sh (eI a_size), .sh (eI s24), .sh (eI x7), .sh (eI v9), .sh (eI v12), .sh (eI x22), .sh (eI x26)], rfl, ?_⟩
        refine ite_elim h (fun c27 h => ?_) (fun c27 h => ?_)
        · refine wp_if_t (tb_ (bin_s (bin_s (bin_s ev_0 ev_6 (sub_i _ _)) (ec _ _) (mod_l _ _)) (ec _ _) (eq_i _ _))) c27 ?_
          obtain ⟨v28, hv28, h⟩ := bnd h
          obtain ⟨v29, hv29, h⟩ := bnd h
          obtain ⟨v30, hv30, h⟩ := bnd h
          obtain ⟨x31, hx31, h⟩ := bnd h
          refine wp_st (ρ1 := [.sh (eI a_size), .sh (eI x31), .sh (eI x7), .sh (eI v9), .sh (eI v12), .sh (eI x22), .sh (eI x26)]) (by rw [← Option.some.inj hx31]; exact (aug_ rfl (pk_s (bin_s (fn_s (ρ2 := [.sh (eI a_size), .sh (eI s24), .sh (eI x7), .sh (eI v9), .sh (eI v12), .sh (eI x22), .sh (eI x26)]) (ac_ (fr_s ev_5) (ac_ (fr_s ev_6) (an_ _))) rfl rfl (sim__choices (a_n := x22) (a_k := x26) hv28) rfl) (fn_s (ρ2 := [.sh (eI a_size), .sh (eI s24), .sh (eI x7), .sh (eI v9), .sh (eI v12), .sh (eI x22), .sh (eI x26)]) (ac_ (fr_s (bin_s (bin_s (ec _ _) ev_5 (sub_i _ _)) (ec _ _) (div_l _ _))) (ac_ (fr_s (bin_s (bin_s ev_0 ev_6 (sub_i _ _)) (ec _ _) (div_l _ _))) (an_ _))) rfl rfl (sim__choices (a_n := ((12 - x22) / 2)) (a_k := ((a_size - x26) / 2)) hv29) rfl) (mul_t hv30))) rfl (iadd_i _ _))) ?_
          cases h
          exact ⟨_, .inl rfl, ⟨_, rfl⟩⟩
        · refine wp_if_f (tb_ (bin_s (bin_s (bin_s ev_0 ev_6 (sub_i _ _)) (ec _ _) (mod_l _ _)) (ec _ _) (eq_i _ _))) c27 ?_
          refine wp_nil ?_
          cases h
          exact ⟨_, .inl rfl, ⟨_, rfl⟩⟩
      · intro s32 ρ hR h
        obtain ⟨j33, rfl⟩ := hR
        cases h
        exact ⟨_, .inl rfl, ⟨_, _, _, _, _, rfl⟩⟩
  · intro s34 ρ hR h
    obtain ⟨j35, j36, j37, j38, j39, rfl⟩ := hR
    refine qs_nx ?_
    obtain ⟨v40, hv40, h⟩ := bnd h
    refine wp_ret (bin_s ev_1 (bin_s (ec _ _) (ec _ _) (mul_l _ _)) (div_t hv40)) ?_
    cases h
    exact rt_i rfl rfl
/-! _law_plain -/
def t__law_plain : Nat → Dv → Option Bool
  | 0, _ => none
  | fuel + 1, a_thing =>
    (isiO "tuple" a_thing).bind fun v1 =>
    if v1 = true then ((itemsO a_thing).bind fun v4 =>
    (szO (lcO (fun (x5 : Dv) => (t__law_plain fuel x5).bind fun v6 => if (!v6) = true then (some (some x5)) else some none) v4)).bind fun y7 =>
    (eqD ((eL eA) y7) ((eL eA) [])).bind fun v8 =>
    some (v8)) else ((isiO "int" a_thing).bind fun v9 =>
    ((if v9 = true then ((isiO "bool" a_thing).bind fun v10 => some (!v10)) else some false)).bind fun v11 =>
    some v11)
theorem sim__law_plain : ∀ {fuel : Nat} {a_thing : Dv} {r : Bool} (h : t__law_plain fuel a_thing = some r), F__law_plain fuel [.sh (eA a_thing)] = some (.sh (eB r), [.sh (eA a_thing)])
  | 0, _, _, h => by cases h
  | fuel + 1, a_thing, r, h => by
    unfold t__law_plain at h
    refine run_wp rfl (fun i => by intro z; cases z) ?_
    show Wp (g__law_plain (F__law_plain fuel) [.sh (eA a_thing), .no]) _
    unfold g__law_plain
    obtain ⟨v1, hv1, h⟩ := bnd h
    refine wp_seqW ?_
    refine ite_elim h (fun c2 h => ?_) (fun c2 h => ?_)
    · refine wp_if_t (tv_ (pk_s (un_gs ev_0 rfl (isi_a hv1))) rfl (tru_b _)) c2 ?_
      obtain ⟨v4, hv4, h⟩ := bnd h
      obtain ⟨y7, hy7, h⟩ := bnd h
      obtain ⟨v8, hv8, h⟩ := bnd h
      refine wp_ret (bin_gs (pk_o (lc_ (W := [.sh (eA a_thing), .no]) (e := eA) (e' := eA) (iseq_a (fr_s ev_0) hv4) rfl rfl (fun x5 _ _ h => by obtain ⟨v6, hv6, h⟩ := bnd h; exact ite_elim h (fun c3 h => by rw [← Option.some.inj h]; exact ⟨[.sh (eA a_thing), .sh (eA x5)], rfl, _, _, tcong (tno_ (tv_ (pk_s (fn_s (ρ2 := [.sh (eA a_thing), .sh (eA x5)]) (ac_ (fr_s ev_1) (an_ _)) rfl rfl (sim__law_plain (a_thing := x5) hv6) rfl)) rfl (tru_b _))) c3, (fr_s ev_1), rfl⟩) (fun c3 h => by rw [← Option.some.inj h]; exact ⟨[.sh (eA a_thing), .sh (eA x5)], rfl, _, tcong (tno_ (tv_ (pk_s (fn_s (ρ2 := [.sh (eA a_thing), .sh (eA x5)]) (ac_ (fr_s ev_1) (an_ _)) rfl rfl (sim__law_plain (a_thing := x5) hv6) rfl)) rfl (tru_b _))) c3, rfl⟩)) hy7)) (pk_o (lst_ (an_ _) rfl (few' rfl))) rfl rfl (eq_a hv8)) ?_
      refine qs_rt ?_
      cases h
      exact rt_i rfl rfl
    · refine wp_if_f (tv_ (pk_s (un_gs ev_0 rfl (isi_a hv1))) rfl (tru_b _)) c2 ?_
      refine wp_nil ?_
      refine qs_nx ?_
      obtain ⟨v9, hv9, h⟩ := bnd h
      obtain ⟨v11, hv11, h⟩ := bnd h
      refine wp_ret (fr_s (show _ = some (Rv.sh (eB v11), ([.sh (eA a_thing), .no] : Rho)) from ite_elim hv11 (fun c12 h => by obtain ⟨v10, hv10, h⟩ := bnd h; rw [← Option.some.inj h]; exact eand_t (pk_s (un_gs ev_0 rfl (isi_a hv9))) rfl rfl c12 (enot_ (pk_s (un_gs ev_0 rfl (isi_a hv10))) rfl (tru_b _))) (fun c12 h => by rw [← Option.some.inj h]; exact eand_fb (un_gs ev_0 rfl (isi_a hv9)) c12))) ?_
      cases h
      exact rt_i rfl rfl
/-! _law_steps -/
def t__law_steps (a_chord : (List Int)) : Option (List Int) :=
(repLO [0] 6).bind fun v1 =>
(foldO (fun (x5 : Int) (s2 : (List Int)) => (foldO (fun (x8 : Int) (s6 : (List Int)) => if (decide (x5 < x8)) = true then ((atI s6 ((if ((12 - x8) + x5) < (x8 - x5) then ((12 - x8) + x5) else (x8 - x5)) - 1)).bind fun v10 =>
(setO s6 ((if ((12 - x8) + x5) < (x8 - x5) then ((12 - x8) + x5) else (x8 - x5)) - 1) (v10 + 1)).bind fun v11 =>
some v11) else (some s6)) a_chord s2).bind fun (s12 : (List Int)) =>
some s12) a_chord v1).bind fun (s14 : (List Int)) =>
some s14
theorem sim__law_steps {a_chord : (List Int)} {r : (List Int)} (h : t__law_steps a_chord = some r) : F__law_steps [.sh ((eT eI) a_chord)] = some (.sh ((eT eI) r), [.sh ((eT eI) a_chord)]) := by
  unfold t__law_steps at h
  refine run_wp rfl (fun i => by intro z; cases z) ?_
  show Wp (g__law_steps [.sh ((eT eI) a_chord), .no, .no, .no]) _
  unfold g__law_steps
  obtain ⟨v1, hv1, h⟩ := bnd h
  refine wp_seq (ρ1 := [.sh ((eT eI) a_chord), .ow (.lst (List.map eI v1)), .no, .no]) (set_o (bin_go (pk_o (lst_ (ac_ (ec _ _) (an_ _)) rfl (few' rfl))) (pk_s (ec _ _)) rfl rfl (repL_e (e := eI) (xs := [0]) (k := 6) hv1))) ?_
  refine wp_seqW (wp_fold (R := (fun (s2 : (List Int)) ρ => ∃ j3 j4, ρ = [.sh ((eT eI) a_chord), .ow (.lst (List.map eI s2)), j3, j4])) (e := eI) (s0 := v1) (iseq_t (e := eI) (fr_s ev_0)) ⟨_, _, rfl⟩ (fun x5 s2 s' ρ hx hR h => ?_) h ?_)
  · obtain ⟨j3, j4, rfl⟩ := hR
    refine ⟨[.sh ((eT eI) a_chord), .ow (.lst (List.map eI s2)), .sh (eI x5), j4], rfl, ?_⟩
    refine (wp_fold (R := (fun (s6 : (List Int)) ρ => ∃ j7, ρ = [.sh ((eT eI) a_chord), .ow (.lst (List.map eI s6)), .sh (eI x5), j7])) (e := eI) (s0 := s2) (iseq_t (e := eI) (fr_s ev_0)) ⟨_, rfl⟩ (fun x8 s6 s' ρ hx hR h => ?_) h ?_)
    · obtain ⟨j7, rfl⟩ := hR
      refine ⟨[.sh ((eT eI) a_chord), .ow (.lst (List.map eI s6)), .sh (eI x5), .sh (eI x8)], rfl, ?_⟩
      refine ite_elim h (fun c9 h => ?_) (fun c9 h => ?_)
      · refine wp_if_t (tb_ (bin_s ev_2 ev_3 (cmp_i _ _ _))) c9 ?_
        obtain ⟨v10, hv10, h⟩ := bnd h
        obtain ⟨v11, hv11, h⟩ := bnd h
        refine wp_st (ρ1 := [.sh ((eT eI) a_chord), .ow (.lst (List.map eI v11)), .sh (eI x5), .sh (eI x8)]) (augS_ eva_1 (pk_s (bin_s (call_s (ac_ (bin_s ev_3 ev_2 (sub_i _ _)) (ac_ (bin_s (bin_s (ec _ _) ev_3 (sub_i _ _)) ev_2 (add_i _ _)) (an_ _))) rfl (min2_i _ _)) (ec _ _) (sub_i _ _))) rfl rfl rfl (getl_e (e := eI) hv10) (pk_s (ec _ _)) rfl (iadd_i _ _) rfl (set_e (e := eI) hv11)) ?_
        cases h
        exact ⟨_, .inl rfl, ⟨_, rfl⟩⟩
      · refine wp_if_f (tb_ (bin_s ev_2 ev_3 (cmp_i _ _ _))) c9 ?_
        refine wp_nil ?_
        cases h
        exact ⟨_, .inl rfl, ⟨_, rfl⟩⟩
    · intro s12 ρ hR h
      obtain ⟨j13, rfl⟩ := hR
      cases h
      exact ⟨_, .inl rfl, ⟨_, _, rfl⟩⟩
  · intro s14 ρ hR h
    obtain ⟨j15, j16, rfl⟩ := hR
    refine qs_nx ?_
    refine wp_ret (fr_s (call_s (ac_ eva_1 (an_ _)) rfl (tupL_e (e := eI) s14))) ?_
    cases h
    exact rt_i rfl rfl
/-! _law_form -/
def t__law_form (a_chord : (List Int)) : Option ((List Int) × Int × Int) :=
(t__law_images a_chord).bind fun v1 =>
(szO (lcO (fun (x3 : (List Int)) => if ((eqE (eT eI) a_chord []) || (inE eI 0 x3)) = true then (some (some x3)) else some none) v1)).bind fun y4 =>
(minO (eT eI) y4).bind fun v5 =>
(idxO (eT eI) v1 v5).bind fun v6 =>
(some ((v6 : Nat) : Int)).bind fun x7 =>
some (v5, (x7 % 12), (x7 / 12))
theorem sim__law_form {a_chord : (List Int)} {r : ((List Int) × Int × Int)} (h : t__law_form a_chord = some r) : F__law_form [.sh ((eT eI) a_chord)] = some (.sh ((e3 (eT eI) eI eI) r), [.sh ((eT eI) a_chord)]) := by
  unfold t__law_form at h
  refine run_wp rfl (fun i => by intro z; cases z) ?_
  show Wp (g__law_form [.sh ((eT eI) a_chord), .no, .no, .no, .no]) _
  unfold g__law_form
  obtain ⟨v1, hv1, h⟩ := bnd h
  refine wp_seq (ρ1 := [.sh ((eT eI) a_chord), .sh ((eL (eT eI)) v1), .no, .no, .no]) (set_s (pk_s (fn_s (ρ2 := [.sh ((eT eI) a_chord), .no, .no, .no, .no]) (ac_ (fr_s ev_0) (an_ _)) rfl rfl (sim__law_images (a_chord := a_chord) hv1) rfl))) ?_
  obtain ⟨y4, hy4, h⟩ := bnd h
  obtain ⟨v5, hv5, h⟩ := bnd h
  refine wp_seq (ρ1 := [.sh ((eT eI) a_chord), .sh ((eL (eT eI)) v1), .sh ((eT eI) v5), .no, .no]) (set_s (pk_s (call_s (ac_ (lc_ (W := [.sh ((eT eI) a_chord), .sh ((eL (eT eI)) v1), .no, .no, .no]) (e := (eT eI)) (e' := (eT eI)) (iseq_l (e := (eT eI)) (fr_s ev_1)) rfl rfl (fun x3 _ _ h => by exact ite_elim h (fun c2 h => by rw [← Option.some.inj h]; exact ⟨[.sh ((eT eI) a_chord), .sh ((eL (eT eI)) v1), .no, .no, .sh ((eT eI) x3)], rfl, _, _, tcong (tor_ (tb_ (bin_s ev_0 (tup_ (an_ _) rfl (few' rfl)) (eq_e (e := (eT eI)) a_chord []))) (tb_ (bin_s (ec _ _) ev_4 (int_e (e := eI) 0 x3)))) c2, (fr_s ev_4), rfl⟩) (fun c2 h => by rw [← Option.some.inj h]; exact ⟨[.sh ((eT eI) a_chord), .sh ((eL (eT eI)) v1), .no, .no, .sh ((eT eI) x3)], rfl, _, tcong (tor_ (tb_ (bin_s ev_0 (tup_ (an_ _) rfl (few' rfl)) (eq_e (e := (eT eI)) a_chord []))) (tb_ (bin_s (ec _ _) ev_4 (int_e (e := eI) 0 x3)))) c2, rfl⟩)) hy4) (an_ _)) rfl (minL_e hv5)))) ?_
  obtain ⟨v6, hv6, h⟩ := bnd h
  obtain ⟨x7, hx7, h⟩ := bnd h
  refine wp_seq (ρ1 := [.sh ((eT eI) a_chord), .sh ((eL (eT eI)) v1), .sh ((eT eI) v5), .sh (eI x7), .no]) (by rw [← Option.some.inj hx7]; exact (set_s (pk_s (idx_ (e := (eT eI)) (by decide) hv6 ev_1 (ac_ (fr_s ev_2) (an_ _)))))) ?_
  refine wp_ret (tup_ (ac_ (fr_s ev_2) (ac_ (fr_s (bin_s (call_s (ac_ ev_3 (an_ _)) rfl (int_i _)) (ec _ _) (mod_l _ _))) (ac_ (fr_s (bin_s ev_3 (ec _ _) (div_l _ _))) (an_ _)))) rfl (few' rfl)) ?_
  cases h
  exact rt_i rfl rfl
/-! law -/
def t_law (ds : List Int) (a_script : (List Int)) : Option Bool :=
forB (r := Bool) (fun (x8 : Int) (s1 : Nat) => (nextO ds s1 3).bind fun v9 =>
(some (2 + v9.1)).bind fun x10 =>
(szwO (lcwO (fun (x15 : Int) (n16 : Nat) => (nextO ds n16 x10).bind fun v17 => if (decide (v17.1 = 0)) = true then (some (some x15, v17.2)) else some (none, v17.2)) (rangeI 0 (Int.toNat 12)) v9.2)).bind fun y18 =>
(nextO ds y18.2 12).bind fun v19 =>
(t_moved_chord y18.1 v19.1).bind fun v20 =>
(t__law_moved y18.1 v19.1).bind fun v21 =>
(t_mirrored_chord y18.1).bind fun v22 =>
(t__law_mirrored y18.1).bind fun v23 =>
(t_steps_of y18.1).bind fun v24 =>
(t__law_steps y18.1).bind fun v25 =>
(some [(((eT eI) v20), ((eT eI) v21)), (((eT eI) v22), ((eT eI) v23)), (((eT eI) v24), ((eT eI) v25))]).bind fun x26 =>
(t__law_mirrored y18.1).bind fun v27 =>
(t__law_moved v27 v19.1).bind fun v28 =>
(t__law_moved y18.1 v19.1).bind fun v29 =>
(plusO y18.1 [v19.1]).bind fun v30 =>
(ssetO eI 1000 v30).bind fun v31 =>
(foldO (fun (x34 : (List Int)) (s32 : (List (Dv × Dv))) => (t_chord_form x34).bind fun v35 =>
(t__law_form x34).bind fun v36 =>
(pushO s32 (((e3 (eT eI) eI eI) v35), ((e3 (eT eI) eI eI) v36))).bind fun v37 =>
some v37) [y18.1, v28, v29, v31] x26).bind fun (s38 : (List (Dv × Dv))) =>
(szO (lcO (fun (x41 : (Dv × Dv)) => (t__law_plain 4 x41.1).bind fun v42 => ((if (!v42) = true then some true else ((eqD x41.1 x41.2).bind fun v43 => some (!v43)))).bind fun v44 => if v44 = true then (some (some x41.1)) else some none) s38)).bind fun y46 =>
(eqD ((eL eA) y46) ((eL eA) [])).bind fun v47 =>
if (!v47) = true then (some (.rt false)) else (some (.nx v19.2))) (rangeI 0 (Int.toNat 4)) 0 (fun (s49 : Nat) => (pickO ds s49 [0, 1, 2, 3, 9, 10, 11, 12, 4, 8]).bind fun v56 =>
(t_all_chords v56.1).bind fun v57 =>
(t__law_forms v56.1).bind fun v58 =>
(t__law_plain 4 ((eT (eT eI)) v57)).bind fun v59 =>
((if (!v59) = true then some true else (((if (!eqE (eL (eT eI)) v57 v58) = true then some true else ((t_count_chords v56.1).bind fun v60 => some (!decide (v60 = (List.length v58 : Int)))))).bind fun v61 => some v61))).bind fun v63 =>
if v63 = true then (some false) else ((nextO ds v56.2 9).bind fun v66 =>
if (decide (v66.1 = 0)) = true then ((foldO (fun (x73 : Int) (s68 : (List ((List Int) × (List Int)))) => (t__law_forms x73).bind fun v74 =>
(szO (mapO (fun (x76 : (List Int)) => (t__law_steps x76).bind fun v77 => some v77) v74)).bind fun y78 =>
(rngO1 (List.length v74 : Int)).bind fun r79 =>
(foldO (fun (x82 : Int) (s80 : (List ((List Int) × (List Int)))) => (rngO1 x82).bind fun r84 =>
(szO (lcO (fun (x85 : Int) => (atI y78 x85).bind fun v86 => (atI y78 x82).bind fun v87 => if (eqE (eT eI) v86 v87) = true then ((atI v74 x85).bind fun v88 => (atI v74 x82).bind fun v89 => some (some (v88, v89))) else some none) r84)).bind fun y90 =>
(plusO s80 y90).bind fun v91 =>
some v91) r79 s68).bind fun (s92 : (List ((List Int) × (List Int)))) =>
some s92) (rangeI 0 (Int.toNat 7)) []).bind fun (s94 : (List ((List Int) × (List Int)))) =>
(t_twins ).bind fun v99 =>
(t__law_plain 4 ((eT (e2 (eT eI) (eT eI))) v99)).bind fun v100 =>
((if v100 = true then ((srtO (e2 (eT eI) (eT eI)) s94).bind fun v101 => some (eqE (eL (e2 (eT eI) (eT eI))) v99 v101)) else some false)).bind fun v102 =>
some v102) else ((nextO ds v66.2 13).bind fun v104 =>
(t_count_chords v104.1).bind fun v105 =>
(t_count_chords (12 - v104.1)).bind fun v106 =>
some (decide (v105 = v106))))) (fun x => some x)
theorem sim_law (ds : List Int) {a_script : (List Int)} {r : Bool} (hd : F__law_draws [.sh (eL eI a_script), .sh (eI 300)] = some (.ow (.lst (List.map eI ds)), [.sh (eL eI a_script), .sh (eI 300)])) (h : t_law ds a_script = some r) : F_law [.sh ((eL eI) a_script)] = some (.sh (eB r), [.sh ((eL eI) a_script)]) := by
  unfold t_law at h
  refine run_wp rfl (fun i => by intro z; cases z) ?_
  show Wp (g_law [.sh ((eL eI) a_script), .no, .no, .no, .no, .no, .no, .no, .no, .no, .no, .no, .no, .no, .no, .no, .no, .no]) _
  unfold g_law
  refine wp_seq (ρ1 := [.sh ((eL eI) a_script), .ow (W1 ds 0), .no, .no, .no, .no, .no, .no, .no, .no, .no, .no, .no, .no, .no, .no, .no, .no]) (w_init rfl hd) ?_
  refine wp_seqW (wp_for (R := (fun (s1 : Nat) ρ => ∃ j2 j3 j4 j5 j6 j7, ρ = [.sh ((eL eI) a_script), .ow (W1 ds s1), j2, j3, j4, j5, j6, j7, .no, .no, .no, .no, .no, .no, .no, .no, .no, .no])) (Qr := fun (x : Bool) => Rt [.sh ((eL eI) a_script)] [] (.sh (eB x)) [.sh ((eL eI) a_script)]) (e := eI) (s0 := 0) (irng_ (e := eI) (ac_ (ec _ _) (an_ _)) rfl (rng1_l _)) ⟨_, _, _, _, _, _, rfl⟩ (fun x8 s1 s' ρ hx hR h => ?_) h ?_ (fun x rv ρ hk hq => by cases hk; exact hq))
  · obtain ⟨j2, j3, j4, j5, j6, j7, rfl⟩ := hR
    refine ⟨[.sh ((eL eI) a_script), .ow (W1 ds s1), .sh (eI x8), j3, j4, j5, j6, j7, .no, .no, .no, .no, .no, .no, .no, .no, .no, .no], rfl, ?_⟩
    obtain ⟨v9, hv9, h⟩ := bnd h
    obtain ⟨x10, hx10, h⟩ := bnd h
    refine wp_seq (ρ1 := [.sh ((eL eI) a_script), .ow (W1 ds v9.2), .sh (eI x8), .sh (eI x10), j4, j5, j6, j7, .no, .no, .no, .no, .no, .no, .no, .no, .no, .no]) (by rw [← Option.some.inj hx10]; exact (set_s (bin_s (ec _ _) (fn_s (ρ2 := [.sh ((eL eI) a_script), .ow (W1 ds v9.2), .sh (eI x8), j3, j4, j5, j6, j7, .no, .no, .no, .no, .no, .no, .no, .no, .no, .no]) (ac_ eva_1 (ac_ (ec _ _) (an_ _))) rfl rfl (sim_next hv9) rfl) (add_i _ _)))) ?_
    obtain ⟨y18, hy18, h⟩ := bnd h
    refine wp_seq (ρ1 := [.sh ((eL eI) a_script), .ow (W1 ds y18.2), .sh (eI x8), .sh (eI x10), .sh ((eT eI) y18.1), j5, j6, j7, .no, .no, .no, .no, .no, .no, .no, .no, .no, .no]) (set_s (pk_s (call_s (ac_ (lcw_ (W := fun n16 => [.sh ((eL eI) a_script), .ow (W1 ds n16), .sh (eI x8), .sh (eI x10), j4, j5, j6, j7, .no, .no, .no, .no, .no, .no, .no, .no, .no, .no]) (B := fun n16 => [.sh ((eL eI) a_script), .ow (W1 ds n16), .sh (eI x8), .sh (eI x10), j4, j5, j6, j7, .no, .no, .no, .no, .no, .no, .no, .no, .no, .no]) (s := v9.2) (s' := y18.2) (e := eI) (e' := eI) (irng_ (e := eI) (ac_ (ec _ _) (an_ _)) rfl (rng1_l _)) rfl rfl (fun x15 n16 _ _ h => by obtain ⟨v17, hv17, h⟩ := bnd h; exact ite_elim h (fun c14 h => by rw [← Option.some.inj h]; exact ⟨[.sh ((eL eI) a_script), .ow (W1 ds n16), .sh (eI x8), .sh (eI x10), j4, j5, j6, j7, .no, .no, .no, .no, .no, .no, .no, .sh (eI x15), .no, .no], rfl, _, [.sh ((eL eI) a_script), .ow (W1 ds v17.2), .sh (eI x8), .sh (eI x10), j4, j5, j6, j7, .no, .no, .no, .no, .no, .no, .no, .sh (eI x15), .no, .no], tcong (tb_ (bin_s (fn_s (ρ2 := [.sh ((eL eI) a_script), .ow (W1 ds v17.2), .sh (eI x8), .sh (eI x10), j4, j5, j6, j7, .no, .no, .no, .no, .no, .no, .no, .sh (eI x15), .no, .no]) (ac_ eva_1 (ac_ (fr_s ev_3) (an_ _))) rfl rfl (sim_next hv17) rfl) (ec _ _) (eq_i _ _))) c14, (fr_s ev_15), rfl⟩) (fun c14 h => by rw [← Option.some.inj h]; exact ⟨[.sh ((eL eI) a_script), .ow (W1 ds n16), .sh (eI x8), .sh (eI x10), j4, j5, j6, j7, .no, .no, .no, .no, .no, .no, .no, .sh (eI x15), .no, .no], rfl, [.sh ((eL eI) a_script), .ow (W1 ds v17.2), .sh (eI x8), .sh (eI x10), j4, j5, j6, j7, .no, .no, .no, .no, .no, .no, .no, .sh (eI x15), .no, .no], tcong (tb_ (bin_s (fn_s (ρ2 := [.sh ((eL eI) a_script), .ow (W1 ds v17.2), .sh (eI x8), .sh (eI x10), j4, j5, j6, j7, .no, .no, .no, .no, .no, .no, .no, .sh (eI x15), .no, .no]) (ac_ eva_1 (ac_ (fr_s ev_3) (an_ _))) rfl rfl (sim_next hv17) rfl) (ec _ _) (eq_i _ _))) c14, rfl⟩)) (fun _ => rfl) (fun _ => rfl) hy18) (an_ _)) rfl (tupL_e (e := eI) y18.1)))) ?_
    obtain ⟨v19, hv19, h⟩ := bnd h
    refine wp_seq (ρ1 := [.sh ((eL eI) a_script), .ow (W1 ds v19.2), .sh (eI x8), .sh (eI x10), .sh ((eT eI) y18.1), .sh (eI v19.1), j6, j7, .no, .no, .no, .no, .no, .no, .no, .no, .no, .no]) (set_s (pk_s (fn_s (ρ2 := [.sh ((eL eI) a_script), .ow (W1 ds v19.2), .sh (eI x8), .sh (eI x10), .sh ((eT eI) y18.1), j5, j6, j7, .no, .no, .no, .no, .no, .no, .no, .no, .no, .no]) (ac_ eva_1 (ac_ (ec _ _) (an_ _))) rfl rfl (sim_next hv19) rfl))) ?_
    obtain ⟨v20, hv20, h⟩ := bnd h
    obtain ⟨v21, hv21, h⟩ := bnd h
    obtain ⟨v22, hv22, h⟩ := bnd h
    obtain ⟨v23, hv23, h⟩ := bnd h
    obtain ⟨v24, hv24, h⟩ := bnd h
    obtain ⟨v25, hv25, h⟩ := bnd h
    obtain ⟨x26, hx26, h⟩ := bnd h
    refine wp_seq (ρ1 := [.sh ((eL eI) a_script), .ow (W1 ds v19.2), .sh (eI x8), .sh (eI x10), .sh ((eT eI) y18.1), .sh (eI v19.1), .ow (.lst (List.map (e2 eA eA) x26)), j7, .no, .no, .no, .no, .no, .no, .no, .no, .no, .no]) (by rw [← Option.some.inj hx26]; exact (set_o (lst_ (ac_ (tup_ (ac_ (fr_s (fn_s (ρ2 := [.sh ((eL eI) a_script), .ow (W1 ds v19.2), .sh (eI x8), .sh (eI x10), .sh ((eT eI) y18.1), .sh (eI v19.1), j6, j7, .no, .no, .no, .no, .no, .no, .no, .no, .no, .no]) (ac_ (fr_s ev_4) (ac_ (fr_s ev_5) (an_ _))) rfl rfl (sim_moved_chord (a_chord := y18.1) (a_k := v19.1) hv20) rfl)) (ac_ (fr_s (fn_s (ρ2 := [.sh ((eL eI) a_script), .ow (W1 ds v19.2), .sh (eI x8), .sh (eI x10), .sh ((eT eI) y18.1), .sh (eI v19.1), j6, j7, .no, .no, .no, .no, .no, .no, .no, .no, .no, .no]) (ac_ (fr_s ev_4) (ac_ (fr_s ev_5) (an_ _))) rfl rfl (sim__law_moved (a_chord := y18.1) (a_k := v19.1) hv21) rfl)) (an_ _))) rfl (few' rfl)) (ac_ (tup_ (ac_ (fr_s (fn_s (ρ2 := [.sh ((eL eI) a_script), .ow (W1 ds v19.2), .sh (eI x8), .sh (eI x10), .sh ((eT eI) y18.1), .sh (eI v19.1), j6, j7, .no, .no, .no, .no, .no, .no, .no, .no, .no, .no]) (ac_ (fr_s ev_4) (an_ _)) rfl rfl (sim_mirrored_chord (a_chord := y18.1) hv22) rfl)) (ac_ (fr_s (fn_s (ρ2 := [.sh ((eL eI) a_script), .ow (W1 ds v19.2), .sh (eI x8), .sh (eI x10), .sh ((eT eI) y18.1), .sh (eI v19.1), j6, j7, .no, .no, .no, .no, .no, .no, .no, .no, .no, .no]) (ac_ (fr_s ev_4) (an_ _)) rfl rfl (sim__law_mirrored (a_chord := y18.1) hv23) rfl)) (an_ _))) rfl (few' rfl)) (ac_ (tup_ (ac_ (fr_s (fn_s (ρ2 := [.sh ((eL eI) a_script), .ow (W1 ds v19.2), .sh (eI x8), .sh (eI x10), .sh ((eT eI) y18.1), .sh (eI v19.1), j6, j7, .no, .no, .no, .no, .no, .no, .no, .no, .no, .no]) (ac_ (fr_s ev_4) (an_ _)) rfl rfl (sim_steps_of (a_chord := y18.1) hv24) rfl)) (ac_ (fr_s (fn_s (ρ2 := [.sh ((eL eI) a_script), .ow (W1 ds v19.2), .sh (eI x8), .sh (eI x10), .sh ((eT eI) y18.1), .sh (eI v19.1), j6, j7, .no, .no, .no, .no, .no, .no, .no, .no, .no, .no]) (ac_ (fr_s ev_4) (an_ _)) rfl rfl (sim__law_steps (a_chord := y18.1) hv25) rfl)) (an_ _))) rfl (few' rfl)) (an_ _)))) rfl (few' rfl)))) ?_
    obtain ⟨v27, hv27, h⟩ := bnd h
    obtain ⟨v28, hv28, h⟩ := bnd h
    obtain ⟨v29, hv29, h⟩ := bnd h
    obtain ⟨v30, hv30, h⟩ := bnd h
    obtain ⟨v31, hv31, h⟩ := bnd h
    refine wp_seqW (wp_fold (R := (fun (s32 : (List (Dv × Dv))) ρ => ∃ j33, ρ = [.sh ((eL eI) a_script), .ow (W1 ds v19.2), .sh (eI x8), .sh (eI x10), .sh ((eT eI) y18.1), .sh (eI v19.1), .ow (.lst (List.map (e2 eA eA) s32)), j33, .no, .no, .no, .no, .no, .no, .no, .no, .no, .no])) (e := (eT eI)) (s0 := x26) (iseq_t (e := (eT eI)) (fr_s (tup_ (ac_ (fr_s ev_4) (ac_ (fr_s (fn_s (ρ2 := [.sh ((eL eI) a_script), .ow (W1 ds v19.2), .sh (eI x8), .sh (eI x10), .sh ((eT eI) y18.1), .sh (eI v19.1), .ow (.lst (List.map (e2 eA eA) x26)), j7, .no, .no, .no, .no, .no, .no, .no, .no, .no, .no]) (ac_ (fr_s (fn_s (ρ2 := [.sh ((eL eI) a_script), .ow (W1 ds v19.2), .sh (eI x8), .sh (eI x10), .sh ((eT eI) y18.1), .sh (eI v19.1), .ow (.lst (List.map (e2 eA eA) x26)), j7, .no, .no, .no, .no, .no, .no, .no, .no, .no, .no]) (ac_ (fr_s ev_4) (an_ _)) rfl rfl (sim__law_mirrored (a_chord := y18.1) hv27) rfl)) (ac_ (fr_s ev_5) (an_ _))) rfl rfl (sim__law_moved (a_chord := v27) (a_k := v19.1) hv28) rfl)) (ac_ (fr_s (fn_s (ρ2 := [.sh ((eL eI) a_script), .ow (W1 ds v19.2), .sh (eI x8), .sh (eI x10), .sh ((eT eI) y18.1), .sh (eI v19.1), .ow (.lst (List.map (e2 eA eA) x26)), j7, .no, .no, .no, .no, .no, .no, .no, .no, .no, .no]) (ac_ (fr_s ev_4) (ac_ (fr_s ev_5) (an_ _))) rfl rfl (sim__law_moved (a_chord := y18.1) (a_k := v19.1) hv29) rfl)) (ac_ (fr_s (call_s (ac_ (sset_ (fr_s (bin_gs (pk_s ev_4) (pk_s (tup_ (ac_ (fr_s ev_5) (an_ _)) rfl (few' rfl))) rfl rfl (plusT_e (e := eI) hv30))) (ssI_e hv31)) (an_ _)) rfl (tupL_e (e := eI) v31))) (an_ _))))) rfl (few' rfl)))) ⟨_, rfl⟩ (fun x34 s32 s' ρ hx hR h => ?_) h ?_)
    · obtain ⟨j33, rfl⟩ := hR
      refine ⟨[.sh ((eL eI) a_script), .ow (W1 ds v19.2), .sh (eI x8), .sh (eI x10), .sh ((eT eI) y18.1), .sh (eI v19.1), .ow (.lst (List.map (e2 eA eA) s32)), .sh ((eT eI) x34), .no, .no, .no, .no, .no, .no, .no, .no, .no, .no], rfl, ?_⟩
      obtain ⟨v35, hv35, h⟩ := bnd h
      obtain ⟨v36, hv36, h⟩ := bnd h
      obtain ⟨v37, hv37, h⟩ := bnd h
      refine wp_st (ρ1 := [.sh ((eL eI) a_script), .ow (W1 ds v19.2), .sh (eI x8), .sh (eI x10), .sh ((eT eI) y18.1), .sh (eI v19.1), .ow (.lst (List.map (e2 eA eA) v37)), .sh ((eT eI) x34), .no, .no, .no, .no, .no, .no, .no, .no, .no, .no]) (expr_ (push_ (e := (e2 eA eA)) hv37 eva_6 rfl (ac_ (tup_ (ac_ (fr_s (fn_s (ρ2 := [.sh ((eL eI) a_script), .ow (W1 ds v19.2), .sh (eI x8), .sh (eI x10), .sh ((eT eI) y18.1), .sh (eI v19.1), .ow (.lst (List.map (e2 eA eA) s32)), .sh ((eT eI) x34), .no, .no, .no, .no, .no, .no, .no, .no, .no, .no]) (ac_ (fr_s ev_7) (an_ _)) rfl rfl (sim_chord_form (a_chord := x34) hv35) rfl)) (ac_ (fr_s (fn_s (ρ2 := [.sh ((eL eI) a_script), .ow (W1 ds v19.2), .sh (eI x8), .sh (eI x10), .sh ((eT eI) y18.1), .sh (eI v19.1), .ow (.lst (List.map (e2 eA eA) s32)), .sh ((eT eI) x34), .no, .no, .no, .no, .no, .no, .no, .no, .no, .no]) (ac_ (fr_s ev_7) (an_ _)) rfl rfl (sim__law_form (a_chord := x34) hv36) rfl)) (an_ _))) rfl (few' rfl)) (an_ _)) rfl)) ?_
      cases h
      exact ⟨_, .inl rfl, ⟨_, rfl⟩⟩
    · intro s38 ρ hR h
      obtain ⟨j39, rfl⟩ := hR
      refine qs_nx ?_
      obtain ⟨y46, hy46, h⟩ := bnd h
      obtain ⟨v47, hv47, h⟩ := bnd h
      refine ite_elim h (fun c48 h => ?_) (fun c48 h => ?_)
      · refine wp_if_t (tb_ (bin_gs (pk_o (lc_ (W := [.sh ((eL eI) a_script), .ow (W1 ds v19.2), .sh (eI x8), .sh (eI x10), .sh ((eT eI) y18.1), .sh (eI v19.1), .sh ((eL (e2 eA eA)) s38), j39, .no, .no, .no, .no, .no, .no, .no, .no, .no, .no]) (e := (e2 eA eA)) (e' := eA) (iseq_l (e := (e2 eA eA)) (fr_al (ds := List.map (e2 eA eA) s38) eva_6 rfl)) rfl rfl (fun x41 _ _ h => by obtain ⟨v42, hv42, h⟩ := bnd h; obtain ⟨v44, hv44, h⟩ := bnd h; exact ite_elim h (fun c40 h => by rw [← Option.some.inj h]; exact ⟨[.sh ((eL eI) a_script), .ow (W1 ds v19.2), .sh (eI x8), .sh (eI x10), .sh ((eT eI) y18.1), .sh (eI v19.1), .sh ((eL (e2 eA eA)) s38), j39, .no, .sh (eA x41.1), .sh (eA x41.2), .no, .no, .no, .no, .no, .no, .no], rfl, _, _, tcong (show _ = some (v44, ([.sh ((eL eI) a_script), .ow (W1 ds v19.2), .sh (eI x8), .sh (eI x10), .sh ((eT eI) y18.1), .sh (eI v19.1), .sh ((eL (e2 eA eA)) s38), j39, .no, .sh (eA x41.1), .sh (eA x41.2), .no, .no, .no, .no, .no, .no, .no] : Rho)) from ite_elim hv44 (fun c45 h => by rw [← Option.some.inj h]; exact tor_t (tno_ (tv_ (pk_s (fn_s (ρ2 := [.sh ((eL eI) a_script), .ow (W1 ds v19.2), .sh (eI x8), .sh (eI x10), .sh ((eT eI) y18.1), .sh (eI v19.1), .sh ((eL (e2 eA eA)) s38), j39, .no, .sh (eA x41.1), .sh (eA x41.2), .no, .no, .no, .no, .no, .no, .no]) (ac_ (fr_s ev_9) (an_ _)) rfl rfl (sim__law_plain (a_thing := x41.1) hv42) rfl)) rfl (tru_b _))) c45) (fun c45 h => by obtain ⟨v43, hv43, h⟩ := bnd h; rw [← Option.some.inj h]; exact tor_f (tno_ (tv_ (pk_s (fn_s (ρ2 := [.sh ((eL eI) a_script), .ow (W1 ds v19.2), .sh (eI x8), .sh (eI x10), .sh ((eT eI) y18.1), .sh (eI v19.1), .sh ((eL (e2 eA eA)) s38), j39, .no, .sh (eA x41.1), .sh (eA x41.2), .no, .no, .no, .no, .no, .no, .no]) (ac_ (fr_s ev_9) (an_ _)) rfl rfl (sim__law_plain (a_thing := x41.1) hv42) rfl)) rfl (tru_b _))) c45 (tb_ (bin_s ev_9 ev_10 (ne_a hv43))))) c40, (fr_s ev_9), rfl⟩) (fun c40 h => by rw [← Option.some.inj h]; exact ⟨[.sh ((eL eI) a_script), .ow (W1 ds v19.2), .sh (eI x8), .sh (eI x10), .sh ((eT eI) y18.1), .sh (eI v19.1), .sh ((eL (e2 eA eA)) s38), j39, .no, .sh (eA x41.1), .sh (eA x41.2), .no, .no, .no, .no, .no, .no, .no], rfl, _, tcong (show _ = some (v44, ([.sh ((eL eI) a_script), .ow (W1 ds v19.2), .sh (eI x8), .sh (eI x10), .sh ((eT eI) y18.1), .sh (eI v19.1), .sh ((eL (e2 eA eA)) s38), j39, .no, .sh (eA x41.1), .sh (eA x41.2), .no, .no, .no, .no, .no, .no, .no] : Rho)) from ite_elim hv44 (fun c45 h => by rw [← Option.some.inj h]; exact tor_t (tno_ (tv_ (pk_s (fn_s (ρ2 := [.sh ((eL eI) a_script), .ow (W1 ds v19.2), .sh (eI x8), .sh (eI x10), .sh ((eT eI) y18.1), .sh (eI v19.1), .sh ((eL (e2 eA eA)) s38), j39, .no, .sh (eA x41.1), .sh (eA x41.2), .no, .no, .no, .no, .no, .no, .no]) (ac_ (fr_s ev_9) (an_ _)) rfl rfl (sim__law_plain (a_thing := x41.1) hv42) rfl)) rfl (tru_b _))) c45) (fun c45 h => by obtain ⟨v43, hv43, h⟩ := bnd h; rw [← Option.some.inj h]; exact tor_f (tno_ (tv_ (pk_s (fn_s (ρ2 := [.sh ((eL eI) a_script), .ow (W1 ds v19.2), .sh (eI x8), .sh (eI x10), .sh ((eT eI) y18.1), .sh (eI v19.1), .sh ((eL (e2 eA eA)) s38), j39, .no, .sh (eA x41.1), .sh (eA x41.2), .no, .no, .no, .no, .no, .no, .no]) (ac_ (fr_s ev_9) (an_ _)) rfl rfl (sim__law_plain (a_thing := x41.1) hv42) rfl)) rfl (tru_b _))) c45 (tb_ (bin_s ev_9 ev_10 (ne_a hv43))))) c40, rfl⟩)) hy46)) (pk_o (lst_ (an_ _) rfl (few' rfl))) rfl rfl (ne_a hv47))) c48 ?_
        refine wp_ret (ec _ _) ?_
        cases h
        exact pb_rt (rt_i rfl rfl)
      · refine wp_if_f (tb_ (bin_gs (pk_o (lc_ (W := [.sh ((eL eI) a_script), .ow (W1 ds v19.2), .sh (eI x8), .sh (eI x10), .sh ((eT eI) y18.1), .sh (eI v19.1), .sh ((eL (e2 eA eA)) s38), j39, .no, .no, .no, .no, .no, .no, .no, .no, .no, .no]) (e := (e2 eA eA)) (e' := eA) (iseq_l (e := (e2 eA eA)) (fr_al (ds := List.map (e2 eA eA) s38) eva_6 rfl)) rfl rfl (fun x41 _ _ h => by obtain ⟨v42, hv42, h⟩ := bnd h; obtain ⟨v44, hv44, h⟩ := bnd h; exact ite_elim h (fun c40 h => by rw [← Option.some.inj h]; exact ⟨[.sh ((eL eI) a_script), .ow (W1 ds v19.2), .sh (eI x8), .sh (eI x10), .sh ((eT eI) y18.1), .sh (eI v19.1), .sh ((eL (e2 eA eA)) s38), j39, .no, .sh (eA x41.1), .sh (eA x41.2), .no, .no, .no, .no, .no, .no, .no], rfl, _, _, tcong (show _ = some (v44, ([.sh ((eL eI) a_script), .ow (W1 ds v19.2), .sh (eI x8), .sh (eI x10), .sh ((eT eI) y18.1), .sh (eI v19.1), .sh ((eL (e2 eA eA)) s38), j39, .no, .sh (eA x41.1), .sh (eA x41.2), .no, .no, .no, .no, .no, .no, .no] : Rho)) from ite_elim hv44 (fun c45 h => by rw [← Option.some.inj h]; exact tor_t (tno_ (tv_ (pk_s (fn_s (ρ2 := [.sh ((eL eI) a_script), .ow (W1 ds v19.2), .sh (eI x8), .sh (eI x10), .sh ((eT eI) y18.1), .sh (eI v19.1), .sh ((eL (e2 eA eA)) s38), j39, .no, .sh (eA x41.1), .sh (eA x41.2), .no, .no, .no, .no, .no, .no, .no]) (ac_ (fr_s ev_9) (an_ _)) rfl rfl (sim__law_plain (a_thing := x41.1) hv42) rfl)) rfl (tru_b _))) c45) (fun c45 h => by obtain ⟨v43, hv43, h⟩ := bnd h; rw [← Option.some.inj h]; exact tor_f (tno_ (tv_ (pk_s (fn_s (ρ2 := [.sh ((eL eI) a_script), .ow (W1 ds v19.2), .sh (eI x8), .sh (eI x10), .sh ((eT eI) y18.1), .sh (eI v19.1), .sh ((eL (e2 eA eA)) s38), j39, .no, .sh (eA x41.1), .sh (eA x41.2), .no, .no, .no, .no, .no, .no, .no]) (ac_ (fr_s ev_9) (an_ _)) rfl rfl (sim__law_plain (a_thing := x41.1) hv42) rfl)) rfl (tru_b _))) c45 (tb_ (bin_s ev_9 ev_10 (ne_a hv43))))) c40, (fr_s ev_9), rfl⟩) (fun c40 h => by rw [← Option.some.inj h]; exact ⟨[.sh ((eL eI) a_script), .ow (W1 ds v19.2), .sh (eI x8), .sh (eI x10), .sh ((eT eI) y18.1), .sh (eI v19.1), .sh ((eL (e2 eA eA)) s38), j39, .no, .sh (eA x41.1), .sh (eA x41.2), .no, .no, .no, .no, .no, .no, .no], rfl, _, tcong (show _ = some (v44, ([.sh ((eL eI) a_script), .ow (W1 ds v19.2), .sh (eI x8), .sh (eI x10), .sh ((eT eI) y18.1), .sh (eI v19.1), .sh ((eL (e2 eA eA)) s38), j39, .no, .sh (eA x41.1), .sh (eA x41.2), .no, .no, .no, .no, .no, .no, .no] : Rho)) from ite_elim hv44 (fun c45 h => by rw [← Option.some.inj h]; exact tor_t (tno_ (tv_ (pk_s (fn_s (ρ2 := [.sh ((eL eI) a_script), .ow (W1 ds v19.2), .sh (eI x8), .sh (eI x10), .sh ((eT eI) y18.1), .sh (eI v19.1), .sh ((eL (e2 eA eA)) s38), j39, .no, .sh (eA x41.1), .sh (eA x41.2), .no, .no, .no, .no, .no, .no, .no]) (ac_ (fr_s ev_9) (an_ _)) rfl rfl (sim__law_plain (a_thing := x41.1) hv42) rfl)) rfl (tru_b _))) c45) (fun c45 h => by obtain ⟨v43, hv43, h⟩ := bnd h; rw [← Option.some.inj h]; exact tor_f (tno_ (tv_ (pk_s (fn_s (ρ2 := [.sh ((eL eI) a_script), .ow (W1 ds v19.2), .sh (eI x8), .sh (eI x10), .sh ((eT eI) y18.1), .sh (eI v19.1), .sh ((eL (e2 eA eA)) s38), j39, .no, .sh (eA x41.1), .sh (eA x41.2), .no, .no, .no, .no, .no, .no, .no]) (ac_ (fr_s ev_9) (an_ _)) rfl rfl (sim__law_plain (a_thing := x41.1) hv42) rfl)) rfl (tru_b _))) c45 (tb_ (bin_s ev_9 ev_10 (ne_a hv43))))) c40, rfl⟩)) hy46)) (pk_o (lst_ (an_ _) rfl (few' rfl))) rfl rfl (ne_a hv47))) c48 ?_
        refine wp_nil ?_
        cases h
        exact pb_nx ⟨_, _, _, _, _, _, rfl⟩
  · intro s49 ρ hR h
    obtain ⟨j50, j51, j52, j53, j54, j55, rfl⟩ := hR
    refine qs_nx ?_
    obtain ⟨v56, hv56, h⟩ := bnd h
    refine wp_seq (ρ1 := [.sh ((eL eI) a_script), .ow (W1 ds v56.2), j50, j51, j52, j53, j54, j55, .sh (eI v56.1), .no, .no, .no, .no, .no, .no, .no, .no, .no]) (set_s (pk_s (fn_s (ρ2 := [.sh ((eL eI) a_script), .ow (W1 ds v56.2), j50, j51, j52, j53, j54, j55, .no, .no, .no, .no, .no, .no, .no, .no, .no, .no]) (ac_ eva_1 (ac_ (fr_o (lst_ (ac_ (ec _ _) (ac_ (ec _ _) (ac_ (ec _ _) (ac_ (ec _ _) (ac_ (ec _ _) (ac_ (ec _ _) (ac_ (ec _ _) (ac_ (ec _ _) (ac_ (ec _ _) (ac_ (ec _ _) (an_ _))))))))))) rfl (few' rfl))) (an_ _))) rfl rfl (sim_pick (e := eI) (xs := [0, 1, 2, 3, 9, 10, 11, 12, 4, 8]) hv56) rfl))) ?_
    obtain ⟨v57, hv57, h⟩ := bnd h
    obtain ⟨v58, hv58, h⟩ := bnd h
    refine wp_seq (ρ1 := [.sh ((eL eI) a_script), .ow (W1 ds v56.2), j50, j51, j52, j53, j54, j55, .sh (eI v56.1), .sh ((eT (eT eI)) v57), .sh ((eL (eT eI)) v58), .no, .no, .no, .no, .no, .no, .no]) (par_ (ac_ (fr_s (fn_s (ρ2 := [.sh ((eL eI) a_script), .ow (W1 ds v56.2), j50, j51, j52, j53, j54, j55, .sh (eI v56.1), .no, .no, .no, .no, .no, .no, .no, .no, .no]) (ac_ (fr_s ev_8) (an_ _)) rfl rfl (sim_all_chords (a_size := v56.1) hv57) rfl)) (ac_ (fr_s (fn_s (ρ2 := [.sh ((eL eI) a_script), .ow (W1 ds v56.2), j50, j51, j52, j53, j54, j55, .sh (eI v56.1), .no, .no, .no, .no, .no, .no, .no, .no, .no]) (ac_ (fr_s ev_8) (an_ _)) rfl rfl (sim__law_forms (a_size := v56.1) hv58) rfl)) (an_ _))) rfl rfl) ?_
    obtain ⟨v59, hv59, h⟩ := bnd h
    obtain ⟨v63, hv63, h⟩ := bnd h
    refine wp_seqW ?_
    refine ite_elim h (fun c65 h => ?_) (fun c65 h => ?_)
    · refine wp_if_t (show _ = some (v63, ([.sh ((eL eI) a_script), .ow (W1 ds v56.2), j50, j51, j52, j53, j54, j55, .sh (eI v56.1), .sh ((eT (eT eI)) v57), .sh ((eL (eT eI)) v58), .no, .no, .no, .no, .no, .no, .no] : Rho)) from ite_elim hv63 (fun c64 h => by rw [← Option.some.inj h]; exact tor_t (tno_ (tv_ (pk_s (fn_s (ρ2 := [.sh ((eL eI) a_script), .ow (W1 ds v56.2), j50, j51, j52, j53, j54, j55, .sh (eI v56.1), .sh ((eT (eT eI)) v57), .sh ((eL (eT eI)) v58), .no, .no, .no, .no, .no, .no, .no]) (ac_ (fr_s ev_9) (an_ _)) rfl rfl (sim__law_plain (a_thing := ((eT (eT eI)) v57)) hv59) rfl)) rfl (tru_b _))) c64) (fun c64 h => by obtain ⟨v61, hv61, h⟩ := bnd h; rw [← Option.some.inj h]; exact tor_f (tno_ (tv_ (pk_s (fn_s (ρ2 := [.sh ((eL eI) a_script), .ow (W1 ds v56.2), j50, j51, j52, j53, j54, j55, .sh (eI v56.1), .sh ((eT (eT eI)) v57), .sh ((eL (eT eI)) v58), .no, .no, .no, .no, .no, .no, .no]) (ac_ (fr_s ev_9) (an_ _)) rfl rfl (sim__law_plain (a_thing := ((eT (eT eI)) v57)) hv59) rfl)) rfl (tru_b _))) c64 (show _ = some (v61, ([.sh ((eL eI) a_script), .ow (W1 ds v56.2), j50, j51, j52, j53, j54, j55, .sh (eI v56.1), .sh ((eT (eT eI)) v57), .sh ((eL (eT eI)) v58), .no, .no, .no, .no, .no, .no, .no] : Rho)) from ite_elim hv61 (fun c62 h => by rw [← Option.some.inj h]; exact tor_t (tb_ (bin_gs (pk_o (call_o (ac_ ev_9 (an_ _)) rfl (lstT_e (e := (eT eI)) v57))) (pk_s ev_10) rfl rfl (ne_e (e := (eL (eT eI))) v57 v58))) c62) (fun c62 h => by obtain ⟨v60, hv60, h⟩ := bnd h; rw [← Option.some.inj h]; exact tor_f (tb_ (bin_gs (pk_o (call_o (ac_ ev_9 (an_ _)) rfl (lstT_e (e := (eT eI)) v57))) (pk_s ev_10) rfl rfl (ne_e (e := (eL (eT eI))) v57 v58))) c62 (tb_ (bin_s (fn_s (ρ2 := [.sh ((eL eI) a_script), .ow (W1 ds v56.2), j50, j51, j52, j53, j54, j55, .sh (eI v56.1), .sh ((eT (eT eI)) v57), .sh ((eL (eT eI)) v58), .no, .no, .no, .no, .no, .no, .no]) (ac_ (fr_s ev_8) (an_ _)) rfl rfl (sim_count_chords (a_size := v56.1) hv60) rfl) (call_s (ac_ ev_10 (an_ _)) rfl (lenL_e (e := (eT eI)) v58)) (ne_i _ _))))))) c65 ?_
      refine wp_ret (ec _ _) ?_
      refine qs_rt ?_
      cases h
      exact rt_i rfl rfl
    · refine wp_if_f (show _ = some (v63, ([.sh ((eL eI) a_script), .ow (W1 ds v56.2), j50, j51, j52, j53, j54, j55, .sh (eI v56.1), .sh ((eT (eT eI)) v57), .sh ((eL (eT eI)) v58), .no, .no, .no, .no, .no, .no, .no] : Rho)) from ite_elim hv63 (fun c64 h => by rw [← Option.some.inj h]; exact tor_t (tno_ (tv_ (pk_s (fn_s (ρ2 := [.sh ((eL eI) a_script), .ow (W1 ds v56.2), j50, j51, j52, j53, j54, j55, .sh (eI v56.1), .sh ((eT (eT eI)) v57), .sh ((eL (eT eI)) v58), .no, .no, .no, .no, .no, .no, .no]) (ac_ (fr_s ev_9) (an_ _)) rfl rfl (sim__law_plain (a_thing := ((eT (eT eI)) v57)) hv59) rfl)) rfl (tru_b _))) c64) (fun c64 h => by obtain ⟨v61, hv61, h⟩ := bnd h; rw [← Option.some.inj h]; exact tor_f (tno_ (tv_ (pk_s (fn_s (ρ2 := [.sh ((eL eI) a_script), .ow (W1 ds v56.2), j50, j51, j52, j53, j54, j55, .sh (eI v56.1), .sh ((eT (eT eI)) v57), .sh ((eL (eT eI)) v58), .no, .no, .no, .no, .no, .no, .no]) (ac_ (fr_s ev_9) (an_ _)) rfl rfl (sim__law_plain (a_thing := ((eT (eT eI)) v57)) hv59) rfl)) rfl (tru_b _))) c64 (show _ = some (v61, ([.sh ((eL eI) a_script), .ow (W1 ds v56.2), j50, j51, j52, j53, j54, j55, .sh (eI v56.1), .sh ((eT (eT eI)) v57), .sh ((eL (eT eI)) v58), .no, .no, .no, .no, .no, .no, .no] : Rho)) from ite_elim hv61 (fun c62 h => by rw [← Option.some.inj h]; exact tor_t (tb_ (bin_gs (pk_o (call_o (ac_ ev_9 (an_ _)) rfl (lstT_e (e := (eT eI)) v57))) (pk_s ev_10) rfl rfl (ne_e (e := (eL (eT eI))) v57 v58))) c62) (fun c62 h => by obtain ⟨v60, hv60, h⟩ := bnd h; rw [← Option.some.inj h]; exact tor_f (tb_ (bin_gs (pk_o (call_o (ac_ ev_9 (an_ _)) rfl (lstT_e (e := (eT eI)) v57))) (pk_s ev_10) rfl rfl (ne_e (e := (eL (eT eI))) v57 v58))) c62 (tb_ (bin_s (fn_s (ρ2 := [.sh ((eL eI) a_script), .ow (W1 ds v56.2), j50, j51, j52, j53, j54, j55, .sh (eI v56.1), .sh ((eT (eT eI)) v57), .sh ((eL (eT eI)) v58), .no, .no, .no, .no, .no, .no, .no]) (ac_ (fr_s ev_8) (an_ _)) rfl rfl (sim_count_chords (a_size := v56.1) hv60) rfl) (call_s (ac_ ev_10 (an_ _)) rfl (lenL_e (e := (eT eI)) v58)) (ne_i _ _))))))) c65 ?_
      refine wp_nil ?_
      refine qs_nx ?_
      obtain ⟨v66, hv66, h⟩ := bnd h
      refine wp_seqW ?_
      refine ite_elim h (fun c67 h => ?_) (fun c67 h => ?_)
      · refine wp_if_t (tb_ (bin_s (fn_s (ρ2 := [.sh ((eL eI) a_script), .ow (W1 ds v66.2), j50, j51, j52, j53, j54, j55, .sh (eI v56.1), .sh ((eT (eT eI)) v57), .sh ((eL (eT eI)) v58), .no, .no, .no, .no, .no, .no, .no]) (ac_ eva_1 (ac_ (ec _ _) (an_ _))) rfl rfl (sim_next hv66) rfl) (ec _ _) (eq_i _ _))) c67 ?_
        refine wp_seq (ρ1 := [.sh ((eL eI) a_script), .ow (W1 ds v66.2), j50, j51, j52, j53, j54, j55, .sh (eI v56.1), .sh ((eT (eT eI)) v57), .sh ((eL (eT eI)) v58), .sh ((eL (e2 (eT eI) (eT eI))) []), .no, .no, .no, .no, .no, .no]) (set_s (pk_o (lst_ (an_ _) rfl (few' rfl)))) ?_
        refine wp_seqW (wp_fold (R := (fun (s68 : (List ((List Int) × (List Int)))) ρ => ∃ j69 j70 j71 j72, ρ = [.sh ((eL eI) a_script), .ow (W1 ds v66.2), j50, j51, j52, j69, j54, j55, .sh (eI v56.1), .sh ((eT (eT eI)) v57), .sh ((eL (eT eI)) v58), .sh ((eL (e2 (eT eI) (eT eI))) s68), j70, j71, j72, .no, .no, .no])) (e := eI) (s0 := []) (irng_ (e := eI) (ac_ (ec _ _) (an_ _)) rfl (rng1_l _)) ⟨_, _, _, _, rfl⟩ (fun x73 s68 s' ρ hx hR h => ?_) h ?_)
        · obtain ⟨j69, j70, j71, j72, rfl⟩ := hR
          refine ⟨[.sh ((eL eI) a_script), .ow (W1 ds v66.2), j50, j51, j52, j69, j54, j55, .sh (eI v56.1), .sh ((eT (eT eI)) v57), .sh ((eL (eT eI)) v58), .sh ((eL (e2 (eT eI) (eT eI))) s68), .sh (eI x73), j71, j72, .no, .no, .no], rfl, ?_⟩
          obtain ⟨v74, hv74, h⟩ := bnd h
          refine wp_seq (ρ1 := [.sh ((eL eI) a_script), .ow (W1 ds v66.2), j50, j51, j52, j69, j54, j55, .sh (eI v56.1), .sh ((eT (eT eI)) v57), .sh ((eL (eT eI)) v58), .sh ((eL (e2 (eT eI) (eT eI))) s68), .sh (eI x73), .sh ((eL (eT eI)) v74), j72, .no, .no, .no]) (set_s (pk_s (fn_s (ρ2 := [.sh ((eL eI) a_script), .ow (W1 ds v66.2), j50, j51, j52, j69, j54, j55, .sh (eI v56.1), .sh ((eT (eT eI)) v57), .sh ((eL (eT eI)) v58), .sh ((eL (e2 (eT eI) (eT eI))) s68), .sh (eI x73), j71, j72, .no, .no, .no]) (ac_ (fr_s ev_12) (an_ _)) rfl rfl (sim__law_forms (a_size := x73) hv74) rfl))) ?_
          obtain ⟨y78, hy78, h⟩ := bnd h
          refine wp_seq (ρ1 := [.sh ((eL eI) a_script), .ow (W1 ds v66.2), j50, j51, j52, j69, j54, j55, .sh (eI v56.1), .sh ((eT (eT eI)) v57), .sh ((eL (eT eI)) v58), .sh ((eL (e2 (eT eI) (eT eI))) s68), .sh (eI x73), .sh ((eL (eT eI)) v74), .sh ((eL (eT eI)) y78), .no, .no, .no]) (set_s (pk_o (lm_ (W := [.sh ((eL eI) a_script), .ow (W1 ds v66.2), j50, j51, j52, j69, j54, j55, .sh (eI v56.1), .sh ((eT (eT eI)) v57), .sh ((eL (eT eI)) v58), .sh ((eL (e2 (eT eI) (eT eI))) s68), .sh (eI x73), .sh ((eL (eT eI)) v74), j72, .no, .no, .no]) (e := (eT eI)) (e' := (eT eI)) (iseq_l (e := (eT eI)) (fr_s ev_13)) rfl rfl (fun x76 _ _ h => by obtain ⟨v77, hv77, h⟩ := bnd h; rw [← Option.some.inj h]; exact ⟨[.sh ((eL eI) a_script), .ow (W1 ds v66.2), j50, j51, j52, j69, j54, j55, .sh (eI v56.1), .sh ((eT (eT eI)) v57), .sh ((eL (eT eI)) v58), .sh ((eL (e2 (eT eI) (eT eI))) s68), .sh (eI x73), .sh ((eL (eT eI)) v74), j72, .no, .sh ((eT eI) x76), .no], [.sh ((eL eI) a_script), .ow (W1 ds v66.2), j50, j51, j52, j69, j54, j55, .sh (eI v56.1), .sh ((eT (eT eI)) v57), .sh ((eL (eT eI)) v58), .sh ((eL (e2 (eT eI) (eT eI))) s68), .sh (eI x73), .sh ((eL (eT eI)) v74), j72, .no, .sh ((eT eI) x76), .no], rfl, (fr_s (fn_s (ρ2 := [.sh ((eL eI) a_script), .ow (W1 ds v66.2), j50, j51, j52, j69, j54, j55, .sh (eI v56.1), .sh ((eT (eT eI)) v57), .sh ((eL (eT eI)) v58), .sh ((eL (e2 (eT eI) (eT eI))) s68), .sh (eI x73), .sh ((eL (eT eI)) v74), j72, .no, .sh ((eT eI) x76), .no]) (ac_ (fr_s ev_16) (an_ _)) rfl rfl (sim__law_steps (a_chord := x76) hv77) rfl)), rfl⟩) hy78))) ?_
          obtain ⟨r79, hr79, h⟩ := bnd h
          refine (wp_fold (R := (fun (s80 : (List ((List Int) × (List Int)))) ρ => ∃ j81, ρ = [.sh ((eL eI) a_script), .ow (W1 ds v66.2), j50, j51, j52, j81, j54, j55, .sh (eI v56.1), .sh ((eT (eT eI)) v57), .sh ((eL (eT eI)) v58), .sh ((eL (e2 (eT eI) (eT eI))) s80), .sh (eI x73), .sh ((eL (eT eI)) v74), .sh ((eL (eT eI)) y78), .no, .no, .no])) (e := eI) (s0 := s68) (irng_ (e := eI) (ac_ (call_s (ac_ ev_13 (an_ _)) rfl (lenL_e (e := (eT eI)) v74)) (an_ _)) rfl (rng1_t hr79)) ⟨_, rfl⟩ (fun x82 s80 s' ρ hx hR h => ?_) h ?_)
          · obtain ⟨j81, rfl⟩ := hR
            refine ⟨[.sh ((eL eI) a_script), .ow (W1 ds v66.2), j50, j51, j52, .sh (eI x82), j54, j55, .sh (eI v56.1), .sh ((eT (eT eI)) v57), .sh ((eL (eT eI)) v58), .sh ((eL (e2 (eT eI) (eT eI))) s80), .sh (eI x73), .sh ((eL (eT eI)) v74), .sh ((eL (eT eI)) y78), .no, .no, .no], rfl, ?_⟩
            obtain ⟨r84, hr84, h⟩ := bnd h
            obtain ⟨y90, hy90, h⟩ := bnd h
            obtain ⟨v91, hv91, h⟩ := bnd h
            refine wp_st (ρ1 := [.sh ((eL eI) a_script), .ow (W1 ds v66.2), j50, j51, j52, .sh (eI x82), j54, j55, .sh (eI v56.1), .sh ((eT (eT eI)) v57), .sh ((eL (eT eI)) v58), .sh ((eL (e2 (eT eI) (eT eI))) v91), .sh (eI x73), .sh ((eL (eT eI)) v74), .sh ((eL (eT eI)) y78), .no, .no, .no]) (set_s (pk_o (bin_go (pk_s ev_11) (pk_o (lc_ (W := [.sh ((eL eI) a_script), .ow (W1 ds v66.2), j50, j51, j52, .sh (eI x82), j54, j55, .sh (eI v56.1), .sh ((eT (eT eI)) v57), .sh ((eL (eT eI)) v58), .sh ((eL (e2 (eT eI) (eT eI))) s80), .sh (eI x73), .sh ((eL (eT eI)) v74), .sh ((eL (eT eI)) y78), .no, .no, .no]) (e := eI) (e' := (e2 (eT eI) (eT eI))) (irng_ (e := eI) (ac_ ev_5 (an_ _)) rfl (rng1_t hr84)) rfl rfl (fun x85 _ _ h => by obtain ⟨v86, hv86, h⟩ := bnd h; obtain ⟨v87, hv87, h⟩ := bnd h; exact ite_elim h (fun c83 h => by obtain ⟨v88, hv88, h⟩ := bnd h; obtain ⟨v89, hv89, h⟩ := bnd h; rw [← Option.some.inj h]; exact ⟨[.sh ((eL eI) a_script), .ow (W1 ds v66.2), j50, j51, j52, .sh (eI x82), j54, j55, .sh (eI v56.1), .sh ((eT (eT eI)) v57), .sh ((eL (eT eI)) v58), .sh ((eL (e2 (eT eI) (eT eI))) s80), .sh (eI x73), .sh ((eL (eT eI)) v74), .sh ((eL (eT eI)) y78), .no, .no, .sh (eI x85)], rfl, _, _, tcong (tb_ (bin_s (bin_s ev_14 ev_17 (ixl_e (e := (eT eI)) hv86)) (bin_s ev_14 ev_5 (ixl_e (e := (eT eI)) hv87)) (eq_e (e := (eT eI)) v86 v87))) c83, (fr_s (tup_ (ac_ (fr_s (bin_s ev_13 ev_17 (ixl_e (e := (eT eI)) hv88))) (ac_ (fr_s (bin_s ev_13 ev_5 (ixl_e (e := (eT eI)) hv89))) (an_ _))) rfl (few' rfl))), rfl⟩) (fun c83 h => by rw [← Option.some.inj h]; exact ⟨[.sh ((eL eI) a_script), .ow (W1 ds v66.2), j50, j51, j52, .sh (eI x82), j54, j55, .sh (eI v56.1), .sh ((eT (eT eI)) v57), .sh ((eL (eT eI)) v58), .sh ((eL (e2 (eT eI) (eT eI))) s80), .sh (eI x73), .sh ((eL (eT eI)) v74), .sh ((eL (eT eI)) y78), .no, .no, .sh (eI x85)], rfl, _, tcong (tb_ (bin_s (bin_s ev_14 ev_17 (ixl_e (e := (eT eI)) hv86)) (bin_s ev_14 ev_5 (ixl_e (e := (eT eI)) hv87)) (eq_e (e := (eT eI)) v86 v87))) c83, rfl⟩)) hy90)) rfl rfl (plusL_e (e := (e2 (eT eI) (eT eI))) hv91)))) ?_
            cases h
            exact ⟨_, .inl rfl, ⟨_, rfl⟩⟩
          · intro s92 ρ hR h
            obtain ⟨j93, rfl⟩ := hR
            cases h
            exact ⟨_, .inl rfl, ⟨_, _, _, _, rfl⟩⟩
        · intro s94 ρ hR h
          obtain ⟨j95, j96, j97, j98, rfl⟩ := hR
          refine qs_nx ?_
          obtain ⟨v99, hv99, h⟩ := bnd h
          refine wp_seq (ρ1 := [.sh ((eL eI) a_script), .ow (W1 ds v66.2), j50, j51, j52, j95, j54, j55, .sh (eI v56.1), .sh ((eT (e2 (eT eI) (eT eI))) v99), .sh ((eL (eT eI)) v58), .sh ((eL (e2 (eT eI) (eT eI))) s94), j96, j97, j98, .no, .no, .no]) (set_s (pk_s (fn_s (ρ2 := [.sh ((eL eI) a_script), .ow (W1 ds v66.2), j50, j51, j52, j95, j54, j55, .sh (eI v56.1), .sh ((eT (eT eI)) v57), .sh ((eL (eT eI)) v58), .sh ((eL (e2 (eT eI) (eT eI))) s94), j96, j97, j98, .no, .no, .no]) (an_ _) rfl rfl (sim_twins  hv99) rfl))) ?_
          obtain ⟨v100, hv100, h⟩ := bnd h
          obtain ⟨v102, hv102, h⟩ := bnd h
          refine wp_ret (fr_s (show _ = some (Rv.sh (eB v102), ([.sh ((eL eI) a_script), .ow (W1 ds v66.2), j50, j51, j52, j95, j54, j55, .sh (eI v56.1), .sh ((eT (e2 (eT eI) (eT eI))) v99), .sh ((eL (eT eI)) v58), .sh ((eL (e2 (eT eI) (eT eI))) s94), j96, j97, j98, .no, .no, .no] : Rho)) from ite_elim hv102 (fun c103 h => by obtain ⟨v101, hv101, h⟩ := bnd h; rw [← Option.some.inj h]; exact eand_t (pk_s (fn_s (ρ2 := [.sh ((eL eI) a_script), .ow (W1 ds v66.2), j50, j51, j52, j95, j54, j55, .sh (eI v56.1), .sh ((eT (e2 (eT eI) (eT eI))) v99), .sh ((eL (eT eI)) v58), .sh ((eL (e2 (eT eI) (eT eI))) s94), j96, j97, j98, .no, .no, .no]) (ac_ (fr_s ev_9) (an_ _)) rfl rfl (sim__law_plain (a_thing := ((eT (e2 (eT eI) (eT eI))) v99)) hv100) rfl)) rfl rfl c103 (bin_gs (pk_o (call_o (ac_ ev_9 (an_ _)) rfl (lstT_e (e := (e2 (eT eI) (eT eI))) v99))) (pk_o (call_o (ac_ ev_11 (an_ _)) rfl (srt_e hv101))) rfl rfl (eq_e (e := (eL (e2 (eT eI) (eT eI)))) v99 v101))) (fun c103 h => by rw [← Option.some.inj h]; exact eand_fb (fn_s (ρ2 := [.sh ((eL eI) a_script), .ow (W1 ds v66.2), j50, j51, j52, j95, j54, j55, .sh (eI v56.1), .sh ((eT (e2 (eT eI) (eT eI))) v99), .sh ((eL (eT eI)) v58), .sh ((eL (e2 (eT eI) (eT eI))) s94), j96, j97, j98, .no, .no, .no]) (ac_ (fr_s ev_9) (an_ _)) rfl rfl (sim__law_plain (a_thing := ((eT (e2 (eT eI) (eT eI))) v99)) hv100) rfl) c103))) ?_
          refine qs_rt ?_
          cases h
          exact rt_i rfl rfl
      · refine wp_if_f (tb_ (bin_s (fn_s (ρ2 := [.sh ((eL eI) a_script), .ow (W1 ds v66.2), j50, j51, j52, j53, j54, j55, .sh (eI v56.1), .sh ((eT (eT eI)) v57), .sh ((eL (eT eI)) v58), .no, .no, .no, .no, .no, .no, .no]) (ac_ eva_1 (ac_ (ec _ _) (an_ _))) rfl rfl (sim_next hv66) rfl) (ec _ _) (eq_i _ _))) c67 ?_
        refine wp_nil ?_
        refine qs_nx ?_
        obtain ⟨v104, hv104, h⟩ := bnd h
        refine wp_seq (ρ1 := [.sh ((eL eI) a_script), .ow (W1 ds v104.2), j50, j51, j52, j53, j54, j55, .sh (eI v104.1), .sh ((eT (eT eI)) v57), .sh ((eL (eT eI)) v58), .no, .no, .no, .no, .no, .no, .no]) (set_s (pk_s (fn_s (ρ2 := [.sh ((eL eI) a_script), .ow (W1 ds v104.2), j50, j51, j52, j53, j54, j55, .sh (eI v56.1), .sh ((eT (eT eI)) v57), .sh ((eL (eT eI)) v58), .no, .no, .no, .no, .no, .no, .no]) (ac_ eva_1 (ac_ (ec _ _) (an_ _))) rfl rfl (sim_next hv104) rfl))) ?_
        obtain ⟨v105, hv105, h⟩ := bnd h
        obtain ⟨v106, hv106, h⟩ := bnd h
        refine wp_ret (bin_s (fn_s (ρ2 := [.sh ((eL eI) a_script), .ow (W1 ds v104.2), j50, j51, j52, j53, j54, j55, .sh (eI v104.1), .sh ((eT (eT eI)) v57), .sh ((eL (eT eI)) v58), .no, .no, .no, .no, .no, .no, .no]) (ac_ (fr_s ev_8) (an_ _)) rfl rfl (sim_count_chords (a_size := v104.1) hv105) rfl) (fn_s (ρ2 := [.sh ((eL eI) a_script), .ow (W1 ds v104.2), j50, j51, j52, j53, j54, j55, .sh (eI v104.1), .sh ((eT (eT eI)) v57), .sh ((eL (eT eI)) v58), .no, .no, .no, .no, .no, .no, .no]) (ac_ (fr_s (bin_s (ec _ _) ev_8 (sub_i _ _))) (an_ _)) rfl rfl (sim_count_chords (a_size := (12 - v104.1)) hv106) rfl) (eq_i _ _)) ?_
        cases h
        exact rt_i rfl rfl
end K89

set_option Elab.async false
set_option linter.all false
set_option autoImplicit false
set_option maxRecDepth 100000
set_option maxHeartbeats 1000000
namespace K89
open PySem PySem.Spec PyProof.Rows L2 DL
/-! ### chords: strictly ascending rows of 0 .. 11 -/
def InR (x : Int) : Prop := 0 ≤ x ∧ x < 12
def Ch (c : List Int) : Prop := c.Pairwise (· < ·) ∧ ∀ x ∈ c, InR x
def srt (xs : List Int) : List Int := (rangeI 0 12).filter fun i => decide (i ∈ xs)
theorem r12_asc : (rangeI 0 12).Pairwise (· < ·) := by decide
theorem mem_r12 {x : Int} : x ∈ rangeI 0 12 ↔ InR x := by
  unfold rangeI
  rw [List.mem_map]
  constructor
  · rintro ⟨i, hi, rfl⟩
    have := List.mem_range.mp hi
    exact ⟨by omega, by omega⟩
  · rintro ⟨h0, h1⟩
    exact ⟨x.toNat, List.mem_range.mpr (by omega), by omega⟩
theorem mem_srt {x : Int} {xs : List Int} : x ∈ srt xs ↔ InR x ∧ x ∈ xs := by
  unfold srt
  rw [List.mem_filter, mem_r12, decide_eq_true_iff]
theorem srt_ch (xs : List Int) : Ch (srt xs) := ⟨r12_asc.filter _, fun x hx => (mem_srt.mp hx).1⟩
theorem asc_nodup {c : List Int} (h : c.Pairwise (· < ·)) : c.Nodup := h.imp fun {a b} hab e => by omega
theorem asc_one {c d : List Int} (hc : c.Pairwise (· < ·)) (hd : d.Pairwise (· < ·)) (h : ∀ x, x ∈ c ↔ x ∈ d) : c = d :=
  ((List.perm_ext_iff_of_nodup (asc_nodup hc) (asc_nodup hd)).mpr h).eq_of_pairwise (le := (· < ·)) (fun a b _ _ h1 h2 => by omega) hc hd
theorem srt_self {c : List Int} (h : Ch c) : srt c = c := asc_one (srt_ch c).1 h.1 fun x => mem_srt.trans ⟨fun z => z.2, fun z => ⟨h.2 x z, z⟩⟩
theorem ch_len {c : List Int} (h : Ch c) : c.length ≤ 12 := by
  have := List.Nodup.length_le_of_subset (asc_nodup h.1) fun x hx => mem_r12.mpr (h.2 x hx)
  rwa [rangeI_len] at this
theorem isort_srt {xs : List Int} (hn : xs.Nodup) (hr : ∀ x ∈ xs, InR x) : isort (OrdE.lt eI) xs = srt xs := by
  have p : List.Perm (isort (OrdE.lt eI) xs) (srt xs) := (isort_perm _ xs).trans ((List.perm_ext_iff_of_nodup hn (asc_nodup (srt_ch xs).1)).mpr fun x => ⟨fun h => mem_srt.mpr ⟨hr x h, h⟩, fun h => (mem_srt.mp h).2⟩)
  refine p.eq_of_pairwise (fun a b _ _ h1 h2 => OrdE.tot a b h2 h1) (isort_sorted (e := eI) xs) ((srt_ch xs).1.imp fun {a b} h => ?_)
  show decide (b < a) = false
  exact decide_eq_false (by omega)
theorem srtO_srt {xs : List Int} (hn : xs.Nodup) (hr : ∀ x ∈ xs, InR x) : srtO eI xs = some (srt xs) := by
  unfold srtO
  have hl := List.Nodup.length_le_of_subset hn fun x hx => mem_r12.mpr (hr x hx)
  rw [rangeI_len] at hl
  rw [if_pos ⟨.inl (List.all_eq_true.mpr fun _ _ => rfl), Nat.le_trans hl (by decide)⟩, isort_srt hn hr]
/-! moved, mirrored -/
def mv (c : List Int) (k : Int) : List Int := srt (c.map fun x => (x + k) % 12)
def mr (c : List Int) : List Int := srt (c.map fun x => (-x) % 12)
theorem map_nodup {c : List Int} {f : Int → Int} (h : Ch c) (hf : ∀ x y, InR x → InR y → f x = f y → x = y) : (c.map f).Nodup := by
  refine (List.pairwise_map.mpr ?_)
  exact h.1.imp_of_mem fun {a b} ha hb hab e => by
    have := hf a b (h.2 a ha) (h.2 b hb) e
    omega
theorem mod_inr (x : Int) : InR (x % 12) := ⟨Int.emod_nonneg _ (by decide), Int.emod_lt_of_pos _ (by decide)⟩
theorem map_ok {c : List Int} {f : Int → Int} (h : Ch c) (hf : ∀ x y, InR x → InR y → f x = f y → x = y) (hr : ∀ x, InR (f x)) : ((szO (mapO (fun x => some (f x)) c)).bind fun y3 => (srtO eI y3).bind fun v4 => some v4) = some (srt (c.map f)) := by
  refine (be (szmap_eq (g := f) (fun _ _ => rfl) (Nat.le_trans (ch_len h) (by decide)))).trans ((be (srtO_srt (map_nodup h hf) fun x hx => ?_)).trans rfl)
  obtain ⟨y, _, rfl⟩ := List.mem_map.mp hx
  exact hr y
theorem moved_ok {c : List Int} (h : Ch c) (k : Int) : t_moved_chord c k = some (mv c k) := by
  unfold t_moved_chord
  exact map_ok (f := fun x => (x + k) % 12) h (fun x y hx hy e => by
    have e : (x + k) % 12 = (y + k) % 12 := e
    unfold InR at hx hy
    omega) fun x => mod_inr _
theorem mirrored_ok {c : List Int} (h : Ch c) : t_mirrored_chord c = some (mr c) := by
  unfold t_mirrored_chord
  exact map_ok (f := fun x => (-x) % 12) h (fun x y hx hy e => by
    have e : (-x) % 12 = (-y) % 12 := e
    unfold InR at hx hy
    omega) fun x => mod_inr _
theorem law_moved_ok {c : List Int} (h : Ch c) (k : Int) : t__law_moved c k = some (mv c k) := moved_ok h k
theorem law_mirrored_ok {c : List Int} (h : Ch c) : t__law_mirrored c = some (mr c) := by
  have e : t__law_mirrored c = t_mirrored_chord c := by
    unfold t__law_mirrored t_mirrored_chord
    have : (fun x2 : Int => some ((0 - x2) % 12)) = fun x2 : Int => some ((-x2) % 12) := funext fun x => by rw [Int.zero_sub]
    rw [this]
  rw [e, mirrored_ok h]
theorem mv_ch (c : List Int) (k : Int) : Ch (mv c k) := srt_ch _
theorem mr_ch (c : List Int) : Ch (mr c) := srt_ch _
/-- the images, in the law's order -/
def imgs (c : List Int) : List (List Int) := (rangeI 0 12).map (mv c) ++ (rangeI 0 12).map (mv (mr c))
theorem images_ok {c : List Int} (h : Ch c) : t__law_images c = some (imgs c) := by
  unfold t__law_images
  refine (be (szmap_eq (g := mv c) (fun x _ => (be (law_moved_ok h x)).trans rfl) (by decide))).trans ((be (szmap_eq (g := mv (mr c)) (fun x _ => (be (law_mirrored_ok h)).trans ((be (law_moved_ok (mr_ch c) x)).trans rfl)) (by decide))).trans ((be (plusO_eq ?_)).trans rfl))
  simp [rangeI_len]
/-! ### the least image -/
def T24 : List (Int × Int) := (rangeI 0 12).map (fun k => (0, k)) ++ (rangeI 0 12).map (fun k => (1, k))
def im1 (c : List Int) (t : Int × Int) : List Int := if t.1 = 0 then mv c t.2 else mv (mr c) t.2
theorem imgs_T (c : List Int) : imgs c = T24.map (im1 c) := by
  unfold imgs T24
  rw [List.map_append, List.map_map, List.map_map]
  rfl
theorem T24_asc : T24.Pairwise fun a b => ltE (e2 eI eI) a b = true := by decide +kernel
theorem min_e3 (xs : List (List Int × Int × Int)) : minO (e3 (eT eI) eI eI) xs = minO (e2 (eT eI) (e2 eI eI)) xs := rfl
theorem T24_at : ∀ j : Nat, j < 24 → T24[j]? = some ((j : Int) / 12, (j : Int) % 12) := by decide +kernel
theorem imgs_len (c : List Int) : (imgs c).length = 24 := by
  unfold imgs
  rw [List.length_append, List.length_map, List.length_map, rangeI_len]
/-- the least image and its place -/
theorem least {c : List Int} : ∃ m j, minO (eT eI) (imgs c) = some m ∧ idxO (eT eI) (imgs c) m = some j ∧ j < 24 ∧ m ∈ imgs c ∧ (∀ y ∈ imgs c, ltE (eT eI) y m = false) ∧ minO (e3 (eT eI) eI eI) (T24.map fun t => (im1 c t, t)) = some (m, (j : Int) / 12, (j : Int) % 12) := by
  have ne : imgs c ≠ [] := fun e => by
    have := congrArg List.length e
    rw [imgs_len] at this
    cases this
  obtain ⟨m, h1, h2, h3⟩ := minO_ex (e := eT eI) ne
  obtain ⟨j, g1, g2, g3, g4⟩ := idx_of (e := eT eI) h2
  rw [imgs_len] at g2
  refine ⟨m, j, h1, g1, g2, h2, h3, ?_⟩
  rw [min_e3]
  rw [imgs_T] at h1 g3 g4
  have hT := T24_at j g2
  refine pair_min T24_asc h1 hT ?_ fun i hi s hs hg => ?_
  · rw [List.getElem?_map, hT] at g3
    exact Option.some.inj g3
  · refine g4 i hi ?_
    rw [List.getElem?_map, hs, Option.map_some, hg]
theorem chord_form_ok {c : List Int} (h : Ch c) {m : List Int} {j : Nat} (hm : minO (e3 (eT eI) eI eI) (T24.map fun t => (im1 c t, t)) = some (m, (j : Int) / 12, (j : Int) % 12)) : t_chord_form c = some (m, (j : Int) % 12, (j : Int) / 12) := by
  unfold t_chord_form
  refine (be (szmap_eq (g := fun k => (mv c k, (0 : Int), k)) (fun x _ => (be (moved_ok h x)).trans rfl) (by decide))).trans ((be (szmap_eq (g := fun k => (mv (mr c) k, (1 : Int), k)) (fun x _ => (be (mirrored_ok h)).trans ((be (moved_ok (mr_ch c) x)).trans rfl)) (by decide))).trans ((be (plusO_eq ?_)).trans ?_))
  · rw [List.length_map, List.length_map]
    decide
  have e : (rangeI 0 (Int.toNat 12)).map (fun k => (mv c k, (0 : Int), k)) ++ (rangeI 0 (Int.toNat 12)).map (fun k => (mv (mr c) k, (1 : Int), k)) = T24.map fun t => (im1 c t, t) := by
    unfold T24
    rw [List.map_append, List.map_map, List.map_map]
    rfl
  rw [e]
  exact (be hm).trans rfl
/-! an image of a chord that is not empty holds 0, so does the least -/
theorem img_zero {c : List Int} (h : Ch c) (hne : c ≠ []) : ∃ y ∈ imgs c, (0 : Int) ∈ y := by
  obtain ⟨x, hx⟩ := List.exists_mem_of_ne_nil c hne
  have hr := h.2 x hx
  refine ⟨mv c ((12 - x) % 12), ?_, ?_⟩
  · unfold imgs
    exact List.mem_append_left _ (List.mem_map.mpr ⟨_, mem_r12.mpr (mod_inr _), rfl⟩)
  · refine mem_srt.mpr ⟨⟨by decide, by decide⟩, List.mem_map.mpr ⟨x, hx, ?_⟩⟩
    unfold InR at hr
    omega
theorem imgs_ch {c y : List Int} (h : y ∈ imgs c) : Ch y := by
  unfold imgs at h
  rcases List.mem_append.mp h with h | h <;> (obtain ⟨k, _, rfl⟩ := List.mem_map.mp h; exact srt_ch _)
theorem mv_len {c : List Int} (h : Ch c) (k : Int) : (mv c k).length = c.length := by
  have p : List.Perm (mv c k) (c.map fun x => (x + k) % 12) := (List.perm_ext_iff_of_nodup (asc_nodup (mv_ch c k).1) (map_nodup h fun x y hx hy e => by
    have e : (x + k) % 12 = (y + k) % 12 := e
    unfold InR at hx hy
    omega)).mpr fun x => mem_srt.trans ⟨fun z => z.2, fun z => ⟨by obtain ⟨y, _, rfl⟩ := List.mem_map.mp z; exact mod_inr _, z⟩⟩
  rw [p.length_eq, List.length_map]
theorem mr_len {c : List Int} (h : Ch c) : (mr c).length = c.length := by
  have p : List.Perm (mr c) (c.map fun x => (-x) % 12) := (List.perm_ext_iff_of_nodup (asc_nodup (mr_ch c).1) (map_nodup h fun x y hx hy e => by
    have e : (-x) % 12 = (-y) % 12 := e
    unfold InR at hx hy
    omega)).mpr fun x => mem_srt.trans ⟨fun z => z.2, fun z => ⟨by obtain ⟨y, _, rfl⟩ := List.mem_map.mp z; exact mod_inr _, z⟩⟩
  rw [p.length_eq, List.length_map]
theorem imgs_lens {c y : List Int} (h : Ch c) (hy : y ∈ imgs c) : y.length = c.length := by
  unfold imgs at hy
  rcases List.mem_append.mp hy with hy | hy <;> obtain ⟨k, _, rfl⟩ := List.mem_map.mp hy
  · exact mv_len h k
  · rw [mv_len (mr_ch c), mr_len h]
/-- a row with 0 is less than a row without, of the same length or not -/
theorem lt_zero {y m : List Int} (hy : Ch y) (h0 : (0 : Int) ∈ y) (hm : Ch m) (hne : m ≠ []) (hn : (0 : Int) ∉ m) : ltE (eT eI) y m = true := by
  cases y with
  | nil => cases h0
  | cons a y =>
    have ha : a = 0 := by
      rcases List.mem_cons.mp h0 with e | e
      · exact e.symm
      · have := List.rel_of_pairwise_cons hy.1 e
        have := (hy.2 a List.mem_cons_self).1
        omega
    cases m with
    | nil => exact absurd rfl hne
    | cons b m =>
      have hb : b ≠ 0 := fun e => hn (by rw [e]; exact List.mem_cons_self)
      have := (hm.2 b List.mem_cons_self).1
      show lsLt (EqE.eq eI) (OrdE.lt eI) (a :: y) (b :: m) = true
      unfold lsLt
      have e1 : EqE.eq eI a b = false := decide_eq_false (by omega)
      have e2 : OrdE.lt eI a b = true := decide_eq_true (by omega)
      simp [e1, e2]
theorem least_zero {c m : List Int} (h : Ch c) (hne : c ≠ []) (hm : m ∈ imgs c) (hl : ∀ y ∈ imgs c, ltE (eT eI) y m = false) : (0 : Int) ∈ m := by
  obtain ⟨y, hy, h0⟩ := img_zero h hne
  by_cases hn : (0 : Int) ∈ m
  · exact hn
  · have mne : m ≠ [] := fun e => by
      have := imgs_lens h hm
      rw [e] at this
      exact hne (List.eq_nil_of_length_eq_zero this.symm)
    have := lt_zero (imgs_ch hy) h0 (imgs_ch hm) mne hn
    rw [hl y hy] at this
    cases this
theorem law_form_ok {c : List Int} (h : Ch c) {m : List Int} {j : Nat} (hi : idxO (eT eI) (imgs c) m = some j) (hm : m ∈ imgs c) (hl : ∀ y ∈ imgs c, ltE (eT eI) y m = false) : t__law_form c = some (m, (j : Int) % 12, (j : Int) / 12) := by
  unfold t__law_form
  refine (be (images_ok h)).trans ((be (v := (imgs c).filter fun y => (eqE (eT eI) c []) || (inE eI 0 y)) ?_).trans ((be (minO_of ?_ fun y hy => hl y (List.mem_filter.mp hy).1)).trans ((be hi).trans ((be rfl).trans rfl))))
  · refine (szlc_filter (t := fun y => (eqE (eT eI) c []) || (inE eI 0 y)) (g := id) (fun x _ => ?_) (by rw [imgs_len]; decide)).trans (by rw [List.map_id])
    by_cases hc : ((eqE (eT eI) c []) || (inE eI 0 x)) = true
    · rw [if_pos hc, if_pos hc]
      rfl
    · rw [if_neg hc, if_neg hc]
  · refine List.mem_filter.mpr ⟨hm, ?_⟩
    by_cases hne : c = []
    · rw [hne, eqE_self]
      rfl
    · have h0 := least_zero h hne hm hl
      rw [Bool.or_eq_true]
      right
      unfold inE
      rw [List.any_eq_true]
      exact ⟨0, h0, by first | exact eqE_self (e := eI) 0 | decide⟩
/-- both forms -/
theorem forms_ok {c : List Int} (h : Ch c) : ∃ m j, m ∈ imgs c ∧ (∀ y ∈ imgs c, ltE (eT eI) y m = false) ∧ t_chord_form c = some (m, j) ∧ t__law_form c = some (m, j) := by
  obtain ⟨m, j, h1, h2, h3, h4, h5, h6⟩ := least (c := c)
  exact ⟨m, _, h4, h5, chord_form_ok h h6, law_form_ok h h2 h4 h5⟩
end K89

set_option Elab.async false
set_option linter.all false
set_option autoImplicit false
set_option maxRecDepth 100000
set_option maxHeartbeats 1000000
namespace K89
open PySem PySem.Spec PyProof.Rows L2 DL
/-! ### steps: pairs of a row, in order -/
def prs {α : Type} : List α → List (α × α)
  | [] => []
  | x :: c => c.map (fun y => (x, y)) ++ prs c
theorem prs_map {α β : Type} (f : α → β) : ∀ c : List α, prs (c.map f) = (prs c).map fun p => (f p.1, f p.2)
  | [] => rfl
  | x :: c => by
    rw [List.map_cons]
    unfold prs
    rw [prs_map f c, List.map_append, List.map_map, List.map_map]
    rfl
theorem prs_mem {α : Type} : ∀ {c : List α} {p : α × α}, p ∈ prs c → p.1 ∈ c ∧ p.2 ∈ c
  | x :: c, p, h => by
    unfold prs at h
    rcases List.mem_append.mp h with h | h
    · obtain ⟨y, hy, rfl⟩ := List.mem_map.mp h
      exact ⟨List.mem_cons_self, List.mem_cons_of_mem _ hy⟩
    · obtain ⟨a, b⟩ := prs_mem h
      exact ⟨List.mem_cons_of_mem _ a, List.mem_cons_of_mem _ b⟩
theorem prs_lt : ∀ {c : List Int} {p : Int × Int}, c.Pairwise (· < ·) → p ∈ prs c → p.1 < p.2
  | x :: c, p, hc, h => by
    unfold prs at h
    rcases List.mem_append.mp h with h | h
    · obtain ⟨y, hy, rfl⟩ := List.mem_map.mp h
      exact List.rel_of_pairwise_cons hc hy
    · exact prs_lt hc.of_cons h
theorem combs2 : ∀ n : Nat, n ≤ 12 → combs n 2 = some ((prs (List.range n)).map fun p => [p.1, p.2]) := by
  have h : ∀ n ∈ List.range 13, combs n 2 = some ((prs (List.range n)).map fun p => [p.1, p.2]) := by decide +kernel
  exact fun n hn => h n (List.mem_range.mpr (by omega))
theorem range_get (c : List Int) : c = (List.range c.length).map fun i => c.getD i 0 := by
  refine List.ext_getElem (by simp) fun i h1 h2 => ?_
  rw [List.getElem_map, List.getElem_range, List.getD_eq_getElem?_getD, List.getElem?_eq_getElem h1]
  rfl
theorem cmb2_ok {c : List Int} (hl : c.length ≤ 12) : cmb2O c = some (prs c) := by
  unfold cmb2O comO
  rw [if_pos ⟨by decide, by decide⟩]
  show ((combs c.length 2).map (pickT c)).bind _ = _
  rw [combs2 _ hl, Option.map_some]
  refine (mapO_eq (g := fun l => (l.getD 0 0, l.getD 1 0)) fun l hlm => ?_).trans ?_
  · unfold pickT at hlm
    rw [List.map_map] at hlm
    obtain ⟨p, hp, rfl⟩ := List.mem_map.mp hlm
    obtain ⟨h1, h2⟩ := prs_mem hp
    have h1 := List.mem_range.mp h1
    have h2 := List.mem_range.mp h2
    show pairO (([p.1, p.2] : List Nat).filterMap fun j => c[j]?) = _
    simp only [List.filterMap_cons, List.filterMap_nil, List.getElem?_eq_getElem h1, List.getElem?_eq_getElem h2, Function.comp]
    rfl
  · refine congrArg some ?_
    conv => rhs; rw [range_get c, prs_map]
    unfold pickT
    rw [List.map_map, List.map_map]
    refine List.map_congr_left fun p hp => ?_
    obtain ⟨h1, h2⟩ := prs_mem hp
    have h1 := List.mem_range.mp h1
    have h2 := List.mem_range.mp h2
    simp only [Function.comp, List.filterMap_cons, List.filterMap_nil, List.getElem?_eq_getElem h1, List.getElem?_eq_getElem h2, List.getD_eq_getElem?_getD]
    rfl
def stp (x6 : Int × Int) (s3 : List Int) : Option (List Int) := (atI s3 ((if ((12 - x6.2) + x6.1) < (x6.2 - x6.1) then ((12 - x6.2) + x6.1) else (x6.2 - x6.1)) - 1)).bind fun v7 =>
(setO s3 ((if ((12 - x6.2) + x6.1) < (x6.2 - x6.1) then ((12 - x6.2) + x6.1) else (x6.2 - x6.1)) - 1) (v7 + 1)).bind fun v8 =>
some v8
theorem fold_app {α σ : Type} {f : α → σ → Option σ} : ∀ (xs ys : List α) (s : σ), foldO f (xs ++ ys) s = (foldO f xs s).bind (foldO f ys)
  | [], ys, s => rfl
  | x :: xs, ys, s => by
    rw [List.cons_append]
    unfold foldO
    cases f x s with
    | none => rfl
    | some s1 => exact fold_app xs ys s1
theorem inner_ok (x : Int) : ∀ (c : List Int) (s : List Int), foldO (fun (x8 : Int) (s6 : List Int) => if (decide (x < x8)) = true then stp (x, x8) s6 else (some s6)) c s = foldO stp ((c.filter fun y => decide (x < y)).map fun y => (x, y)) s
  | [], s => rfl
  | y :: c, s => by
    by_cases h : x < y
    · rw [List.filter_cons_of_pos (by simpa using h), List.map_cons]
      show ((if (decide (x < y)) = true then stp (x, y) s else (some s)).bind fun s1 => foldO (fun (x8 : Int) (s6 : List Int) => if (decide (x < x8)) = true then stp (x, x8) s6 else (some s6)) c s1) = (stp (x, y) s).bind fun s1 => foldO stp ((c.filter fun y => decide (x < y)).map fun y => (x, y)) s1
      rw [if_pos (decide_eq_true h)]
      cases stp (x, y) s with
      | none => rfl
      | some s1 => exact inner_ok x c s1
    · rw [List.filter_cons_of_neg (by simpa using h)]
      show ((if (decide (x < y)) = true then stp (x, y) s else (some s)).bind fun s1 => foldO (fun (x8 : Int) (s6 : List Int) => if (decide (x < x8)) = true then stp (x, x8) s6 else (some s6)) c s1) = _
      rw [if_neg (by simpa using h)]
      exact inner_ok x c s
theorem outer_ok (d : List Int) : ∀ (c : List Int) (s : List Int), foldO (fun (x5 : Int) (s2 : List Int) => (foldO (fun (x8 : Int) (s6 : List Int) => if (decide (x5 < x8)) = true then stp (x5, x8) s6 else (some s6)) d s2).bind fun s12 => some s12) c s = foldO stp (c.flatMap fun x => (d.filter fun y => decide (x < y)).map fun y => (x, y)) s
  | [], s => rfl
  | x :: c, s => by
    rw [List.flatMap_cons, fold_app]
    show ((foldO (fun (x8 : Int) (s6 : List Int) => if (decide (x < x8)) = true then stp (x, x8) s6 else (some s6)) d s).bind fun s12 => some s12).bind (fun s1 => foldO (fun (x5 : Int) (s2 : List Int) => (foldO (fun (x8 : Int) (s6 : List Int) => if (decide (x5 < x8)) = true then stp (x5, x8) s6 else (some s6)) d s2).bind fun s12 => some s12) c s1) = _
    rw [inner_ok]
    generalize foldO stp ((d.filter fun y => decide (x < y)).map fun y => (x, y)) s = z
    cases z with
    | none => rfl
    | some s1 => exact outer_ok d c s1
theorem flat_prs : ∀ {c : List Int}, c.Pairwise (· < ·) → (c.flatMap fun x => (c.filter fun y => decide (x < y)).map fun y => (x, y)) = prs c
  | [], _ => rfl
  | a :: c, h => by
    obtain ⟨h1, h2⟩ := List.pairwise_cons.mp h
    rw [List.flatMap_cons]
    unfold prs
    have e1 : (a :: c).filter (fun y => decide (a < y)) = c := by
      rw [List.filter_cons_of_neg (by simp)]
      exact List.filter_eq_self.mpr fun y hy => decide_eq_true (h1 y hy)
    rw [e1, ← flat_prs h2]
    refine congrArg (_ ++ ·) ?_
    rw [List.flatMap_def, List.flatMap_def]
    refine congrArg List.flatten (List.map_congr_left fun x hx => ?_)
    rw [List.filter_cons_of_neg (by have := h1 x hx; simp; omega)]
theorem stp_ok {x y : Int} {s : List Int} (hx : InR x) (hy : InR y) (hxy : x < y) (hs : s.length = 6) : ∃ s', stp (x, y) s = some s' ∧ s'.length = 6 := by
  unfold stp
  unfold InR at hx hy
  obtain ⟨i, hi, e⟩ : ∃ i : Nat, i < 6 ∧ (if ((12 - y) + x) < (y - x) then ((12 - y) + x) else (y - x)) - 1 = (i : Int) := by
    split
    · exact ⟨(12 - y + x - 1).toNat, by omega, by omega⟩
    · exact ⟨(y - x - 1).toNat, by omega, by omega⟩
  simp only [e]
  have hv : s[i]? = some s[i] := List.getElem?_eq_getElem (by omega)
  refine ⟨s.set i (s[i] + 1), (be (atI_ge hv)).trans ((be (v := s.set i (s[i] + 1)) ?_).trans rfl), by rw [List.length_set]; exact hs⟩
  unfold setO ixN
  rw [if_pos (by omega), if_pos (by omega)]
  rfl
theorem stps_ok : ∀ {ps : List (Int × Int)} {s : List Int}, (∀ p ∈ ps, InR p.1 ∧ InR p.2 ∧ p.1 < p.2) → s.length = 6 → ∃ s', foldO stp ps s = some s' ∧ s'.length = 6
  | [], s, _, hs => ⟨s, rfl, hs⟩
  | p :: ps, s, h, hs => by
    obtain ⟨a, b, c⟩ := h p List.mem_cons_self
    obtain ⟨s1, e1, l1⟩ := stp_ok a b c hs
    obtain ⟨s2, e2, l2⟩ := stps_ok (fun q hq => h q (List.mem_cons_of_mem _ hq)) l1
    exact ⟨s2, (fold_go e1).trans e2, l2⟩
theorem steps_ok {c : List Int} (h : Ch c) : ∃ v, t_steps_of c = some v ∧ t__law_steps c = some v ∧ v.length ≤ 6 := by
  have z : repLO [(0 : Int)] 6 = some [0, 0, 0, 0, 0, 0] := by decide +kernel
  obtain ⟨v, hv, hl⟩ := stps_ok (ps := prs c) (s := [0, 0, 0, 0, 0, 0]) (fun p hp => ⟨h.2 _ (prs_mem hp).1, h.2 _ (prs_mem hp).2, prs_lt h.1 hp⟩) rfl
  refine ⟨v, ?_, ?_, Nat.le_of_eq hl⟩
  · unfold t_steps_of
    refine (be (v := [0, 0, 0, 0, 0, 0]) (by exact z)).trans ((be (cmb2_ok (ch_len h))).trans ((be (v := v) ?_).trans rfl))
    exact hv
  · unfold t__law_steps
    refine (be z).trans ((be (v := v) ?_).trans rfl)
    refine (outer_ok c c _).trans ?_
    rw [flat_prs h.1]
    exact hv
end K89

set_option Elab.async false
set_option linter.all false
set_option autoImplicit false
set_option maxRecDepth 100000
set_option maxHeartbeats 1000000
namespace K89
open PySem PySem.Spec PyProof.Rows L2 DL
/-! ### the images of an image are the images -/
theorem mem_mv {c : List Int} {k x : Int} : x ∈ mv c k ↔ ∃ y ∈ c, (y + k) % 12 = x := by
  unfold mv
  rw [mem_srt, List.mem_map]
  constructor
  · rintro ⟨_, y, hy, e⟩
    exact ⟨y, hy, e⟩
  · rintro ⟨y, hy, e⟩
    exact ⟨by rw [← e]; exact mod_inr _, y, hy, e⟩
theorem mem_mr {c : List Int} {x : Int} : x ∈ mr c ↔ ∃ y ∈ c, (-y) % 12 = x := by
  unfold mr
  rw [mem_srt, List.mem_map]
  constructor
  · rintro ⟨_, y, hy, e⟩
    exact ⟨y, hy, e⟩
  · rintro ⟨y, hy, e⟩
    exact ⟨by rw [← e]; exact mod_inr _, y, hy, e⟩
theorem ch_ext {c d : List Int} (hc : Ch c) (hd : Ch d) (h : ∀ x, x ∈ c ↔ x ∈ d) : c = d := asc_one hc.1 hd.1 h
theorem mv_mv (c : List Int) (k l : Int) : mv (mv c k) l = mv c (k + l) := ch_ext (mv_ch _ _) (mv_ch _ _) fun x => by
  rw [mem_mv, mem_mv]
  constructor
  · rintro ⟨y, hy, e⟩
    obtain ⟨z, hz, e2⟩ := mem_mv.mp hy
    exact ⟨z, hz, by omega⟩
  · rintro ⟨z, hz, e⟩
    exact ⟨(z + k) % 12, mem_mv.mpr ⟨z, hz, rfl⟩, by omega⟩
theorem mr_mv (c : List Int) (k : Int) : mr (mv c k) = mv (mr c) (-k) := ch_ext (mr_ch _) (mv_ch _ _) fun x => by
  rw [mem_mr, mem_mv]
  constructor
  · rintro ⟨y, hy, e⟩
    obtain ⟨z, hz, e2⟩ := mem_mv.mp hy
    exact ⟨(-z) % 12, mem_mr.mpr ⟨z, hz, rfl⟩, by omega⟩
  · rintro ⟨y, hy, e⟩
    obtain ⟨z, hz, e2⟩ := mem_mr.mp hy
    exact ⟨(z + k) % 12, mem_mv.mpr ⟨z, hz, rfl⟩, by omega⟩
theorem mr_mr {c : List Int} (h : Ch c) : mr (mr c) = c := ch_ext (mr_ch _) h fun x => by
  rw [mem_mr]
  constructor
  · rintro ⟨y, hy, e⟩
    obtain ⟨z, hz, e2⟩ := mem_mr.mp hy
    have := h.2 z hz
    unfold InR at this
    have : x = z := by omega
    rw [this]
    exact hz
  · intro hx
    have := h.2 x hx
    unfold InR at this
    exact ⟨(-x) % 12, mem_mr.mpr ⟨x, hx, rfl⟩, by omega⟩
theorem mv_zero {c : List Int} (h : Ch c) : mv c 0 = c := ch_ext (mv_ch _ _) h fun x => by
  rw [mem_mv]
  constructor
  · rintro ⟨y, hy, e⟩
    have := h.2 y hy
    unfold InR at this
    have : x = y := by omega
    rw [this]
    exact hy
  · intro hx
    have := h.2 x hx
    unfold InR at this
    exact ⟨x, hx, by omega⟩
theorem mv_mod (c : List Int) (k : Int) : mv c k = mv c (k % 12) := ch_ext (mv_ch _ _) (mv_ch _ _) fun x => by
  rw [mem_mv, mem_mv]
  constructor <;> (rintro ⟨y, hy, e⟩; exact ⟨y, hy, by omega⟩)
theorem mem_imgs {c y : List Int} : y ∈ imgs c ↔ ∃ k : Int, y = mv c k ∨ y = mv (mr c) k := by
  unfold imgs
  rw [List.mem_append, List.mem_map, List.mem_map]
  constructor
  · rintro (⟨k, _, e⟩ | ⟨k, _, e⟩)
    · exact ⟨k, .inl e.symm⟩
    · exact ⟨k, .inr e.symm⟩
  · rintro ⟨k, e | e⟩
    · exact .inl ⟨k % 12, mem_r12.mpr (mod_inr _), by rw [e, ← mv_mod]⟩
    · exact .inr ⟨k % 12, mem_r12.mpr (mod_inr _), by rw [e, ← mv_mod]⟩
theorem imgs_self {c : List Int} (h : Ch c) : c ∈ imgs c := mem_imgs.mpr ⟨0, .inl (mv_zero h).symm⟩
theorem imgs_trans {c d y : List Int} (h : Ch c) (hd : d ∈ imgs c) (hy : y ∈ imgs d) : y ∈ imgs c := by
  obtain ⟨k, e⟩ := mem_imgs.mp hd
  obtain ⟨l, e2⟩ := mem_imgs.mp hy
  refine mem_imgs.mpr ?_
  rcases e with rfl | rfl <;> rcases e2 with rfl | rfl
  · exact ⟨k + l, .inl (mv_mv _ _ _)⟩
  · exact ⟨-k + l, .inr (by rw [mr_mv, mv_mv])⟩
  · exact ⟨k + l, .inr (mv_mv _ _ _)⟩
  · exact ⟨-k + l, .inl (by rw [mr_mv, mr_mr h, mv_mv])⟩
theorem imgs_sym {c d : List Int} (h : Ch c) (hd : d ∈ imgs c) : c ∈ imgs d := by
  obtain ⟨k, e⟩ := mem_imgs.mp hd
  refine mem_imgs.mpr ?_
  rcases e with rfl | rfl
  · exact ⟨-k, .inl (by rw [mv_mv, Int.add_right_neg, mv_zero h])⟩
  · exact ⟨k, .inr (by rw [mr_mv, mr_mr h, mv_mv, Int.add_left_neg, mv_zero h])⟩
/-! ### the least of its images -/
def isM (c : List Int) : Bool := (imgs c).all fun y => !ltE (eT eI) y c
theorem isM_iff {c : List Int} : isM c = true ↔ ∀ y ∈ imgs c, ltE (eT eI) y c = false := by
  unfold isM
  rw [List.all_eq_true]
  exact ⟨fun h y hy => by simpa using h y hy, fun h y hy => by simpa using h y hy⟩
theorem isM_least {c m : List Int} (h : Ch c) (hm : m ∈ imgs c) (hl : ∀ y ∈ imgs c, ltE (eT eI) y m = false) : (m = c ↔ isM c = true) ∧ isM m = true := by
  refine ⟨⟨fun e => isM_iff.mpr (e ▸ hl), fun hM => ?_⟩, isM_iff.mpr fun y hy => hl y (imgs_trans h hm hy)⟩
  exact ltE_tot (isM_iff.mp hM m hm) (hl c (imgs_self h))
/-! ### rows in their order -/
def gn : List Int → Nat → List (List Int)
  | _, 0 => [[]]
  | [], _ + 1 => []
  | x :: r, s + 1 => (gn r s).map (x :: ·) ++ gn r (s + 1)
theorem gn_mem : ∀ {r : List Int} {s : Nat} {c : List Int}, c ∈ gn r s ↔ c.Sublist r ∧ c.length = s
  | r, 0, c => by
    unfold gn
    rw [List.mem_singleton]
    exact ⟨fun e => by rw [e]; exact ⟨List.nil_sublist _, rfl⟩, fun h => List.eq_nil_of_length_eq_zero h.2⟩
  | [], s + 1, c => by
    unfold gn
    constructor
    · intro h
      cases h
    · rintro ⟨h1, h2⟩
      rw [List.sublist_nil.mp h1] at h2
      cases h2
  | x :: r, s + 1, c => by
    unfold gn
    rw [List.mem_append, List.mem_map, gn_mem (r := r) (s := s + 1)]
    constructor
    · rintro (⟨d, hd, rfl⟩ | ⟨h1, h2⟩)
      · obtain ⟨h1, h2⟩ := gn_mem.mp hd
        exact ⟨h1.cons_cons x, by rw [List.length_cons, h2]⟩
      · exact ⟨h1.cons x, h2⟩
    · rintro ⟨h1, h2⟩
      cases h1 with
      | cons _ h => exact .inr ⟨h, h2⟩
      | cons_cons _ h => exact .inl ⟨_, gn_mem.mpr ⟨h, by simpa using h2⟩, rfl⟩
theorem lt_cons {x : Int} {a b : List Int} (h : ltE (eT eI) a b = true) : ltE (eT eI) (x :: a) (x :: b) = true := by
  show lsLt (EqE.eq eI) (OrdE.lt eI) (x :: a) (x :: b) = true
  unfold lsLt
  have e1 : EqE.eq eI x x = true := decide_eq_true rfl
  rw [if_pos e1]
  exact h
theorem lt_head {x y : Int} {a b : List Int} (h : x < y) : ltE (eT eI) (x :: a) (y :: b) = true := by
  show lsLt (EqE.eq eI) (OrdE.lt eI) (x :: a) (y :: b) = true
  unfold lsLt
  have e1 : EqE.eq eI x y = false := decide_eq_false (by omega)
  have e2 : OrdE.lt eI x y = true := decide_eq_true h
  simp [e1, e2]
theorem gn_asc : ∀ {r : List Int} {s : Nat}, r.Pairwise (· < ·) → (gn r s).Pairwise fun a b => ltE (eT eI) a b = true
  | r, 0, _ => by
    unfold gn
    exact List.pairwise_singleton ..
  | [], s + 1, _ => by
    unfold gn
    exact .nil
  | x :: r, s + 1, h => by
    obtain ⟨h1, h2⟩ := List.pairwise_cons.mp h
    unfold gn
    refine List.pairwise_append.mpr ⟨List.pairwise_map.mpr ((gn_asc h2).imp fun {a b} => lt_cons), gn_asc h2, fun a ha b hb => ?_⟩
    obtain ⟨d, _, rfl⟩ := List.mem_map.mp ha
    obtain ⟨hs, hl⟩ := gn_mem.mp hb
    cases b with
    | nil => cases hl
    | cons y b => exact lt_head (h1 y (hs.subset List.mem_cons_self))
def R12 : List Int := rangeI 0 12
theorem gn_ch {s : Nat} {c : List Int} : c ∈ gn R12 s ↔ Ch c ∧ c.length = s := by
  rw [gn_mem]
  refine and_congr_left fun _ => ⟨fun h => ⟨r12_asc.sublist h, fun x hx => mem_r12.mp (h.subset hx)⟩, fun h => ?_⟩
  rw [← srt_self h]
  exact List.filter_sublist
theorem cmbr_ok : ∀ s : Nat, s ≤ 12 → cmbrO 12 (s : Int) = some (gn R12 s) := by
  have h : ∀ s ∈ List.range 13, cmbrO 12 ((s : Nat) : Int) = some (gn R12 s) := by decide +kernel
  exact fun s hs => h s (List.mem_range.mpr (by omega))
theorem gn_len (s : Nat) (h : s ≤ 12) : (gn R12 s).length ≤ 1000 := by
  have h' : ∀ s ∈ List.range 13, (gn R12 s).length ≤ 1000 := by decide +kernel
  exact h' s (List.mem_range.mpr (by omega))
theorem all_chords_ok {s : Nat} (hs : s ≤ 12) : t_all_chords (s : Int) = some ((gn R12 s).filter isM) := by
  unfold t_all_chords
  refine (be (cmbr_ok s hs)).trans ((be ?_).trans rfl)
  refine (szlc_filter (t := isM) (g := id) (fun x hx => ?_) (Nat.le_trans (gn_len s hs) (by decide))).trans (by rw [List.map_id])
  have hc := (gn_ch.mp hx).1
  obtain ⟨m, j, h1, h2, h3, _⟩ := forms_ok hc
  obtain ⟨g1, _⟩ := isM_least hc h1 h2
  refine (be h3).trans ?_
  by_cases e : m = x
  · rw [if_pos (g1.mp e), if_pos (by rw [e]; exact eqE_self (e := eT eI) x)]
    rfl
  · rw [if_neg (fun z => e (g1.mpr z)), if_neg (by rw [eqE_ne.mpr e]; decide)]
end K89

set_option Elab.async false
set_option linter.all false
set_option autoImplicit false
set_option maxRecDepth 100000
set_option maxHeartbeats 1000000
namespace K89
open PySem PySem.Spec PyProof.Rows L2 DL
/-! ### the law's forms: the rows -/
def rB (s : Int) (x3 : Int) (s1 : List (List Int)) : Option (List (List Int)) := (szO (lcO (fun (x5 : (List Int)) => if ((decide ((List.length x5 : Int) < s)) && ((decide (x3 = 0)) || (!eqE (eT eI) x5 []))) = true then ((plusO x5 [x3]).bind fun v6 => some (some v6)) else some none) s1)).bind fun y7 =>
(plusO s1 y7).bind fun v8 =>
some v8
def Rw (s t : Nat) (rows : List (List Int)) : Prop := rows.Nodup ∧ rows.length ≤ 2 ^ t ∧ ∀ c, c ∈ rows ↔ c.Pairwise (· < ·) ∧ (∀ x ∈ c, 0 ≤ x ∧ x < (t : Int)) ∧ c.length ≤ s ∧ (c = [] ∨ (0 : Int) ∈ c)
theorem row_step {s t : Nat} {rows : List (List Int)} (ht : t < 12) (h : Rw s t rows) : ∃ rows', rB (s : Int) (t : Int) rows = some rows' ∧ Rw s (t + 1) rows' := by
  obtain ⟨nd, ln, hm⟩ := h
  have p12 : 2 ^ t ≤ 2 ^ 12 := Nat.pow_le_pow_right (by decide) (by omega)
  have l4 : rows.length ≤ 4096 := Nat.le_trans ln p12
  let P : List Int → Bool := fun c => (decide ((List.length c : Int) < s)) && ((decide ((t : Int) = 0)) || (!eqE (eT eI) c []))
  have hP : ∀ c, P c = true ↔ c.length < s ∧ (t = 0 ∨ c ≠ []) := fun c => by
    show ((decide ((List.length c : Int) < s)) && ((decide ((t : Int) = 0)) || (!eqE (eT eI) c []))) = true ↔ _
    rw [Bool.and_eq_true, Bool.or_eq_true, decide_eq_true_iff, decide_eq_true_iff, Bool.not_eq_true']
    refine and_congr (by omega) (or_congr (by omega) ⟨fun z e => ?_, fun z => eqE_ne.mpr z⟩)
    rw [e, eqE_self] at z
    cases z
  have l5 : ((rows.filter P).map fun c => c ++ [(t : Int)]).length ≤ rows.length := by
    rw [List.length_map]
    exact List.length_filter_le ..
  refine ⟨rows ++ (rows.filter P).map fun c => c ++ [(t : Int)], (be (szlc_filter (t := P) (g := fun c => c ++ [(t : Int)]) (fun c hc => ?_) (by omega))).trans ((be (plusO_eq (by omega))).trans rfl), ?_, ?_, fun c => ?_⟩
  · by_cases e : P c = true
    · refine Eq.trans ((if_pos e).trans ((be (plusO_eq ?_)).trans rfl)) (congrArg some (if_pos e)).symm
      have := (hm c).mp hc
      have l6 : c.length ≤ 12 := by
        have := List.Nodup.length_le_of_subset (asc_nodup this.1) fun x hx => mem_r12.mpr ⟨(this.2.1 x hx).1, by have := (this.2.1 x hx).2; omega⟩
        rwa [rangeI_len] at this
      rw [List.length_singleton]
      omega
    · exact Eq.trans (if_neg e) (congrArg some (if_neg e)).symm
  · refine List.nodup_append.mpr ⟨nd, List.pairwise_map.mpr ((nd.filter _).imp fun {a b} hab e => hab (List.append_cancel_right e)), fun a ha b hb e => ?_⟩
    obtain ⟨d, _, rfl⟩ := List.mem_map.mp hb
    subst e
    have := ((hm _).mp ha).2.1 (t : Int) (List.mem_append_right _ (List.mem_singleton.mpr rfl))
    omega
  · rw [List.length_append, Nat.pow_succ]
    omega
  · rw [List.mem_append, List.mem_map]
    constructor
    · rintro (hc | ⟨d, hd, rfl⟩)
      · obtain ⟨h1, h2, h3, h4⟩ := (hm c).mp hc
        exact ⟨h1, fun x hx => ⟨(h2 x hx).1, by have := (h2 x hx).2; omega⟩, h3, h4⟩
      · obtain ⟨hd1, hd2⟩ := List.mem_filter.mp hd
        obtain ⟨h1, h2, h3, h4⟩ := (hm d).mp hd1
        obtain ⟨q1, q2⟩ := (hP d).mp hd2
        refine ⟨List.pairwise_append.mpr ⟨h1, List.pairwise_singleton .., fun a ha b hb => ?_⟩, fun x hx => ?_, by rw [List.length_append, List.length_singleton]; omega, .inr ?_⟩
        · rw [List.mem_singleton.mp hb]
          exact (h2 a ha).2
        · rcases List.mem_append.mp hx with hx | hx
          · exact ⟨(h2 x hx).1, by have := (h2 x hx).2; omega⟩
          · rw [List.mem_singleton.mp hx]
            omega
        · rcases q2 with q2 | q2
          · exact List.mem_append_right _ (List.mem_singleton.mpr (by omega))
          · exact List.mem_append_left _ (h4.resolve_left q2)
    · rintro ⟨h1, h2, h3, h4⟩
      by_cases ht' : (t : Int) ∈ c
      · right
        obtain ⟨a, b, rfl⟩ := List.append_of_mem ht'
        have hb : b = [] := by
          cases b with
          | nil => rfl
          | cons y b =>
            have h5 := (List.pairwise_append.mp h1).2.1
            have h6 := List.rel_of_pairwise_cons h5 (List.mem_cons_self (a := y))
            have h7 := (h2 y (by simp)).2
            omega
        subst hb
        have ha := List.pairwise_append.mp h1
        have lt : ∀ x ∈ a, x < (t : Int) := fun x hx => ha.2.2 x hx (t : Int) (List.mem_singleton.mpr rfl)
        rw [List.length_append, List.length_singleton] at h3
        refine ⟨a, List.mem_filter.mpr ⟨(hm a).mpr ⟨ha.1, fun x hx => ⟨(h2 x (List.mem_append_left _ hx)).1, lt x hx⟩, by omega, ?_⟩, (hP a).mpr ⟨by omega, ?_⟩⟩, rfl⟩
        · rcases h4 with h4 | h4
          · exact absurd h4 (by simp)
          · rcases List.mem_append.mp h4 with h4 | h4
            · exact .inr h4
            · have e0 := List.mem_singleton.mp h4
              left
              cases a with
              | nil => rfl
              | cons y a =>
                have h8 := lt y List.mem_cons_self
                have h9 := (h2 y (by simp)).1
                omega
        · by_cases e : t = 0
          · exact .inl e
          · right
            rintro rfl
            rcases h4 with h4 | h4
            · cases h4
            · have e0 := List.mem_singleton.mp (by simpa using h4)
              omega
      · left
        refine (hm c).mpr ⟨h1, fun x hx => ⟨(h2 x hx).1, ?_⟩, h3, h4⟩
        have h5 := (h2 x hx).2
        have h6 : x ≠ (t : Int) := fun e => ht' (e ▸ hx)
        omega
theorem rows_run {s : Nat} : ∀ (n t : Nat) (rows : List (List Int)), t + n ≤ 12 → Rw s t rows → ∃ rows', foldO (rB (s : Int)) ((List.range' t n).map fun i : Nat => (i : Int)) rows = some rows' ∧ Rw s (t + n) rows'
  | 0, t, rows, _, h => ⟨rows, rfl, h⟩
  | n + 1, t, rows, hl, h => by
    obtain ⟨r1, e1, h1⟩ := row_step (by omega) h
    obtain ⟨r2, e2, h2⟩ := rows_run n (t + 1) r1 (by omega) h1
    refine ⟨r2, ?_, by rw [show t + (n + 1) = t + 1 + n by omega]; exact h2⟩
    rw [List.range'_succ, List.map_cons]
    exact (fold_go e1).trans e2
theorem rows_ok (s : Nat) : ∃ rows, foldO (rB (s : Int)) (rangeI 0 (Int.toNat 12)) [[]] = some rows ∧ Rw s 12 rows := by
  have h0 : Rw s 0 [[]] := ⟨by simp, by simp, fun c => by
    rw [List.mem_singleton]
    constructor
    · rintro rfl
      exact ⟨.nil, fun x hx => (by cases hx), Nat.zero_le _, .inl rfl⟩
    · rintro ⟨_, h2, _, _⟩
      cases c with
      | nil => rfl
      | cons x c =>
        have := h2 x List.mem_cons_self
        omega⟩
  obtain ⟨r, e, h⟩ := rows_run (s := s) 12 0 [[]] (by decide) h0
  refine ⟨r, ?_, h⟩
  rw [show Int.toNat 12 = 12 from rfl, rangeI_nat, List.range_eq_range']
  exact e
/-! sorted: the rows of s that hold 0 -/
def z0 (c : List Int) : Bool := decide (c = [] ∨ (0 : Int) ∈ c)
def LL (s : Nat) : List (List Int) := (gn R12 s).filter z0
theorem LL_asc (s : Nat) : (LL s).Pairwise fun a b => ltE (eT eI) a b = true := (gn_asc r12_asc).filter _
theorem LL_mem {s : Nat} {c : List Int} : c ∈ LL s ↔ Ch c ∧ c.length = s ∧ (c = [] ∨ (0 : Int) ∈ c) := by
  unfold LL
  rw [List.mem_filter, gn_ch]
  unfold z0
  rw [decide_eq_true_iff, and_assoc]
theorem lt_ne {a b : List Int} (h : ltE (eT eI) a b = true) : a ≠ b := fun e => by
  rw [e, ltE_irr] at h
  cases h
theorem sorted_ok {s : Nat} {rows : List (List Int)} (hs : s ≤ 12) (h : Rw s 12 rows) : srtO (eT eI) (rows.filter fun c => decide ((List.length c : Int) = s)) = some (LL s) := by
  obtain ⟨nd, ln, hm⟩ := h
  have mem : ∀ c, c ∈ (rows.filter fun c => decide ((List.length c : Int) = s)) ↔ c ∈ LL s := fun c => by
    rw [List.mem_filter, hm, LL_mem, decide_eq_true_iff]
    constructor
    · rintro ⟨⟨h1, h2, h3, h4⟩, h5⟩
      exact ⟨⟨h1, fun x hx => h2 x hx⟩, by omega, h4⟩
    · rintro ⟨⟨h1, h2⟩, h3, h4⟩
      exact ⟨⟨h1, fun x hx => h2 x hx, by omega, h4⟩, by omega⟩
  have nd2 : (rows.filter fun c => decide ((List.length c : Int) = s)).Nodup := nd.filter _
  have ndL : (LL s).Nodup := (LL_asc s).imp fun {a b} => lt_ne
  have p := (List.perm_ext_iff_of_nodup nd2 ndL).mpr mem
  have e : isort (OrdE.lt (eT eI)) (rows.filter fun c => decide ((List.length c : Int) = s)) = LL s :=
    ((isort_perm _ _).trans p).eq_of_pairwise (fun a b _ _ h1 h2 => OrdE.tot a b h2 h1) (isort_sorted (e := eT eI) _) ((LL_asc s).imp fun {a b} h => ltE_asym h)
  have len : (LL s).length ≤ 1000 := Nat.le_trans (List.length_filter_le ..) (gn_len s hs)
  unfold srtO
  rw [e, if_pos]
  refine ⟨?_, by rw [p.length_eq]; exact Nat.le_trans len (by decide)⟩
  by_cases h0 : s = 0
  · right
    rw [p.length_eq, h0]
    decide
  · left
    refine List.all_eq_true.mpr fun c hc => ?_
    obtain ⟨_, hl, _⟩ := LL_mem.mp ((mem c).mp hc)
    cases c with
    | nil => exact absurd hl.symm h0
    | cons x c => rfl
/-! the marking -/
abbrev Sn := List (List Int × Bool)
theorem eqR (a b : List Int) : EqE.eq (eT eI) a b = decide (a = b) := by
  by_cases h : a = b
  · subst h
    rw [decide_eq_true rfl]
    exact eqE_self (e := eT eI) a
  · rw [decide_eq_false h]
    exact eqE_ne.mpr h
theorem has_iff : ∀ {kvs : Sn} {k : List Int}, dhas (EqE.eq (eT eI)) kvs k = true ↔ k ∈ kvs.map Prod.fst
  | [], k => by simp [dhas, dgetO]
  | p :: kvs, k => by
    have ih := has_iff (kvs := kvs) (k := k)
    unfold dhas at ih ⊢
    unfold dgetO
    rw [eqR, List.map_cons, List.mem_cons]
    by_cases h : p.1 = k
    · simp [h]
    · rw [if_neg (by simpa using h), ih]
      exact ⟨.inr, fun z => z.elim (fun z => absurd z.symm h) id⟩
theorem put_keys {kvs : Sn} {k x : List Int} {v : Bool} : x ∈ (dput (EqE.eq (eT eI)) kvs k v).map Prod.fst ↔ x = k ∨ x ∈ kvs.map Prod.fst := by
  unfold dput
  by_cases h : (kvs.any fun p => EqE.eq (eT eI) p.1 k) = true
  · rw [if_pos h, List.map_map]
    have e : (Prod.fst ∘ fun p : List Int × Bool => if EqE.eq (eT eI) p.1 k = true then (p.1, v) else p) = Prod.fst := funext fun p => by
      show (if _ then _ else _ : List Int × Bool).1 = _
      split <;> rfl
    rw [e]
    refine ⟨.inr, fun z => z.elim (fun z => ?_) id⟩
    obtain ⟨p, hp, e2⟩ := List.any_eq_true.mp h
    rw [eqR] at e2
    rw [z, ← of_decide_eq_true e2]
    exact List.mem_map.mpr ⟨p, hp, rfl⟩
  · rw [if_neg h, List.map_append, List.mem_append]
    simp [or_comm]
theorem put_len {kvs : Sn} {k : List Int} {v : Bool} : (dput (EqE.eq (eT eI)) kvs k v).length ≤ kvs.length + 1 := by
  unfold dput
  split
  · rw [List.length_map]
    omega
  · rw [List.length_append]
    simp
theorem marks : ∀ (ys : List (List Int)) (S : Sn), S.length + ys.length ≤ 100000 → ∃ S', foldO (fun (x24 : List Int) (s22 : Sn) => (dputO (EqE.eq (eT eI)) s22 x24 true).bind fun v25 => some v25) ys S = some S' ∧ (∀ x, x ∈ S'.map Prod.fst ↔ x ∈ S.map Prod.fst ∨ x ∈ ys) ∧ S'.length ≤ S.length + ys.length
  | [], S, _ => ⟨S, rfl, fun x => by simp, by simp⟩
  | y :: ys, S, h => by
    rw [List.length_cons] at h
    have hp := put_len (kvs := S) (k := y) (v := true)
    obtain ⟨S', e, m, l⟩ := marks ys (dput (EqE.eq (eT eI)) S y true) (by omega)
    refine ⟨S', (fold_go ((be (if_pos ?_)).trans rfl)).trans e, fun x => ?_, by rw [List.length_cons]; omega⟩
    · have := szl_6
      omega
    · rw [m, put_keys, List.mem_cons, or_assoc, or_left_comm]
def mB (x18 : List Int) (s15 : List (List Int) × Sn) : Option (List (List Int) × Sn) := if (!dhas (EqE.eq (eT eI)) s15.2 x18) = true then ((pushO s15.1 x18).bind fun v20 =>
(t__law_images x18).bind fun v21 =>
(foldO (fun (x24 : (List Int)) (s22 : (List ((List Int) × Bool))) => (dputO (EqE.eq (eT eI)) s22 x24 true).bind fun v25 =>
some v25) v21 s15.2).bind fun (s26 : (List ((List Int) × Bool))) =>
some (v20, s26)) else (some (s15.1, s15.2))
theorem mark_run {s : Nat} (hs : s ≤ 12) : ∀ (Q P : List (List Int)) (S : Sn), LL s = P ++ Q → (∀ y, y ∈ S.map Prod.fst ↔ ∃ d ∈ P, isM d = true ∧ y ∈ imgs d) → S.length ≤ 24 * P.length → ∃ S', foldO mB Q (P.filter isM, S) = some ((LL s).filter isM, S')
  | [], P, S, hL, _, _ => ⟨S, by rw [hL, List.append_nil]; rfl⟩
  | c :: Q, P, S, hL, hS, hl => by
    have hc := LL_mem.mp (by rw [hL]; exact List.mem_append_right _ List.mem_cons_self : c ∈ LL s)
    have asc := LL_asc s
    rw [hL] at asc
    have before : ∀ d ∈ P, ltE (eT eI) d c = true := fun d hd => (List.pairwise_append.mp asc).2.2 d hd c List.mem_cons_self
    have lenL : (LL s).length ≤ 1000 := Nat.le_trans (List.length_filter_le ..) (gn_len s hs)
    have lenP : P.length ≤ 1000 := by
      rw [hL, List.length_append] at lenL
      omega
    have hL' : LL s = (P ++ [c]) ++ Q := by rw [hL]; simp
    obtain ⟨m, j, q1, q2, q3, hm, hlm, _⟩ := least (c := c)
    obtain ⟨g1, g2⟩ := isM_least hc.1 hm hlm
    by_cases hM : isM c = true
    · have no : dhas (EqE.eq (eT eI)) S c = false := by
        cases hh : dhas (EqE.eq (eT eI)) S c with
        | false => rfl
        | true =>
          obtain ⟨d, hd, hdM, hcd⟩ := (hS c).mp (has_iff.mp hh)
          have dch := (LL_mem.mp (by rw [hL]; exact List.mem_append_left _ hd : d ∈ LL s)).1
          have := isM_iff.mp hM d (imgs_sym dch hcd)
          rw [before d hd] at this
          cases this
      obtain ⟨S', e, mS, lS⟩ := marks (imgs c) S (by rw [imgs_len]; omega)
      obtain ⟨S2, e2⟩ := mark_run hs Q (P ++ [c]) S' hL' (fun y => by
        rw [mS, hS]
        constructor
        · rintro (⟨d, hd, h1, h2⟩ | hy)
          · exact ⟨d, List.mem_append_left _ hd, h1, h2⟩
          · exact ⟨c, List.mem_append_right _ (List.mem_singleton.mpr rfl), hM, hy⟩
        · rintro ⟨d, hd, h1, h2⟩
          rcases List.mem_append.mp hd with hd | hd
          · exact .inl ⟨d, hd, h1, h2⟩
          · rw [List.mem_singleton.mp hd] at h2
            exact .inr h2) (by rw [List.length_append, List.length_singleton]; rw [imgs_len] at lS; omega)
      refine ⟨S2, (fold_go (s1 := ((P ++ [c]).filter isM, S')) ?_).trans e2⟩
      unfold mB
      rw [no, if_pos (by decide)]
      have lf := List.length_filter_le isM P
      refine (be (pushO_eq (by show (P.filter isM).length < _; omega))).trans ((be (images_ok hc.1)).trans ((be e).trans ?_))
      rw [List.filter_append, List.filter_cons_of_pos hM]
      rfl
    · have yes : dhas (EqE.eq (eT eI)) S c = true := by
        refine has_iff.mpr ((hS c).mpr ⟨m, ?_, g2, imgs_sym hc.1 hm⟩)
        have hmL : m ∈ LL s := by
          refine LL_mem.mpr ⟨imgs_ch hm, (imgs_lens hc.1 hm).trans hc.2.1, ?_⟩
          by_cases hne : c = []
          · left
            have := imgs_lens hc.1 hm
            rw [hne] at this
            exact List.eq_nil_of_length_eq_zero this
          · exact .inr (least_zero hc.1 hne hm hlm)
        have ne : m ≠ c := fun e => hM (g1.mp e)
        have ltm : ltE (eT eI) m c = true := by
          cases hh : ltE (eT eI) m c with
          | true => rfl
          | false => exact absurd (ltE_tot hh (hlm c (imgs_self hc.1))) ne
        rw [hL] at hmL
        rcases List.mem_append.mp hmL with h | h
        · exact h
        · rcases List.mem_cons.mp h with h | h
          · exact absurd h ne
          · have := List.rel_of_pairwise_cons (List.pairwise_append.mp asc).2.1 h
            rw [ltE_asym this] at ltm
            cases ltm
      obtain ⟨S2, e2⟩ := mark_run hs Q (P ++ [c]) S hL' (fun y => by
        rw [hS]
        constructor
        · rintro ⟨d, hd, h1, h2⟩
          exact ⟨d, List.mem_append_left _ hd, h1, h2⟩
        · rintro ⟨d, hd, h1, h2⟩
          rcases List.mem_append.mp hd with hd | hd
          · exact ⟨d, hd, h1, h2⟩
          · rw [List.mem_singleton.mp hd] at h1
            exact absurd h1 hM) (by rw [List.length_append, List.length_singleton]; omega)
      refine ⟨S2, (fold_go (s1 := ((P ++ [c]).filter isM, S)) ?_).trans e2⟩
      unfold mB
      rw [yes, if_neg (by decide), List.filter_append, List.filter_cons_of_neg hM]
      show some (_, S) = some (_ ++ [], S)
      rw [List.append_nil]
theorem law_forms_ok {s : Nat} (hs : s ≤ 12) : t__law_forms (s : Int) = some ((gn R12 s).filter isM) := by
  obtain ⟨rows, e, hR⟩ := rows_ok s
  obtain ⟨S', e2⟩ := mark_run hs (LL s) [] [] rfl (fun y => by simp) (by simp)
  unfold t__law_forms
  refine (be e).trans ((be (szlc_filter (t := fun c => decide ((List.length c : Int) = s)) (g := id) (fun c _ => ?_) ?_)).trans ?_)
  · by_cases h : decide ((List.length c : Int) = s) = true
    · rw [if_pos h, if_pos h]
      rfl
    · rw [if_neg h, if_neg h]
  · exact Nat.le_trans hR.2.1 (by decide)
  rw [List.map_id]
  refine (be (sorted_ok hs hR)).trans ((be (v := ((LL s).filter isM, S')) e2).trans (congrArg some ?_))
  show (LL s).filter isM = _
  unfold LL
  rw [List.filter_filter]
  refine List.filter_congr fun c hc => ?_
  obtain ⟨h1, h2⟩ := gn_ch.mp hc
  by_cases hM : isM c = true
  · have : z0 c = true := by
      unfold z0
      rw [decide_eq_true_iff]
      by_cases hne : c = []
      · exact .inl hne
      · exact .inr (least_zero h1 hne (imgs_self h1) (isM_iff.mp hM))
    rw [hM, this]
    rfl
  · simp [hM]
end K89

set_option Elab.async false
set_option linter.all false
set_option autoImplicit false
set_option maxRecDepth 100000
set_option maxHeartbeats 100000000
namespace K89
open PySem PySem.Spec PyProof.Rows L2 DL
/-! ### how many -/
def cntC (s : Nat) : Bool := anO (t_count_chords ((s : Nat) : Int)) fun v => decide (v = (((gn R12 s).filter isM).length : Nat))
theorem cnt_all : ∀ s ∈ [0, 1, 2, 3, 9, 10, 11, 12, 4, 8], cntC s = true := by decide +kernel
def symC (s : Nat) : Bool := anO (t_count_chords ((s : Nat) : Int)) fun v => isO (e := eI) (t_count_chords (12 - ((s : Nat) : Int))) v
theorem sym_all : ∀ s ∈ List.range 13, symC s = true := by decide +kernel
theorem few : ∀ s ∈ List.range 7, ((gn R12 s).filter isM).length ≤ 60 := by decide +kernel
end K89

set_option Elab.async false
set_option linter.all false
set_option autoImplicit false
set_option maxRecDepth 100000
set_option maxHeartbeats 1000000
namespace K89
open PySem PySem.Spec PyProof.Rows L2 DL
/-! ### told plainly -/
inductive PlE : {α : Type} → (α → Dv) → Nat → Prop
  | int (k : Nat) : PlE eI k
  | tup {α : Type} {e : α → Dv} {k : Nat} : PlE e k → PlE (eT e) (k + 1)
  | two {α β : Type} {e : α → Dv} {e' : β → Dv} {k : Nat} : PlE e k → PlE e' k → PlE (e2 e e') (k + 1)
  | three {α β γ : Type} {e : α → Dv} {e' : β → Dv} {e'' : γ → Dv} {k : Nat} : PlE e k → PlE e' k → PlE e'' k → PlE (e3 e e' e'') (k + 1)
theorem plain_int (k : Nat) (i : Int) : t__law_plain (k + 1) (eI i) = some true := rfl
theorem plain_tuple (k : Nat) (xs : List Dv) (h : ∀ d ∈ xs, t__law_plain k d = some true) : t__law_plain (k + 1) (.tuple xs) = some true := by
  have e : lcO (fun (x5 : Dv) => (t__law_plain k x5).bind fun v6 => if (!v6) = true then (some (some x5)) else some none) xs = some ([] : List Dv) := by
    rw [lcO_eq (g := fun _ => none) fun x hx => (be (h x hx)).trans rfl]
    simp
  refine (be (v := true) rfl).trans ?_
  rw [if_pos rfl]
  refine (be (v := xs) rfl).trans ((be (szO_eq e (by simp))).trans ?_)
  rfl
theorem plain_ok {α : Type} {e : α → Dv} {k : Nat} (h : PlE e k) : ∀ a, t__law_plain (k + 1) (e a) = some true := by
  induction h with
  | int k => exact fun a => plain_int k a
  | tup _ ih =>
    intro xs
    refine plain_tuple _ _ fun d hd => ?_
    obtain ⟨a, _, rfl⟩ := List.mem_map.mp hd
    exact ih a
  | two _ _ ih ih' =>
    intro x
    refine plain_tuple _ _ fun d hd => ?_
    rcases List.mem_cons.mp hd with rfl | hd
    · exact ih _
    · rcases List.mem_cons.mp hd with rfl | hd
      · exact ih' _
      · cases hd
  | three _ _ _ ih ih' ih'' =>
    intro x
    refine plain_tuple _ _ fun d hd => ?_
    rcases List.mem_cons.mp hd with rfl | hd
    · exact ih _
    · rcases List.mem_cons.mp hd with rfl | hd
      · exact ih' _
      · rcases List.mem_cons.mp hd with rfl | hd
        · exact ih'' _
        · cases hd
theorem pl1 {α : Type} {e : α → Dv} (h : PlE e 3) (a : α) : t__law_plain 4 (e a) = some true := plain_ok h a
theorem pl_ints (a : List Int) : t__law_plain 4 (eT eI a) = some true := pl1 (.tup (.int 2)) a
/-! ### the law -/
def lawB (ds : List Int) (x8 : Int) (s1 : Nat) : Option (Fo Nat Bool) := (nextO ds s1 3).bind fun v9 =>
(some (2 + v9.1)).bind fun x10 =>
(szwO (lcwO (fun (x15 : Int) (n16 : Nat) => (nextO ds n16 x10).bind fun v17 => if (decide (v17.1 = 0)) = true then (some (some x15, v17.2)) else some (none, v17.2)) (rangeI 0 (Int.toNat 12)) v9.2)).bind fun y18 =>
(nextO ds y18.2 12).bind fun v19 =>
(t_moved_chord y18.1 v19.1).bind fun v20 =>
(t__law_moved y18.1 v19.1).bind fun v21 =>
(t_mirrored_chord y18.1).bind fun v22 =>
(t__law_mirrored y18.1).bind fun v23 =>
(t_steps_of y18.1).bind fun v24 =>
(t__law_steps y18.1).bind fun v25 =>
(some [(((eT eI) v20), ((eT eI) v21)), (((eT eI) v22), ((eT eI) v23)), (((eT eI) v24), ((eT eI) v25))]).bind fun x26 =>
(t__law_mirrored y18.1).bind fun v27 =>
(t__law_moved v27 v19.1).bind fun v28 =>
(t__law_moved y18.1 v19.1).bind fun v29 =>
(plusO y18.1 [v19.1]).bind fun v30 =>
(ssetO eI 1000 v30).bind fun v31 =>
(foldO (fun (x34 : (List Int)) (s32 : (List (Dv × Dv))) => (t_chord_form x34).bind fun v35 =>
(t__law_form x34).bind fun v36 =>
(pushO s32 (((e3 (eT eI) eI eI) v35), ((e3 (eT eI) eI eI) v36))).bind fun v37 =>
some v37) [y18.1, v28, v29, v31] x26).bind fun (s38 : (List (Dv × Dv))) =>
(szO (lcO (fun (x41 : (Dv × Dv)) => (t__law_plain 4 x41.1).bind fun v42 => ((if (!v42) = true then some true else ((eqD x41.1 x41.2).bind fun v43 => some (!v43)))).bind fun v44 => if v44 = true then (some (some x41.1)) else some none) s38)).bind fun y46 =>
(eqD ((eL eA) y46) ((eL eA) [])).bind fun v47 =>
if (!v47) = true then (some (.rt false)) else (some (.nx v19.2))
def lawE (ds : List Int) (s49 : Nat) : Option Bool := (pickO ds s49 [0, 1, 2, 3, 9, 10, 11, 12, 4, 8]).bind fun v56 =>
(t_all_chords v56.1).bind fun v57 =>
(t__law_forms v56.1).bind fun v58 =>
(t__law_plain 4 ((eT (eT eI)) v57)).bind fun v59 =>
((if (!v59) = true then some true else (((if (!eqE (eL (eT eI)) v57 v58) = true then some true else ((t_count_chords v56.1).bind fun v60 => some (!decide (v60 = (List.length v58 : Int)))))).bind fun v61 => some v61))).bind fun v63 =>
if v63 = true then (some false) else ((nextO ds v56.2 9).bind fun v66 =>
if (decide (v66.1 = 0)) = true then ((foldO (fun (x73 : Int) (s68 : (List ((List Int) × (List Int)))) => (t__law_forms x73).bind fun v74 =>
(szO (mapO (fun (x76 : (List Int)) => (t__law_steps x76).bind fun v77 => some v77) v74)).bind fun y78 =>
(rngO1 (List.length v74 : Int)).bind fun r79 =>
(foldO (fun (x82 : Int) (s80 : (List ((List Int) × (List Int)))) => (rngO1 x82).bind fun r84 =>
(szO (lcO (fun (x85 : Int) => (atI y78 x85).bind fun v86 => (atI y78 x82).bind fun v87 => if (eqE (eT eI) v86 v87) = true then ((atI v74 x85).bind fun v88 => (atI v74 x82).bind fun v89 => some (some (v88, v89))) else some none) r84)).bind fun y90 =>
(plusO s80 y90).bind fun v91 =>
some v91) r79 s68).bind fun (s92 : (List ((List Int) × (List Int)))) =>
some s92) (rangeI 0 (Int.toNat 7)) []).bind fun (s94 : (List ((List Int) × (List Int)))) =>
(t_twins ).bind fun v99 =>
(t__law_plain 4 ((eT (e2 (eT eI) (eT eI))) v99)).bind fun v100 =>
((if v100 = true then ((srtO (e2 (eT eI) (eT eI)) s94).bind fun v101 => some (eqE (eL (e2 (eT eI) (eT eI))) v99 v101)) else some false)).bind fun v102 =>
some v102) else ((nextO ds v66.2 13).bind fun v104 =>
(t_count_chords v104.1).bind fun v105 =>
(t_count_chords (12 - v104.1)).bind fun v106 =>
some (decide (v105 = v106))))
theorem draw_chord {ds : List Int} {m : Int} (hm : 0 < m) : ∀ (xs : List Int) (n : Nat), ∃ ys n', lcwO (fun (x15 : Int) (n16 : Nat) => (nextO ds n16 m).bind fun v17 => if (decide (v17.1 = 0)) = true then (some (some x15, v17.2)) else some (none, v17.2)) xs n = some (ys, n') ∧ ys.Sublist xs
  | [], n => ⟨[], n, rfl, .slnil⟩
  | x :: xs, n => by
    obtain ⟨v, _, _, e⟩ := next_ex (ds := ds) (n := n) hm
    obtain ⟨ys, n', e2, hs⟩ := draw_chord hm xs (n + 1)
    by_cases h : v = 0
    · refine ⟨x :: ys, n', ?_, hs.cons_cons x⟩
      unfold lcwO
      exact (be (v := (some x, n + 1)) ((be e).trans (if_pos (decide_eq_true h)))).trans ((be e2).trans rfl)
    · refine ⟨ys, n', ?_, hs.cons x⟩
      unfold lcwO
      exact (be (v := (none, n + 1)) ((be e).trans (if_neg (by simpa using h)))).trans ((be e2).trans rfl)
/-- a datum told rightly -/
def Pl (p : Dv × Dv) : Prop := t__law_plain 4 p.1 = some true ∧ eqD p.1 p.2 = some true
theorem pl_of {α : Type} {e : α → Dv} [EqE e] (h : PlE e 3) (hd : EqE.dep e ≤ 64) (a : α) : Pl (e a, e a) := ⟨pl1 h a, by rw [eqD_e hd, eqE_self]⟩
theorem pl_T (a : List Int) : Pl (eT eI a, eT eI a) := pl_of (.tup (.int 2)) (by decide) a
theorem pl_F (a : List Int × Int × Int) : Pl (e3 (eT eI) eI eI a, e3 (eT eI) eI eI a) := pl_of (.three (.tup (.int 1)) (.int 2) (.int 2)) (by decide) a
theorem forms_fold : ∀ (cs : List (List Int)) (s : List (Dv × Dv)), (∀ c ∈ cs, Ch c) → (∀ p ∈ s, Pl p) → s.length + cs.length ≤ 1000 → ∃ s', foldO (fun (x34 : (List Int)) (s32 : (List (Dv × Dv))) => (t_chord_form x34).bind fun v35 =>
(t__law_form x34).bind fun v36 =>
(pushO s32 (((e3 (eT eI) eI eI) v35), ((e3 (eT eI) eI eI) v36))).bind fun v37 =>
some v37) cs s = some s' ∧ (∀ p ∈ s', Pl p) ∧ s'.length ≤ 1000
  | [], s, _, hs, hl => ⟨s, rfl, hs, by simpa using hl⟩
  | c :: cs, s, hc, hs, hl => by
    rw [List.length_cons] at hl
    obtain ⟨m, j, _, _, h1, h2⟩ := forms_ok (hc c List.mem_cons_self)
    obtain ⟨s', e, hp, hl'⟩ := forms_fold cs (s ++ [(e3 (eT eI) eI eI (m, j), e3 (eT eI) eI eI (m, j))]) (fun d hd => hc d (List.mem_cons_of_mem _ hd)) (fun p hp => by
      rcases List.mem_append.mp hp with hp | hp
      · exact hs p hp
      · rw [List.mem_singleton.mp hp]
        exact pl_F _) (by rw [List.length_append, List.length_singleton]; omega)
    exact ⟨s', (fold_go ((be h1).trans ((be h2).trans ((be (pushO_eq (by omega))).trans rfl)))).trans e, hp, hl'⟩
theorem none_wrong {s : List (Dv × Dv)} (h : ∀ p ∈ s, Pl p) : szO (lcO (fun (x41 : (Dv × Dv)) => (t__law_plain 4 x41.1).bind fun v42 => ((if (!v42) = true then some true else ((eqD x41.1 x41.2).bind fun v43 => some (!v43)))).bind fun v44 => if v44 = true then (some (some x41.1)) else some none) s) = some ([] : List Dv) := by
  refine szO_eq ?_ (by simp)
  rw [lcO_eq (g := fun _ => none) fun p hp => ?_]
  · simp
  · obtain ⟨h1, h2⟩ := h p hp
    refine (be h1).trans ((be (v := false) ?_).trans rfl)
    rw [if_neg (by decide)]
    exact (be h2).trans rfl
theorem set_ok {c : List Int} (h : Ch c) {k : Int} (hk : InR k) : ∃ d, ssetO eI 1000 (c ++ [k]) = some d ∧ Ch d := by
  have hl := ch_len h
  refine ⟨srt (nubE eI (c ++ [k])), ?_, srt_ch _⟩
  unfold ssetO
  rw [if_pos ⟨by rw [List.length_append, List.length_singleton]; omega, List.all_eq_true.mpr fun _ _ => rfl⟩, isort_srt (nub_nodup _) fun x hx => ?_]
  rcases List.mem_append.mp (nub_mem.mp hx) with hx | hx
  · exact h.2 x hx
  · rw [List.mem_singleton.mp hx]
    exact hk
theorem lawB_ok (ds : List Int) (x8 : Int) (s1 : Nat) : ∃ s', lawB ds x8 s1 = some (.nx s') ∧ True := by
  unfold lawB
  obtain ⟨v, v0, v1, z1⟩ := next_ex (ds := ds) (n := s1) (m := 3) (by decide)
  obtain ⟨c, n2, z2, hsub⟩ := draw_chord (ds := ds) (m := 2 + v) (by omega) (rangeI 0 (Int.toNat 12)) (s1 + 1)
  have hc : Ch c := ⟨r12_asc.sublist hsub, fun x hx => mem_r12.mp (hsub.subset hx)⟩
  have hl := ch_len hc
  refine exp z1 (exp rfl (exp (v := (c, n2)) ?_ ?_))
  · unfold szwO
    exact (be z2).trans (if_pos (Nat.le_trans hl (by decide)))
  obtain ⟨k, k0, k1, z3⟩ := next_ex (ds := ds) (n := n2) (m := 12) (by decide)
  obtain ⟨st, w1, w2, _⟩ := steps_ok hc
  obtain ⟨d, w3, hd⟩ := set_ok hc (k := k) ⟨k0, k1⟩
  refine exp z3 (exp (moved_ok hc k) (exp (law_moved_ok hc k) (exp (mirrored_ok hc) (exp (law_mirrored_ok hc) (exp w1 (exp w2 (exp rfl (exp (law_mirrored_ok hc) (exp (law_moved_ok (mr_ch c) k) (exp (law_moved_ok hc k) (exp (plusO_eq (by show c.length + [k].length ≤ _; rw [List.length_singleton]; omega)) (exp w3 ?_))))))))))))
  obtain ⟨s', z4, hp, _⟩ := forms_fold [c, mv (mr c) k, mv c k, d] [(((eT eI) (mv c k)), ((eT eI) (mv c k))), (((eT eI) (mr c)), ((eT eI) (mr c))), (((eT eI) st), ((eT eI) st))] (fun x hx => by
    simp only [List.mem_cons, List.not_mem_nil, or_false] at hx
    rcases hx with rfl | rfl | rfl | rfl
    · exact hc
    · exact mv_ch _ _
    · exact mv_ch _ _
    · exact hd) (fun p hp => by
    simp only [List.mem_cons, List.not_mem_nil, or_false] at hp
    rcases hp with rfl | rfl | rfl <;> exact pl_T _) (by simp)
  exact exp z4 (exp (none_wrong hp) (exp (v := true) rfl (expif rfl ⟨_, rfl, trivial⟩)))
/-! twins -/
def FF (s : Nat) : List (List Int) := (gn R12 s).filter isM
theorem FF_ch {s : Nat} {c : List Int} (h : c ∈ FF s) : Ch c := (gn_ch.mp (List.mem_filter.mp h).1).1
def stOf (c : List Int) : List Int := (t_steps_of c).getD []
theorem st_ok {c : List Int} (h : Ch c) : t_steps_of c = some (stOf c) ∧ t__law_steps c = some (stOf c) := by
  obtain ⟨v, h1, h2, _⟩ := steps_ok h
  have : stOf c = v := by unfold stOf; rw [h1]; rfl
  rw [this]
  exact ⟨h1, h2⟩
def blk (F : List (List Int)) (k : Int) : List (List Int × List Int) := ((rangeI 0 k.toNat).filter fun (j : Int) => eqE (eT eI) (stOf (F.getD j.toNat [])) (stOf (F.getD k.toNat []))).map fun (j : Int) => (F.getD j.toNat [], F.getD k.toNat [])
theorem getD_at {α : Type} {F : List α} {d : α} {j : Int} (h0 : 0 ≤ j) (h1 : j < (F.length : Int)) : atI F j = some (F.getD j.toNat d) := by
  obtain ⟨n, rfl⟩ := Int.eq_ofNat_of_zero_le h0
  refine atI_ge ?_
  rw [List.getD_eq_getElem?_getD, Int.toNat_natCast, List.getElem?_eq_getElem (by omega)]
  rfl
theorem blk_ok {F : List (List Int)} {k : Int} (h0 : 0 ≤ k) (h1 : k < (F.length : Int)) : lcO (fun (x85 : Int) => (atI (F.map stOf) x85).bind fun v86 => (atI (F.map stOf) k).bind fun v87 => if (eqE (eT eI) v86 v87) = true then ((atI F x85).bind fun v88 => (atI F k).bind fun v89 => some (some (v88, v89))) else some none) (rangeI 0 k.toNat) = some (blk F k) := by
  refine lcO_filter (t := fun (j : Int) => eqE (eT eI) (stOf (F.getD j.toNat [])) (stOf (F.getD k.toNat []))) (g := fun (j : Int) => (F.getD j.toNat [], F.getD k.toNat [])) fun j hj => ?_
  have hj2 : 0 ≤ j ∧ j < k := by
    unfold rangeI at hj
    obtain ⟨i, hi, rfl⟩ := List.mem_map.mp hj
    have := List.mem_range.mp hi
    omega
  have at2 : ∀ i : Int, 0 ≤ i → i < (F.length : Int) → atI (F.map stOf) i = some (stOf (F.getD i.toNat [])) := fun i i0 i1 => by
    rw [getD_at (d := stOf []) i0 (by rw [List.length_map]; exact i1)]
    refine congrArg some ?_
    rw [List.getD_eq_getElem?_getD, List.getElem?_map, List.getElem?_eq_getElem (by omega), List.getD_eq_getElem?_getD, List.getElem?_eq_getElem (by omega)]
    rfl
  refine (be (at2 j hj2.1 (by omega))).trans ((be (at2 k h0 h1)).trans ?_)
  by_cases e : eqE (eT eI) (stOf (F.getD j.toNat [])) (stOf (F.getD k.toNat [])) = true
  · rw [if_pos e, if_pos e]
    exact (be (getD_at hj2.1 (by omega))).trans ((be (getD_at h0 h1)).trans rfl)
  · rw [if_neg e, if_neg e]
theorem blk_len {F : List (List Int)} {k : Int} (hk : k < 60) : (blk F k).length ≤ 60 := by
  unfold blk
  rw [List.length_map]
  refine Nat.le_trans (List.length_filter_le ..) ?_
  rw [rangeI_len]
  omega
/-- all pairs of a size -/
def tw (F : List (List Int)) : List (List Int × List Int) := (rangeI 0 F.length).flatMap (blk F)
theorem mem_rng {n : Nat} {k : Int} : k ∈ rangeI 0 n ↔ 0 ≤ k ∧ k < (n : Int) := by
  unfold rangeI
  rw [List.mem_map]
  constructor
  · rintro ⟨i, hi, rfl⟩
    have := List.mem_range.mp hi
    omega
  · rintro ⟨h0, h1⟩
    exact ⟨k.toNat, List.mem_range.mpr (by omega), by omega⟩
theorem tw_len {F : List (List Int)} (h : F.length ≤ 60) : (tw F).length ≤ 3600 := by
  unfold tw
  have : ∀ xs : List Int, (∀ k ∈ xs, k < 60) → (xs.flatMap (blk F)).length ≤ xs.length * 60 := fun xs => by
    induction xs with
    | nil => simp
    | cons x xs ih =>
      intro hx
      rw [List.flatMap_cons, List.length_append, List.length_cons, Nat.add_mul]
      have h1 := blk_len (F := F) (hx x List.mem_cons_self)
      have h2 := ih fun k hk => hx k (List.mem_cons_of_mem _ hk)
      omega
  have z := this (rangeI 0 F.length) fun k hk => by have := mem_rng.mp hk; omega
  rw [rangeI_len] at z
  omega
theorem FF_few {x : Int} (hx : x ∈ rangeI 0 7) : (FF x.toNat).length ≤ 60 ∧ ((x.toNat : Nat) : Int) = x ∧ x.toNat ≤ 12 := by
  have := mem_rng.mp hx
  exact ⟨few _ (List.mem_range.mpr (by omega)), by omega, by omega⟩
def ALLT : List (List Int × List Int) := (rangeI 0 7).flatMap fun x => tw (FF x.toNat)
def TWO : Option (List (List Int × List Int)) := srtO (e2 (eT eI) (eT eI)) ALLT
theorem allt_len : ALLT.length ≤ 100000 := by
  unfold ALLT
  have : ∀ xs : List Int, (∀ k ∈ xs, k ∈ rangeI 0 7) → (xs.flatMap fun x => tw (FF x.toNat)).length ≤ xs.length * 3600 := fun xs => by
    induction xs with
    | nil => simp
    | cons x xs ih =>
      intro hx
      rw [List.flatMap_cons, List.length_append, List.length_cons, Nat.add_mul]
      have h1 := tw_len (FF_few (hx x List.mem_cons_self)).1
      have h2 := ih fun k hk => hx k (List.mem_cons_of_mem _ hk)
      omega
  have z := this (rangeI 0 7) fun k hk => hk
  rw [rangeI_len] at z
  omega
theorem prog_all : foldO (fun (x6 : Int) (s2 : (List ((List Int) × (List Int)))) => (t_all_chords x6).bind fun v7 =>
(szO (mapO (fun (x9 : (List Int)) => (t_steps_of x9).bind fun v10 => some v10) v7)).bind fun y11 =>
(rngO1 (List.length v7 : Int)).bind fun r13 =>
(szO (catO (fun (x14 : Int) => (rngO1 x14).bind fun r16 => lcO (fun (x15 : Int) => (atI y11 x15).bind fun v17 => (atI y11 x14).bind fun v18 => if (eqE (eT eI) v17 v18) = true then ((atI v7 x15).bind fun v19 => (atI v7 x14).bind fun v20 => some (some (v19, v20))) else some none) r16) r13)).bind fun y21 =>
(plusO s2 y21).bind fun v22 =>
some v22) (rangeI 0 7) [] = some ALLT := by
  refine (fold_flat (g := fun x : Int => tw (FF x.toNat)) 3600 (rangeI 0 7) [] (by rw [rangeI_len]; simp) (fun x hx => tw_len (FF_few hx).1) fun x hx s hs => ?_).trans (congrArg some (List.nil_append _))
  obtain ⟨f1, f2, f3⟩ := FF_few hx
  have ac := all_chords_ok f3
  rw [f2] at ac
  have tl := tw_len f1
  refine (be ac).trans ((be (szmap_eq (g := stOf) (fun c hc => (be (st_ok (FF_ch hc)).1).trans rfl) (by show (FF x.toNat).length ≤ _; omega))).trans ((be (rngO1_eq (by show (FF x.toNat).length ≤ _; omega))).trans ((be (v := tw (FF x.toNat)) ?_).trans ((be (plusO_eq (by omega))).trans rfl))))
  refine szO_eq (catO_eq (g := blk (FF x.toNat)) fun k hk => ?_) (by omega)
  obtain ⟨k0, k1⟩ := mem_rng.mp hk
  refine (be (v := rangeI 0 k.toNat) ?_).trans (blk_ok k0 k1)
  have := rngO1_eq (n := k.toNat) (by have : (FF x.toNat).length ≤ 60 := f1; have : k < ((FF x.toNat).length : Int) := k1; omega)
  rwa [Int.toNat_of_nonneg k0] at this
theorem law_all : foldO (fun (x73 : Int) (s68 : (List ((List Int) × (List Int)))) => (t__law_forms x73).bind fun v74 =>
(szO (mapO (fun (x76 : (List Int)) => (t__law_steps x76).bind fun v77 => some v77) v74)).bind fun y78 =>
(rngO1 (List.length v74 : Int)).bind fun r79 =>
(foldO (fun (x82 : Int) (s80 : (List ((List Int) × (List Int)))) => (rngO1 x82).bind fun r84 =>
(szO (lcO (fun (x85 : Int) => (atI y78 x85).bind fun v86 => (atI y78 x82).bind fun v87 => if (eqE (eT eI) v86 v87) = true then ((atI v74 x85).bind fun v88 => (atI v74 x82).bind fun v89 => some (some (v88, v89))) else some none) r84)).bind fun y90 =>
(plusO s80 y90).bind fun v91 =>
some v91) r79 s68).bind fun (s92 : (List ((List Int) × (List Int)))) =>
some s92) (rangeI 0 (Int.toNat 7)) [] = some ALLT := by
  refine (fold_flat (g := fun x : Int => tw (FF x.toNat)) 3600 (rangeI 0 7) [] (by rw [rangeI_len]; simp) (fun x hx => tw_len (FF_few hx).1) fun x hx s hs => ?_).trans (congrArg some (List.nil_append _))
  obtain ⟨f1, f2, f3⟩ := FF_few hx
  have ac := law_forms_ok f3
  rw [f2] at ac
  refine (be ac).trans ((be (szmap_eq (g := stOf) (fun c hc => (be (st_ok (FF_ch hc)).2).trans rfl) (by show (FF x.toNat).length ≤ _; omega))).trans ((be (rngO1_eq (by show (FF x.toNat).length ≤ _; omega))).trans ((be (v := s ++ tw (FF x.toNat)) ?_).trans rfl)))
  refine fold_flat (g := blk (FF x.toNat)) 60 (rangeI 0 (FF x.toNat).length) s (by rw [rangeI_len]; have : (FF x.toNat).length ≤ 60 := f1; omega) (fun k hk => blk_len (by have := mem_rng.mp hk; omega)) fun k hk s' hs' => ?_
  obtain ⟨k0, k1⟩ := mem_rng.mp hk
  have hb := blk_len (F := FF x.toNat) (k := k) (by omega)
  refine (be (v := rangeI 0 k.toNat) ?_).trans ((be (szO_eq (blk_ok k0 k1) (by omega))).trans ((be (plusO_eq (by omega))).trans rfl))
  have := rngO1_eq (n := k.toNat) (by omega)
  rwa [Int.toNat_of_nonneg k0] at this
theorem two_ok : ∃ T, TWO = some T := by
  have a : ALLT.all (OrdE.ok (e2 (eT eI) (eT eI))) = true := List.all_eq_true.mpr fun _ _ => rfl
  have b : ALLT.length ≤ sizeLine := Nat.le_trans allt_len (Nat.le_trans (by decide) szl_6)
  unfold TWO srtO
  generalize ALLT = L at a b ⊢
  exact ⟨_, if_pos ⟨.inl a, b⟩⟩
theorem twins_ok : t_twins = TWO := by
  unfold t_twins TWO
  refine (be (v := rangeI 0 7) (rngO1_eq (n := 7) (by decide))).trans ((be prog_all).trans ?_)
  generalize srtO (e2 (eT eI) (eT eI)) ALLT = z
  cases z <;> rfl
theorem law_true (ds xs : List Int) : t_law ds xs = some true := by
  obtain ⟨n, hl, _⟩ := for_keep (f := lawB ds) (fun _ => True) (rangeI 0 (Int.toNat 4)) 0 trivial fun x s _ _ => lawB_ok ds x s
  refine Eq.trans (forB_of hl) ?_
  show lawE ds n = some true
  unfold lawE
  obtain ⟨v, hv, e1⟩ := pick_ex (ds := ds) (n := n) (xs := ([0, 1, 2, 3, 9, 10, 11, 12, 4, 8] : List Int)) (by simp)
  obtain ⟨s, hs, rfl, h12⟩ : ∃ s : Nat, s ∈ [0, 1, 2, 3, 9, 10, 11, 12, 4, 8] ∧ v = (s : Int) ∧ s ≤ 12 := by
    simp only [List.mem_cons, List.not_mem_nil, or_false] at hv
    rcases hv with rfl | rfl | rfl | rfl | rfl | rfl | rfl | rfl | rfl | rfl
    · exact ⟨0, by decide, rfl, by decide⟩
    · exact ⟨1, by decide, rfl, by decide⟩
    · exact ⟨2, by decide, rfl, by decide⟩
    · exact ⟨3, by decide, rfl, by decide⟩
    · exact ⟨9, by decide, rfl, by decide⟩
    · exact ⟨10, by decide, rfl, by decide⟩
    · exact ⟨11, by decide, rfl, by decide⟩
    · exact ⟨12, by decide, rfl, by decide⟩
    · exact ⟨4, by decide, rfl, by decide⟩
    · exact ⟨8, by decide, rfl, by decide⟩
  obtain ⟨q, c1, c2⟩ := anO_inv (cnt_all s hs)
  refine ext e1 (ext (all_chords_ok h12) (ext (law_forms_ok h12) (ext (pl1 (.tup (.tup (.int 1))) _) (ext (v := false) ?_ (exi rfl ?_)))))
  · rw [if_neg (by decide), eqE_self]
    refine (be (v := false) ?_).trans rfl
    rw [if_neg (by decide)]
    refine (be c1).trans ?_
    rw [c2]
    rfl
  obtain ⟨u, u0, u1, y2⟩ := next_ex (ds := ds) (n := n + 1) (m := 9) (by decide)
  refine ext y2 ?_
  by_cases h : u = 0
  · refine Eq.trans (if_pos (decide_eq_true h)) ?_
    obtain ⟨T, hT⟩ := two_ok
    refine ext law_all (ext (twins_ok.trans hT) (ext (pl1 (.tup (.two (.tup (.int 0)) (.tup (.int 0)))) T) (ext (v := true) ?_ rfl)))
    rw [if_pos rfl]
    have hT' : srtO (e2 (eT eI) (eT eI)) ALLT = some T := hT
    refine (be hT').trans ?_
    rw [eqE_self]
  · refine Eq.trans (if_neg (by simpa using h)) ?_
    obtain ⟨k, k0, k1, e3⟩ := next_ex (ds := ds) (n := n + 1 + 1) (m := 13) (by decide)
    obtain ⟨j, rfl⟩ := Int.eq_ofNat_of_zero_le k0
    obtain ⟨a, a1, a2⟩ := anO_inv (sym_all j (List.mem_range.mpr (by omega)))
    refine ext e3 (ext a1 (ext (isO_inv a2) ?_))
    rw [decide_eq_true rfl]
theorem wanted : ∀ ns : List Int, ns.length ≤ 63 → ∃ as', F_law [.sh (.list (ns.map PyData.int))] = some (.sh (.bool true), as') := by
  intro ns hl
  obtain ⟨ds, _, hd⟩ := draws_ok ns hl 300 (by decide)
  exact ⟨_, sim_law ds hd (law_true ds ns)⟩
end K89

set_option Elab.async false
set_option linter.all false
set_option autoImplicit false
set_option maxRecDepth 100000
set_option maxHeartbeats 1000000
open PySem PySem.W PySem.Calls PyProof.Rows
theorem PySem.Challenge.cw_turnwarrant_k89_whole_chords_holds : PySem.Challenge.rw_turnwarrant_k89_whole_chords.Holds := by
  w_on; o_law
  refine HandSHeadRun.head_imp (r := OpenLaw.row PySem.Challenge.rw_turnwarrant_k89_whole_chords) (q := view (OpenLaw.row PySem.Challenge.rw_turnwarrant_k89_whole_chords).prog [0, 26]) (H := K89.hk) (ob := K89.ob) (M := 1680) (loose := K89.loose) (d := HandSHeadRun.topDef (OpenLaw.row PySem.Challenge.rw_turnwarrant_k89_whole_chords).prog 26) (kwd := []) K89.ob_eq
    K89.run (by kernel_rfl) (by kernel_rfl) (by kernel_rfl) (by rfl) (by first | assumption | decide +kernel) (by decide +kernel) ⟨rfl, rfl, rfl, rfl, rfl, by decide +kernel⟩ ?hw ?hc
  case hw => w_witness2
  case hc =>
    refine L2.walk_ofE (l := PySem.Challenge.rw_turnwarrant_k89_whole_chords) (n := 63) (k := 6) (x := "script") (CX := L2.CX0) rfl (by decide) (by kernel_rfl) ⟨rfl, by decide, by decide⟩ ?F (fun _ _ _ _ z => z)
    intro w mg fa h Y G hmg0
    obtain ⟨K, KX, c, cx⟩ := Y
    have hmg : mg ("law" : PySem.Str) = some (.ref fa) := by
      have e : (HandSHeadRun.topDef (OpenLaw.row PySem.Challenge.rw_turnwarrant_k89_whole_chords).prog 26).name = ("law" : PySem.Str) := by kernel_rfl
      rw [← e]
      exact hmg0
    obtain ⟨fd, hb, hF⟩ := K89.facts (P := (PySem.Challenge.rw_turnwarrant_k89_whole_chords).prog) (w := w) KX G hmg c cx
    exact ⟨K, fd, DL.spD K 1 K89.F_law, KX, hb, fun H a ns hl _ hS => DL.law_end hS (K89.wanted ns hl), hF⟩

