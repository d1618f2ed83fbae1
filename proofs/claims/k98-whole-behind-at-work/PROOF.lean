import PyProof.Rows.All
import Wide.All
import OpenK.AllK
import Wide.FinOn
import HandS.Base
import HandS.Call
import HandS.List
import HandS.Comp
import HandS.Dict
import HandS.Iter
import HandS.More
import HandS.Conv
import HandS.Ends
import HandS.Words
import HandS.WordsList
import HandS.WordsDict
import HandS.Defaults
import HandS.Flow
import HandS.SortRule
import HandS.SortInts
import HandS.SortKw
import HandS.SetFor
import HandS.Small
import HandS.DeepEq
import KE.KStateDown
import HandS.WordsExc
import HandS.Head0
import HandS.Head1
import HandS.Head2
import HandS.HeadEnd
import HandS.HeadHook1
import HandS.HeadHook2
import PySem.Challenge.RW_meshworks_k98_whole_behind_at_work
import HandS.Walk
/-! MA -/
set_option Elab.async false
set_option linter.all false
set_option maxRecDepth 100000
set_option maxHeartbeats 4000000
namespace MW
open PySem PySem.Spec L2

abbrev Pr := Hp → V → Prop
def Mono (P : Pr) : Prop := ∀ H H' v, Same H H' → P H v → P H' v

/-! ### data -/
mutual
def Dv (H : Hp) : PyData → V → Prop
  | .none, v => v = .non
  | .bool b, v => v = .bl b
  | .int i, v => v = .int i
  | .str x, v => v = .str x
  | .list ds, v => ∃ a vs, v = .ref a ∧ H a = some (.lst vs) ∧ DvAll H ds vs
  | .tuple ds, v => ∃ a vs, v = .ref a ∧ H a = some (.tup vs) ∧ DvAll H ds vs
  | .dict kvs, v => ∃ a ps, v = .ref a ∧ H a = some (.dK ps) ∧ DvKv H kvs ps
def DvAll (H : Hp) : List PyData → List V → Prop
  | [], vs => vs = []
  | d :: ds, vs => ∃ v r, vs = v :: r ∧ Dv H d v ∧ DvAll H ds r
def DvKv (H : Hp) : List (PyData × PyData) → List (Key × V) → Prop
  | [], ps => ps = []
  | (k, d) :: r, ps => ∃ i v q, k = .int i ∧ ps = (Sum.inl i, v) :: q ∧ Dv H d v ∧ DvKv H r q
end

mutual
theorem Dv.mono {H H' : Hp} (s : Same H H') : ∀ (d : PyData) (v : V), Dv H d v → Dv H' d v
  | .none, _, h => h
  | .bool _, _, h => h
  | .int _, _, h => h
  | .str _, _, h => h
  | .list ds, _, ⟨a, vs, e, h, r⟩ => ⟨a, vs, e, s a _ h, DvAll.mono s ds vs r⟩
  | .tuple ds, _, ⟨a, vs, e, h, r⟩ => ⟨a, vs, e, s a _ h, DvAll.mono s ds vs r⟩
  | .dict kvs, _, ⟨a, ps, e, h, r⟩ => ⟨a, ps, e, s a _ h, DvKv.mono s kvs ps r⟩
theorem DvAll.mono {H H' : Hp} (s : Same H H') : ∀ (ds : List PyData) (vs : List V), DvAll H ds vs → DvAll H' ds vs
  | [], _, h => h
  | d :: ds, _, ⟨v, r, e, h, q⟩ => ⟨v, r, e, Dv.mono s d v h, DvAll.mono s ds r q⟩
theorem DvKv.mono {H H' : Hp} (s : Same H H') : ∀ (kvs : List (PyData × PyData)) (ps : List (Key × V)), DvKv H kvs ps → DvKv H' kvs ps
  | [], _, h => h
  | (k, d) :: kvs, _, ⟨i, v, q, e1, e2, h, r⟩ => ⟨i, v, q, e1, e2, Dv.mono s d v h, DvKv.mono s kvs q r⟩
end
theorem DvAll.length {H : Hp} : ∀ {ds : List PyData} {vs : List V}, DvAll H ds vs → vs.length = ds.length
  | [], _, h => by subst h; rfl
  | d :: ds, _, ⟨v, r, e, h, q⟩ => by subst e; simp [DvAll.length q]
theorem DvAll.get {H : Hp} : ∀ {ds : List PyData} {vs : List V} {i : Nat} {d : PyData}, DvAll H ds vs → ds[i]? = some d → ∃ v, vs[i]? = some v ∧ Dv H d v
  | [], _, _, _, _, e => by simp at e
  | d :: ds, _, 0, _, ⟨v, r, e, h, q⟩, e2 => by subst e; simp at e2; subst e2; exact ⟨v, rfl, h⟩
  | d :: ds, _, i + 1, _, ⟨v, r, e, h, q⟩, e2 => by
    subst e
    obtain ⟨u, h1, h2⟩ := DvAll.get (i := i) q (by simpa using e2)
    exact ⟨u, by simpa using h1, h2⟩
theorem DvAll.get' {H : Hp} : ∀ {ds : List PyData} {vs : List V} {i : Nat} {v : V}, DvAll H ds vs → vs[i]? = some v → ∃ d, ds[i]? = some d ∧ Dv H d v := fun {ds vs i v} h e => by
  have hl : i < vs.length := (List.getElem?_eq_some_iff.mp e).1
  rw [h.length] at hl
  obtain ⟨u, h1, h2⟩ := h.get (i := i) (d := ds[i]) (by simp [hl])
  rw [e] at h1
  cases h1
  exact ⟨_, by simp [hl], h2⟩
theorem DvAll.app {H : Hp} : ∀ {ds es : List PyData} {vs us : List V}, DvAll H ds vs → DvAll H es us → DvAll H (ds ++ es) (vs ++ us)
  | [], _, _, _, h, k => by subst h; exact k
  | d :: ds, _, _, _, ⟨v, r, e, h, q⟩, k => by subst e; exact ⟨v, _, rfl, h, DvAll.app q k⟩
theorem DvAll.one {H : Hp} {d : PyData} {v : V} (h : Dv H d v) : DvAll H [d] [v] := ⟨v, [], rfl, h, rfl⟩
theorem DvAll.take {H : Hp} : ∀ {ds : List PyData} {vs : List V} (n : Nat), DvAll H ds vs → DvAll H (ds.take n) (vs.take n)
  | _, _, 0, _ => by simp [DvAll]
  | [], _, n + 1, h => by subst h; simp [DvAll]
  | d :: ds, _, n + 1, ⟨v, r, e, h, q⟩ => by subst e; exact ⟨v, _, rfl, h, DvAll.take n q⟩
theorem DvAll.drop {H : Hp} : ∀ {ds : List PyData} {vs : List V} (n : Nat), DvAll H ds vs → DvAll H (ds.drop n) (vs.drop n)
  | _, _, 0, h => h
  | [], _, n + 1, h => by subst h; simp [DvAll]
  | d :: ds, _, n + 1, ⟨v, r, e, h, q⟩ => by subst e; exact DvAll.drop n q
theorem DvAll.set {H : Hp} : ∀ {ds : List PyData} {vs : List V} (n : Nat) {d : PyData} {v : V}, DvAll H ds vs → Dv H d v → DvAll H (ds.set n d) (vs.set n v)
  | [], _, n, _, _, h, _ => by subst h; simp [DvAll]
  | d :: ds, _, 0, _, u, ⟨v, r, e, h, q⟩, k => by subst e; exact ⟨u, r, rfl, k, q⟩
  | d :: ds, _, n + 1, _, _, ⟨v, r, e, h, q⟩, k => by subst e; exact ⟨v, _, rfl, h, DvAll.set n q k⟩
theorem DvAll.ints {H : Hp} : ∀ {ns : List Int} {vs : List V}, DvAll H (ns.map PyData.int) vs ↔ vs = ns.map V.int
  | [], vs => Iff.rfl
  | n :: ns, vs => by
    constructor
    · rintro ⟨v, r, rfl, h, q⟩
      rw [DvAll.ints.mp q, show v = V.int n from h]; rfl
    · rintro rfl
      exact ⟨_, _, rfl, rfl, DvAll.ints.mpr rfl⟩
theorem DvAll.bools {H : Hp} : ∀ {ns : List Bool} {vs : List V}, DvAll H (ns.map PyData.bool) vs ↔ vs = ns.map V.bl
  | [], vs => Iff.rfl
  | n :: ns, vs => by
    constructor
    · rintro ⟨v, r, rfl, h, q⟩
      rw [DvAll.bools.mp q, show v = V.bl n from h]; rfl
    · rintro rfl
      exact ⟨_, _, rfl, rfl, DvAll.bools.mpr rfl⟩
theorem DvAll.atI {H : Hp} {ds : List PyData} {vs : List V} {i : Int} {d : PyData} (h : DvAll H ds vs) (e : atI ds i = some d) : ∃ v, L2.atI vs i = some v ∧ Dv H d v := by
  unfold L2.atI at *
  rw [h.length]
  cases q : ixN ds.length i with
  | none => rw [q] at e; cases e
  | some j => rw [q] at e; exact h.get e
/-! no dicts within -/
mutual
def NoD : PyData → Bool
  | .list ds => NoDs ds
  | .tuple ds => NoDs ds
  | .dict _ => false
  | _ => true
def NoDs : List PyData → Bool
  | [] => true
  | d :: ds => NoD d && NoDs ds
end
mutual
theorem Dv.dp {K : PySem.W.Frag} {H : Hp} : ∀ (d : PyData) (v : V), NoD d = true → Dv H d v → Dp K H v d
  | .none, _, _, h => by cases h; exact .non
  | .bool _, _, _, h => by cases h; exact .bl _
  | .int _, _, _, h => by cases h; exact .int _
  | .str _, _, _, h => by cases h; exact .str _
  | .list ds, _, n, ⟨a, vs, e, h, r⟩ => by subst e; exact .lst (.inl (.inl h)) (DvAll.dp ds vs n r)
  | .tuple ds, _, n, ⟨a, vs, e, h, r⟩ => by subst e; exact .tup (.inl (.inl h)) (DvAll.dp ds vs n r)
  | .dict _, _, n, _ => by cases n
theorem DvAll.dp {K : PySem.W.Frag} {H : Hp} : ∀ (ds : List PyData) (vs : List V), NoDs ds = true → DvAll H ds vs → DpAll K H vs ds
  | [], _, _, h => by cases h; exact .nil
  | d :: ds, _, n, ⟨v, r, e, h, q⟩ => by
    subst e
    have n' : NoD d = true ∧ NoDs ds = true := by simpa [NoDs] using n
    exact .cons (Dv.dp d v n'.1 h) (DvAll.dp ds r n'.2 q)
end
abbrev D (d : PyData) : Pr := fun H v => Dv H d v
theorem mono_D (d : PyData) : Mono (D d) := fun _ _ v s h => Dv.mono s d v h
/-- the script -/
def Sc (K : PySem.W.Frag) (ns : List Int) : Pr := fun H v => ∃ a, v = .ref a ∧ SqL K H a (ns.map V.int)
theorem mono_Sc {K : PySem.W.Frag} {ns : List Int} : Mono (Sc K ns) := fun _ _ _ s ⟨a, e, h⟩ => ⟨a, e, s.seq h⟩

/-! ### growth -/
structure Grow (Hb H Hb2 H2 : Hp) : Prop where
  fz : Same Hb Hb2
  al : Same H H2
  in_ : Same Hb2 H2
  nw : ∀ a, Hb a = none → Hb2 a ≠ none → H a = none
section
variable {Hb H Hb2 H2 Hb3 H3 : Hp}
theorem Grow.refl (h : Same Hb H) : Grow Hb H Hb H := ⟨Same.refl _, Same.refl _, h, fun _ n q => absurd n q⟩
theorem Same.none {H H' : Hp} (s : Same H H') {a : Addr} (h : H' a = Option.none) : H a = Option.none := s.free h
theorem Grow.trans (a : Grow Hb H Hb2 H2) (b : Grow Hb2 H2 Hb3 H3) : Grow Hb H Hb3 H3 := ⟨a.fz.trans b.fz, a.al.trans b.al, b.in_, fun x n q => by
  by_cases h : Hb2 x = none
  · exact a.al.free (b.nw x h q)
  · exact a.nw x n h⟩
theorem same_upd {H : Hp} {p : Addr} {o : HO} (hp : H p = none) : Same H (upd H p o) := fun b u e => by
  rw [upd_ne (ne_of_none e hp)]; exact e
theorem same_upd2 {H H' : Hp} {p : Addr} {o : HO} (s : Same H H') : Same H' (upd H' p o) ∨ True := .inr trivial
/-- a new frozen object -/
theorem Grow.new {p : Addr} {o : HO} (s : Same Hb H) (hp : H p = none) : Grow Hb H (upd Hb p o) (upd H p o) :=
  ⟨same_upd (s.free hp), same_upd hp, fun b u e => by
    by_cases h : b = p
    · subst h; rw [upd_same] at e ⊢; exact e
    · rw [upd_ne h] at e ⊢; exact s b u e, fun a n q => by
    by_cases h : a = p
    · subst h; exact hp
    · rw [upd_ne h] at q; exact absurd n q⟩
/-- a new object that may change -/
theorem Grow.own {p : Addr} {o : HO} (s : Same Hb H) (hp : H p = none) : Grow Hb H Hb (upd H p o) :=
  ⟨Same.refl _, same_upd hp, fun b u e => by rw [upd_ne (ne_of_none (s b u e) hp)]; exact s b u e, fun a n q => absurd n q⟩
theorem same_mut {p : Addr} {o : HO} (s : Same Hb H) (hp : Hb p = none) : Same Hb (upd H p o) := fun b u e => by
  rw [upd_ne (ne_of_none e hp)]; exact s b u e
/-- an object of one's own changes -/
theorem Grow.mut {Hb0 H0 : Hp} {p : Addr} {o : HO} (g : Grow Hb0 H0 Hb H) (hp : Hb p = none) (h0 : H0 p = none) : Grow Hb0 H0 Hb (upd H p o) :=
  ⟨g.fz, fun b u e => by rw [upd_ne (ne_of_none e h0)]; exact g.al b u e, same_mut g.in_ hp, g.nw⟩
/-- .. is frozen -/
theorem Grow.freeze {Hb0 H0 : Hp} {p : Addr} {o : HO} (g : Grow Hb0 H0 Hb H) (hp : Hb p = none) (h0 : H0 p = none) (h : H p = some o) : Grow Hb0 H0 (upd Hb p o) H :=
  ⟨g.fz.trans (same_upd hp), g.al, fun b u e => by
    by_cases q : b = p
    · subst q; rw [upd_same] at e; rw [h]; exact e
    · rw [upd_ne q] at e; exact g.in_ b u e, fun a n q => by
    by_cases e : a = p
    · subst e; exact h0
    · rw [upd_ne e] at q; exact g.nw a n q⟩
end

/-! ### slots -/
inductive Ent where
  | no
  | p (P : Pr)
  | own (ds : List PyData)
  | ownD (kvs : List (PyData × PyData))
def Ent.mine : Ent → Bool
  | .own _ => true
  | .ownD _ => true
  | _ => false
abbrev Ctx := List Ent
def EntOk (H0 Hb H : Hp) (o : Option (Option V)) : Ent → Prop
  | .no => True
  | .p P => Mono P ∧ ∃ v, o = some (some v) ∧ P Hb v
  | .own ds => ∃ l vs, o = some (some (.ref l)) ∧ H l = some (.lst vs) ∧ Hb l = none ∧ H0 l = none ∧ DvAll Hb ds vs
  | .ownD kvs => ∃ l vs, o = some (some (.ref l)) ∧ H l = some (.dK vs) ∧ Hb l = none ∧ H0 l = none ∧ DvKv Hb kvs vs
structure EvG (H0 : Hp) (G : Ctx) (Hb H : Hp) (σ : L2.St) : Prop where
  len : σ.length = G.length
  ent : ∀ (i : Nat) (e : Ent), G[i]? = some e → EntOk H0 Hb H σ[i]? e
  dis : ∀ (i j : Nat) (e f : Ent) (l : Addr), G[i]? = some e → G[j]? = some f → e.mine = true → f.mine = true → σ[i]? = some (some (.ref l)) → σ[j]? = some (some (.ref l)) → i = j
section
variable {H0 Hb H Hb2 H2 : Hp} {G : Ctx} {σ : L2.St}
theorem EntOk.grow {o : Option (Option V)} {e : Ent} (h : EntOk H0 Hb H o e) (g : Grow Hb H Hb2 H2) : EntOk H0 Hb2 H2 o e := by
  cases e with
  | no => trivial
  | p P => obtain ⟨m, v, q, h⟩ := h; exact ⟨m, v, q, m _ _ _ g.fz h⟩
  | own ds =>
    obtain ⟨l, vs, e, h1, h2, h3, h4⟩ := h
    refine ⟨l, vs, e, g.al l _ h1, ?_, h3, DvAll.mono g.fz _ _ h4⟩
    cases q : Hb2 l with
    | none => rfl
    | some o => have := g.nw l h2 (by rw [q]; simp); rw [h1] at this; cases this
  | ownD ds =>
    obtain ⟨l, vs, e, h1, h2, h3, h4⟩ := h
    refine ⟨l, vs, e, g.al l _ h1, ?_, h3, DvKv.mono g.fz _ _ h4⟩
    cases q : Hb2 l with
    | none => rfl
    | some o => have := g.nw l h2 (by rw [q]; simp); rw [h1] at this; cases this
theorem EvG.grow (E : EvG H0 G Hb H σ) (g : Grow Hb H Hb2 H2) : EvG H0 G Hb2 H2 σ := ⟨E.len, fun i e h => (E.ent i e h).grow g, E.dis⟩
theorem EvG.var {i : Nat} {P : Pr} (E : EvG H0 G Hb H σ) (h : G[i]? = some (.p P)) : ∃ v, σ[i]? = some (some v) ∧ P Hb v := (E.ent i _ h).2
/-- a slot is stored -/
theorem EvG.put {i : Nat} {P : Pr} {v : V} (E : EvG H0 G Hb H σ) (m : Mono P) (h : P Hb v) : EvG H0 (G.set i (.p P)) Hb H (σ.set i (some v)) := by
  refine ⟨by simp [E.len], fun j e q => ?_, fun j k e f l q1 q2 m1 m2 s1 s2 => ?_⟩
  · by_cases hj : i = j
    · subst hj
      rw [List.getElem?_set_self' ] at q
      cases hq : G[i]? with
      | none => rw [hq] at q; cases q
      | some e0 =>
        rw [hq] at q
        cases q
        have hi : i < σ.length := by rw [E.len]; exact (List.getElem?_eq_some_iff.mp hq).1
        refine ⟨m, v, ?_, h⟩
        rw [List.getElem?_set_self hi]
    · rw [List.getElem?_set_ne hj] at q ⊢
      exact E.ent j e q
  · have n1 : i ≠ j := by
      rintro rfl
      rw [List.getElem?_set_self'] at q1
      cases hq : G[i]? with
      | none => rw [hq] at q1; cases q1
      | some e0 => rw [hq] at q1; cases q1; cases m1
    have n2 : i ≠ k := by
      rintro rfl
      rw [List.getElem?_set_self'] at q2
      cases hq : G[i]? with
      | none => rw [hq] at q2; cases q2
      | some e0 => rw [hq] at q2; cases q2; cases m2
    rw [List.getElem?_set_ne n1] at q1 s1
    rw [List.getElem?_set_ne n2] at q2 s2
    exact E.dis j k e f l q1 q2 m1 m2 s1 s2
/-- a slot is stored, nothing known of it -/
theorem EvG.drop {i : Nat} {o : Option V} (E : EvG H0 G Hb H σ) : EvG H0 (G.set i .no) Hb H (σ.set i o) := by
  refine ⟨by simp [E.len], fun j e q => ?_, fun j k e f l q1 q2 m1 m2 s1 s2 => ?_⟩
  · by_cases hj : i = j
    · subst hj
      rw [List.getElem?_set_self'] at q
      cases hq : G[i]? with
      | none => rw [hq] at q; cases q
      | some e0 => rw [hq] at q; cases q; trivial
    · rw [List.getElem?_set_ne hj] at q ⊢
      exact E.ent j e q
  · have n1 : i ≠ j := by
      rintro rfl
      rw [List.getElem?_set_self'] at q1
      cases hq : G[i]? with
      | none => rw [hq] at q1; cases q1
      | some e0 => rw [hq] at q1; cases q1; cases m1
    have n2 : i ≠ k := by
      rintro rfl
      rw [List.getElem?_set_self'] at q2
      cases hq : G[i]? with
      | none => rw [hq] at q2; cases q2
      | some e0 => rw [hq] at q2; cases q2; cases m2
    rw [List.getElem?_set_ne n1] at q1 s1
    rw [List.getElem?_set_ne n2] at q2 s2
    exact E.dis j k e f l q1 q2 m1 m2 s1 s2
/-- less is known -/
def Wk1 : Ent → Ent → Prop := fun e f => f = e ∨ f = .no
theorem EvG.weak {G' : Ctx} (E : EvG H0 G Hb H σ) (hl : G'.length = G.length) (h : ∀ (i : Nat) (e : Ent), G'[i]? = some e → e = .no ∨ G[i]? = some e) : EvG H0 G' Hb H σ := by
  refine ⟨by rw [hl]; exact E.len, fun i e q => ?_, fun j k e f l q1 q2 m1 m2 s1 s2 => ?_⟩
  · rcases h i e q with rfl | q'
    · trivial
    · exact E.ent i e q'
  · rcases h j e q1 with rfl | q1'
    · cases m1
    rcases h k f q2 with rfl | q2'
    · cases m2
    exact E.dis j k e f l q1' q2' m1 m2 s1 s2
end
def wipeG (G : Ctx) : List Nat → Ctx
  | [] => G
  | v :: vs => (wipeG G vs).set v .no
theorem EvG.wipe {H0 Hb H : Hp} {G : Ctx} {σ : L2.St} (E : EvG H0 G Hb H σ) : ∀ vs : List Nat, EvG H0 (wipeG G vs) Hb H (L2.wipe σ vs)
  | [] => E
  | v :: vs => (E.wipe vs).drop
end MW

/-! MB -/
set_option Elab.async false
set_option linter.all false
set_option maxRecDepth 100000
set_option maxHeartbeats 4000000
namespace MW
open PySem PySem.Spec L2
/-! ### what a reading gives -/
structure Res where
  p : Hp → Hp → Hp → Prop
  st : ∀ H0 Hb H Hb2 H2, p H0 Hb H → Grow Hb H Hb2 H2 → p H0 Hb2 H2
def R0 : Res := ⟨fun _ _ _ => True, fun _ _ _ _ _ _ _ => trivial⟩
def Y (R : Res) (te : TE) (G : Ctx) (P : Pr) : Prop := ∀ H0 Hb H σ, EvG H0 G Hb H σ → R.p H0 Hb H → Same Hb H → ∀ Q : VK, (∀ v Hb2 H2, Grow Hb H Hb2 H2 → P Hb2 v → Q v H2) → te σ H Q
def YT (R : Res) (tt : TT) (G : Ctx) (b : Bool) : Prop := ∀ H0 Hb H σ, EvG H0 G Hb H σ → R.p H0 Hb H → Same Hb H → ∀ Q : Bool → Hp → Prop, (∀ Hb2 H2, Grow Hb H Hb2 H2 → Q b H2) → tt σ H Q
def ArgsP (H : Hp) : List Pr → List V → Prop
  | [], vs => vs = []
  | P :: Ps, vs => ∃ v r, vs = v :: r ∧ P H v ∧ ArgsP H Ps r
def MonoL : List Pr → Prop
  | [] => True
  | P :: Ps => Mono P ∧ MonoL Ps
theorem ArgsP.mono {H H' : Hp} (s : Same H H') : ∀ {Ps : List Pr} {vs : List V}, MonoL Ps → ArgsP H Ps vs → ArgsP H' Ps vs
  | [], _, _, h => h
  | P :: Ps, _, ⟨m, ms⟩, ⟨v, r, e, h, q⟩ => ⟨v, r, e, m _ _ _ s h, ArgsP.mono s ms q⟩
def YA (R : Res) (ta : TA) (G : Ctx) (Ps : List Pr) : Prop := ∀ H0 Hb H σ, EvG H0 G Hb H σ → R.p H0 Hb H → Same Hb H → ∀ Q : List V → Hp → Prop, (∀ vs Hb2 H2, Grow Hb H Hb2 H2 → ArgsP Hb2 Ps vs → Q vs H2) → ta σ H Q
/-- two-place, one-place operations by values -/
def RV (r : R2) (P1 P2 P : Pr) : Prop := ∀ x y Hb H, P1 Hb x → P2 Hb y → Same Hb H → ∀ Q : VK, (∀ v Hb2 H2, Grow Hb H Hb2 H2 → P Hb2 v → Q v H2) → r x y H Q
section
variable {R : Res} {G : Ctx} {K : PySem.W.Frag} {ta tb tc te : TE} {P P1 P2 : Pr} {t u : TT}
theorem Y.imp (h : Y R te G P1) (k : ∀ H v, P1 H v → P2 H v) : Y R te G P2 := fun H0 Hb H σ E r s Q q => h H0 Hb H σ E r s Q fun v Hb2 H2 g p => q v Hb2 H2 g (k _ _ p)
theorem y_var {i : Nat} (h : G[i]? = some (.p P)) : Y R (tVar i) G P := fun H0 Hb H σ E _ s Q q =>
  let ⟨v, e, p⟩ := E.var h
  ⟨v, e, q v Hb H (.refl s) p⟩
theorem y_int {i : Int} : Y R (tC (.int i)) G (D (.int i)) := fun H0 Hb H σ _ _ s Q q => q _ Hb H (.refl s) rfl
theorem y_str {i : Str} : Y R (tC (.str i)) G (D (.str i)) := fun H0 Hb H σ _ _ s Q q => q _ Hb H (.refl s) rfl
theorem y_bl {i : Bool} : Y R (tC (.bl i)) G (D (.bool i)) := fun H0 Hb H σ _ _ s Q q => q _ Hb H (.refl s) rfl
theorem y_non : Y R (tC .non) G (D .none) := fun H0 Hb H σ _ _ s Q q => q _ Hb H (.refl s) rfl
theorem y_op {r : R2} (ha : Y R ta G P1) (m : Mono P1) (hb : Y R tb G P2) (hr : RV r P1 P2 P) : Y R (tOp r ta tb) G P := fun H0 Hb H σ E rr s Q q =>
  ha H0 Hb H σ E rr s _ fun x Hb1 H1 g1 p1 => hb H0 Hb1 H1 σ (E.grow g1) (R.st _ _ _ _ _ rr g1) g1.in_ _ fun y Hb2 H2 g2 p2 =>
    hr x y Hb2 H2 (m _ _ _ g2.fz p1) p2 g2.in_ Q fun v Hb3 H3 g3 p3 => q v Hb3 H3 (g1.trans (g2.trans g3)) p3
theorem rv_I0 {g : Int → Int → V} {i j : Int} (h : ∀ H, P H (g i j)) : RV (rI0 g) (D (.int i)) (D (.int j)) P := fun x y Hb H p1 p2 s Q q => by
  obtain rfl : x = .int i := p1
  obtain rfl : y = .int j := p2
  exact ⟨i, j, rfl, rfl, q _ Hb H (.refl s) (h Hb)⟩
theorem rv_I {C : Int → Int → Prop} {g : Int → Int → V} {i j : Int} (c : C i j) (h : ∀ H, P H (g i j)) : RV (rI C g) (D (.int i)) (D (.int j)) P := fun x y Hb H p1 p2 s Q q => by
  obtain rfl : x = .int i := p1
  obtain rfl : y = .int j := p2
  exact ⟨i, j, rfl, rfl, c, q _ Hb H (.refl s) (h Hb)⟩
variable {i j : Int}
theorem y_I0 {g : Int → Int → Int} (ha : Y R ta G (D (.int i))) (hb : Y R tb G (D (.int j))) : Y R (tOp (rI0 fun i j => .int (g i j)) ta tb) G (D (.int (g i j))) := y_op ha (mono_D _) hb (rv_I0 fun _ => rfl)
theorem y_B0 {g : Int → Int → Bool} (ha : Y R ta G (D (.int i))) (hb : Y R tb G (D (.int j))) : Y R (tOp (rI0 fun i j => .bl (g i j)) ta tb) G (D (.bool (g i j))) := y_op ha (mono_D _) hb (rv_I0 fun _ => rfl)
theorem y_IC {C : Int → Int → Prop} {g : Int → Int → Int} (ha : Y R ta G (D (.int i))) (hb : Y R tb G (D (.int j))) (c : C i j) : Y R (tOp (rI C fun i j => .int (g i j)) ta tb) G (D (.int (g i j))) := y_op ha (mono_D _) hb (rv_I c fun _ => rfl)
theorem rv_eqI : RV rEq (D (.int i)) (D (.int j)) (D (.bool (decide (i = j)))) := fun x y Hb H p1 p2 s Q q => by
  obtain rfl : x = .int i := p1
  obtain rfl : y = .int j := p2
  exact ⟨rfl, q _ Hb H (.refl s) (by show V.bl _ = V.bl _; congr 1; simp)⟩
theorem rv_neI : RV rNe (D (.int i)) (D (.int j)) (D (.bool (!decide (i = j)))) := fun x y Hb H p1 p2 s Q q => by
  obtain rfl : x = .int i := p1
  obtain rfl : y = .int j := p2
  exact ⟨rfl, q _ Hb H (.refl s) (by show V.bl _ = V.bl _; congr 1; simp)⟩
theorem rv_eqS {i j : Str} : RV rEq (D (.str i)) (D (.str j)) (D (.bool (decide (i = j)))) := fun x y Hb H p1 p2 s Q q => by
  obtain rfl : x = .str i := p1
  obtain rfl : y = .str j := p2
  exact ⟨rfl, q _ Hb H (.refl s) (by show V.bl _ = V.bl _; congr 1; simp)⟩
theorem y_eqI (ha : Y R ta G (D (.int i))) (hb : Y R tb G (D (.int j))) : Y R (tOp rEq ta tb) G (D (.bool (decide (i = j)))) := y_op ha (mono_D _) hb rv_eqI
theorem y_neI (ha : Y R ta G (D (.int i))) (hb : Y R tb G (D (.int j))) : Y R (tOp rNe ta tb) G (D (.bool (!decide (i = j)))) := y_op ha (mono_D _) hb rv_neI
theorem y_eqS {i j : Str} (ha : Y R ta G (D (.str i))) (hb : Y R tb G (D (.str j))) : Y R (tOp rEq ta tb) G (D (.bool (decide (i = j)))) := y_op ha (mono_D _) hb rv_eqS
/-- == of two ints, two texts -/
@[reducible] def eqd : PyData → PyData → Bool
  | .int i, .int j => decide (i = j)
  | .str i, .str j => decide (i = j)
  | _, _ => false
@[reducible] def scd : PyData → PyData → Bool
  | .int _, .int _ => true
  | .str _, .str _ => true
  | _, _ => false
theorem y_eq {d e : PyData} (ha : Y R ta G (D d)) (hb : Y R tb G (D e)) (h : scd d e = true) : Y R (tOp rEq ta tb) G (D (.bool (eqd d e))) := by
  cases d <;> cases e <;> first | exact y_eqI ha hb | exact y_eqS ha hb | (exfalso; cases h)
theorem y_neS {i j : Str} (ha : Y R ta G (D (.str i))) (hb : Y R tb G (D (.str j))) : Y R (tOp rNe ta tb) G (D (.bool (!decide (i = j)))) := y_op ha (mono_D _) hb fun x y Hb H p1 p2 s Q q => by
  obtain rfl : x = .str i := p1
  obtain rfl : y = .str j := p2
  exact ⟨rfl, q _ Hb H (.refl s) (by show V.bl _ = V.bl _; congr 1; simp)⟩
theorem y_ne {d e : PyData} (ha : Y R ta G (D d)) (hb : Y R tb G (D e)) (h : scd d e = true) : Y R (tOp rNe ta tb) G (D (.bool (!eqd d e))) := by
  cases d <;> cases e <;> first | exact y_neI ha hb | exact y_neS ha hb | (exfalso; cases h)
/-- x is None -/
def rIsN : R2 := fun x y H Q => y = .non ∧ Q (.bl (decide (x = .non))) H
def rNotN : R2 := fun x y H Q => y = .non ∧ Q (.bl (!decide (x = .non))) H
def isNone : PyData → Bool
  | .none => true
  | _ => false
theorem dv_none {H : Hp} {d : PyData} {v : V} (h : Dv H d v) : decide (v = .non) = isNone d := by
  cases d with
  | none => cases (show v = .non from h); rfl
  | bool b => cases (show v = .bl b from h); rfl
  | int b => cases (show v = .int b from h); rfl
  | str b => cases (show v = .str b from h); rfl
  | list b => obtain ⟨a, vs, rfl, _⟩ := h; rfl
  | tuple b => obtain ⟨a, vs, rfl, _⟩ := h; rfl
  | dict b => obtain ⟨a, vs, rfl, _⟩ := h; rfl
theorem y_isN {d : PyData} (ha : Y R ta G (D d)) : Y R (tOp rIsN ta (tC .non)) G (D (.bool (isNone d))) := y_op ha (mono_D _) y_non fun x y Hb H p1 p2 s Q q => by
  obtain rfl : y = .non := p2
  exact ⟨rfl, q _ Hb H (.refl s) (by show V.bl _ = V.bl _; rw [dv_none p1])⟩
theorem y_notN {d : PyData} (ha : Y R ta G (D d)) : Y R (tOp rNotN ta (tC .non)) G (D (.bool (!isNone d))) := y_op ha (mono_D _) y_non fun x y Hb H p1 p2 s Q q => by
  obtain rfl : y = .non := p2
  exact ⟨rfl, q _ Hb H (.refl s) (by show V.bl _ = V.bl _; rw [dv_none p1])⟩
theorem y_ixL {ds : List PyData} {d : PyData} (ha : Y R ta G (D (.list ds))) (hb : Y R tb G (D (.int i))) (e : atI ds i = some d) : Y R (tOp (rIxL K) ta tb) G (D d) := y_op ha (mono_D _) hb fun x y Hb H p1 p2 s Q q => by
  obtain ⟨a, vs, rfl, h, r⟩ := p1
  obtain rfl : y = .int i := p2
  obtain ⟨v, h1, h2⟩ := r.atI e
  exact ⟨a, vs, i, v, rfl, rfl, .inl (.inl (s _ _ h)), h1, q v Hb H (.refl s) h2⟩
theorem y_ixT {ds : List PyData} {d : PyData} (ha : Y R ta G (D (.tuple ds))) (hb : Y R tb G (D (.int i))) (e : atI ds i = some d) : Y R (tOp (rIxT K) ta tb) G (D d) := y_op ha (mono_D _) hb fun x y Hb H p1 p2 s Q q => by
  obtain ⟨a, vs, rfl, h, r⟩ := p1
  obtain rfl : y = .int i := p2
  obtain ⟨v, h1, h2⟩ := r.atI e
  exact ⟨a, vs, i, v, rfl, rfl, .inl (.inl (s _ _ h)), h1, q v Hb H (.refl s) h2⟩
theorem y_ixSc {ns : List Int} {k : Int} (ha : Y R ta G (Sc K ns)) (hb : Y R tb G (D (.int i))) (e : atI ns i = some k) : Y R (tOp (rIxL K) ta tb) G (D (.int k)) := y_op ha mono_Sc hb fun x y Hb H p1 p2 s Q q => by
  obtain ⟨a, rfl, h⟩ := p1
  obtain rfl : y = .int i := p2
  refine ⟨a, _, i, .int k, rfl, rfl, Same.seq s h, ?_, q _ Hb H (.refl s) rfl⟩
  unfold L2.atI at *
  rw [List.length_map]
  cases z : ixN ns.length i with
  | none => rw [z] at e; cases e
  | some j =>
    rw [z] at e
    show (ns.map V.int)[j]? = _
    rw [List.getElem?_map, show ns[j]? = some k from e]; rfl
/-- a list of one's own -/
theorem y_ixOwn {ds : List PyData} {d : PyData} {n : Nat} (ha : G[n]? = some (.own ds)) (hb : Y R tb G (D (.int i))) (e : atI ds i = some d) : Y R (tOp (rIxL K) (tVar n) tb) G (D d) := fun H0 Hb H σ E rr s Q q => by
  obtain ⟨l, vs, e1, e2, e3, e4, e5⟩ := E.ent _ _ ha
  refine ⟨_, e1, hb H0 Hb H σ E rr s _ fun y Hb2 H2 g2 p2 => ?_⟩
  obtain rfl : y = .int i := p2
  obtain ⟨v, h1, h2⟩ := (DvAll.mono g2.fz _ _ e5).atI e
  exact ⟨l, vs, i, v, rfl, rfl, .inl (.inl (g2.al _ _ e2)), h1, q v Hb2 H2 g2 h2⟩
/-! tests -/
theorem yt_test {b : Bool} (h : Y R te G (D (.bool b))) : YT R (tTest te) G b := fun H0 Hb H σ E rr s Q q => h H0 Hb H σ E rr s _ fun v Hb2 H2 g p => ⟨b, p, q Hb2 H2 g⟩
theorem yt_B {b : Bool} (h : Y R te G (D (.bool b))) : YT R (tB te) G b := fun H0 Hb H σ E rr s Q q => h H0 Hb H σ E rr s _ fun v Hb2 H2 g p => ⟨b, p, q Hb2 H2 g⟩
theorem yt_yes : YT R tYes G true := fun H0 Hb H σ E rr s Q q => q Hb H (.refl s)
theorem yt_not {a : Bool} (h : YT R t G a) : YT R (tNot t) G (!a) := fun H0 Hb H σ E rr s Q q => h H0 Hb H σ E rr s _ fun Hb2 H2 g => q Hb2 H2 g
theorem yt_and {a b : Bool} (h : YT R t G a) (k : a = true → YT R u G b) : YT R (tAnd t u) G (a && b) := fun H0 Hb H σ E rr s Q q => h H0 Hb H σ E rr s _ fun Hb2 H2 g => by
  cases a with
  | true => exact k rfl H0 Hb2 H2 σ (E.grow g) (R.st _ _ _ _ _ rr g) g.in_ Q fun Hb3 H3 g3 => q Hb3 H3 (g.trans g3)
  | false => exact q Hb2 H2 g
theorem yt_or {a b : Bool} (h : YT R t G a) (k : a = false → YT R u G b) : YT R (tOr t u) G (a || b) := fun H0 Hb H σ E rr s Q q => h H0 Hb H σ E rr s _ fun Hb2 H2 g => by
  cases a with
  | true => exact q Hb2 H2 g
  | false => exact k rfl H0 Hb2 H2 σ (E.grow g) (R.st _ _ _ _ _ rr g) g.in_ Q fun Hb3 H3 g3 => q Hb3 H3 (g.trans g3)
theorem yt_andF (h : YT R t G false) : YT R (tAnd t u) G false := fun H0 Hb H σ E rr s Q q => h H0 Hb H σ E rr s _ fun Hb2 H2 g => q Hb2 H2 g
theorem yt_orT (h : YT R t G true) : YT R (tOr t u) G true := fun H0 Hb H σ E rr s Q q => h H0 Hb H σ E rr s _ fun Hb2 H2 g => q Hb2 H2 g
theorem y_andF (h : Y R ta G (D (.bool false))) : Y R (tAndV ta tb) G (D (.bool false)) := fun H0 Hb H σ E rr s Q q => h H0 Hb H σ E rr s _ fun v Hb2 H2 g p => ⟨false, p, q _ Hb2 H2 g rfl⟩
theorem yt_is {a b : Bool} (h : YT R t G a) (e : a = b) : YT R t G b := e ▸ h
theorem y_is {d e : PyData} (h : Y R te G (D d)) (q : d = e) : Y R te G (D e) := q ▸ h
theorem y_andV {a b : Bool} (h : Y R ta G (D (.bool a))) (k : a = true → Y R tb G (D (.bool b))) : Y R (tAndV ta tb) G (D (.bool (a && b))) := fun H0 Hb H σ E rr s Q q => h H0 Hb H σ E rr s _ fun v Hb2 H2 g p => by
  refine ⟨a, p, ?_⟩
  cases a with
  | true => exact k rfl H0 Hb2 H2 σ (E.grow g) (R.st _ _ _ _ _ rr g) g.in_ Q fun v Hb3 H3 g3 p => q v Hb3 H3 (g.trans g3) p
  | false => exact q _ Hb2 H2 g rfl
theorem y_orV {a b : Bool} (h : Y R ta G (D (.bool a))) (k : a = false → Y R tb G (D (.bool b))) : Y R (tOrV ta tb) G (D (.bool (a || b))) := fun H0 Hb H σ E rr s Q q => h H0 Hb H σ E rr s _ fun v Hb2 H2 g p => by
  refine ⟨a, p, ?_⟩
  cases a with
  | true => exact q _ Hb2 H2 g rfl
  | false => exact k rfl H0 Hb2 H2 σ (E.grow g) (R.st _ _ _ _ _ rr g) g.in_ Q fun v Hb3 H3 g3 p => q v Hb3 H3 (g.trans g3) p
/-- a op b op' c, ints -/
theorem y_chain {g g' : Int → Int → Bool} {k : Int} (ha : Y R ta G (D (.int i))) (hb : Y R tb G (D (.int j))) (hc : Y R tc G (D (.int k))) : Y R (tChain (rI0 fun i j => .bl (g i j)) (rI0 fun i j => .bl (g' i j)) ta tb tc) G (D (.bool (g i j && g' j k))) := fun H0 Hb H σ E rr s Q q =>
  ha H0 Hb H σ E rr s _ fun x Hb1 H1 g1 p1 => hb H0 Hb1 H1 σ (E.grow g1) (R.st _ _ _ _ _ rr g1) g1.in_ _ fun y Hb2 H2 g2 p2 => by
    obtain rfl : x = .int i := p1
    obtain rfl : y = .int j := p2
    refine ⟨i, j, rfl, rfl, _, rfl, ?_⟩
    cases hg : g i j with
    | true =>
      refine hc H0 Hb2 H2 σ ((E.grow g1).grow g2) (R.st _ _ _ _ _ (R.st _ _ _ _ _ rr g1) g2) g2.in_ _ fun z Hb3 H3 g3 p3 => ?_
      obtain rfl : z = .int k := p3
      exact ⟨j, k, rfl, rfl, q _ Hb3 H3 (g1.trans (g2.trans g3)) (by rw [hg]; rfl)⟩
    | false => exact q _ Hb2 H2 (g1.trans g2) (by rw [hg]; rfl)
/-! arguments -/
theorem ya_nil : YA R tNil G [] := fun H0 Hb H σ E rr s Q q => q _ Hb H (.refl s) rfl
theorem ya_cons {tr : TA} {Ps : List Pr} (h : Y R ta G P) (m : Mono P) (k : YA R tr G Ps) : YA R (tCons ta tr) G (P :: Ps) := fun H0 Hb H σ E rr s Q q =>
  h H0 Hb H σ E rr s _ fun v Hb2 H2 g p => k H0 Hb2 H2 σ (E.grow g) (R.st _ _ _ _ _ rr g) g.in_ _ fun vs Hb3 H3 g3 ps => q _ Hb3 H3 (g.trans g3) ⟨v, vs, rfl, m _ _ _ g3.fz p, ps⟩
def Ds (ds : List PyData) : List Pr := ds.map D
theorem ya_consD {tr : TA} {d : PyData} {ds : List PyData} (h : Y R ta G (D d)) (k : YA R tr G (Ds ds)) : YA R (tCons ta tr) G (Ds (d :: ds)) := ya_cons h (mono_D _) k
theorem ya_nilD : YA R tNil G (Ds []) := ya_nil
theorem args_all {H : Hp} : ∀ {ds : List PyData} {vs : List V}, ArgsP H (Ds ds) vs → DvAll H ds vs
  | [], _, h => h
  | d :: ds, _, ⟨v, r, e, h, q⟩ => ⟨v, r, e, h, args_all (ds := ds) q⟩
theorem y_tup {t : TA} {ds : List PyData} (h : YA R t G (Ds ds)) (hl : ds.length ≤ 100000) : Y R (tTup t) G (D (.tuple ds)) := fun H0 Hb H σ E rr s Q q =>
  h H0 Hb H σ E rr s _ fun vs Hb2 H2 g a => ⟨by rw [(args_all a).length]; exact Nat.le_trans hl (by decide), fun p hp =>
    q _ _ _ (g.trans (.new g.in_ hp)) ⟨p, vs, rfl, upd_same, DvAll.mono (same_upd (g.in_.free hp)) _ _ (args_all a)⟩⟩
theorem y_lst {t : TA} {ds : List PyData} (h : YA R t G (Ds ds)) (hl : ds.length ≤ 100000) : Y R (tLst t) G (D (.list ds)) := fun H0 Hb H σ E rr s Q q =>
  h H0 Hb H σ E rr s _ fun vs Hb2 H2 g a => ⟨by rw [(args_all a).length]; exact Nat.le_trans hl (by decide), fun p hp =>
    q _ _ _ (g.trans (.new g.in_ hp)) ⟨p, vs, rfl, upd_same, DvAll.mono (same_upd (g.in_.free hp)) _ _ (args_all a)⟩⟩
theorem y_cat {ds es : List PyData} (ha : Y R ta G (D (.list ds))) (hb : Y R tb G (D (.list es))) (hl : ds.length + es.length ≤ 100000) : Y R (tOp rCat ta tb) G (D (.list (ds ++ es))) := y_op ha (mono_D _) hb fun x y Hb H p1 p2 s Q q => by
  obtain ⟨a, vs, rfl, h1, r1⟩ := p1
  obtain ⟨b, us, rfl, h2, r2⟩ := p2
  refine ⟨a, b, vs, us, rfl, rfl, s _ _ h1, s _ _ h2, by rw [r1.length, r2.length]; exact Nat.le_trans hl (by decide), fun p hp => ?_⟩
  exact q _ _ _ (.new s hp) ⟨p, _, rfl, upd_same, DvAll.mono (same_upd (s.free hp)) _ _ (r1.app r2)⟩
/-- a list of one's own + a list -/
theorem y_catOwn {ds es : List PyData} {n : Nat} (ha : G[n]? = some (.own ds)) (hb : Y R tb G (D (.list es))) (hl : ds.length + es.length ≤ 100000) : Y R (tOp rCat (tVar n) tb) G (D (.list (ds ++ es))) := fun H0 Hb H σ E rr s Q q => by
  obtain ⟨l, vs, e1, e2, e3, e4, e5⟩ := E.ent _ _ ha
  refine ⟨_, e1, hb H0 Hb H σ E rr s _ fun y Hb2 H2 g2 p2 => ?_⟩
  obtain ⟨b, us, rfl, h2, r2⟩ := p2
  have r1 := DvAll.mono g2.fz _ _ e5
  refine ⟨l, b, vs, us, rfl, rfl, g2.al _ _ e2, g2.in_ _ _ h2, by rw [r1.length, r2.length]; exact Nat.le_trans hl (by decide), fun p hp => ?_⟩
  exact q _ _ _ (g2.trans (.new g2.in_ hp)) ⟨p, _, rfl, upd_same, DvAll.mono (same_upd (g2.in_.free hp)) _ _ (r1.app r2)⟩
/-! built-in calls -/
def rLen (K : PySem.W.Frag) : List V → Hp → VK → Prop := fun xs H Q => ∃ p ys, xs = [.ref p] ∧ (SqL K H p ys ∨ SqT K H p ys) ∧ Q (.int ys.length) H
def rListOf (K : PySem.W.Frag) : List V → Hp → VK → Prop := fun xs H Q => ∃ p ys, xs = [.ref p] ∧ (SqL K H p ys ∨ SqT K H p ys) ∧ ∀ l, H l = none → Q (.ref l) (upd H l (.lst ys))
theorem y_lenL {ds : List PyData} (ha : Y R ta G (D (.list ds))) : Y R (tCB (rLen K) (tCons ta tNil)) G (D (.int ds.length)) := fun H0 Hb H σ E rr s Q q =>
  ha H0 Hb H σ E rr s _ fun v Hb2 H2 g p => by
    obtain ⟨a, vs, rfl, h1, r1⟩ := p
    exact ⟨a, vs, rfl, .inl (.inl (.inl (g.in_ _ _ h1))), q _ Hb2 H2 g (by rw [r1.length]; rfl)⟩
theorem y_lenT {ds : List PyData} (ha : Y R ta G (D (.tuple ds))) : Y R (tCB (rLen K) (tCons ta tNil)) G (D (.int ds.length)) := fun H0 Hb H σ E rr s Q q =>
  ha H0 Hb H σ E rr s _ fun v Hb2 H2 g p => by
    obtain ⟨a, vs, rfl, h1, r1⟩ := p
    exact ⟨a, vs, rfl, .inr (.inl (.inl (g.in_ _ _ h1))), q _ Hb2 H2 g (by rw [r1.length]; rfl)⟩
theorem y_lenSc {ns : List Int} (ha : Y R ta G (Sc K ns)) : Y R (tCB (rLen K) (tCons ta tNil)) G (D (.int ns.length)) := fun H0 Hb H σ E rr s Q q =>
  ha H0 Hb H σ E rr s _ fun v Hb2 H2 g p => by
    obtain ⟨a, rfl, h1⟩ := p
    exact ⟨a, _, rfl, .inl (Same.seq g.in_ h1), q _ Hb2 H2 g (by rw [List.length_map]; rfl)⟩
theorem y_lenOwn {ds : List PyData} {n : Nat} (ha : G[n]? = some (.own ds)) : Y R (tCB (rLen K) (tCons (tVar n) tNil)) G (D (.int ds.length)) := fun H0 Hb H σ E rr s Q q => by
  obtain ⟨l, vs, e1, e2, e3, e4, e5⟩ := E.ent _ _ ha
  exact ⟨_, e1, l, vs, rfl, .inl (.inl (.inl e2)), q _ Hb H (.refl s) (by rw [e5.length]; rfl)⟩
theorem y_listOf {ds : List PyData} (ha : Y R ta G (D (.list ds))) : Y R (tCB (rListOf K) (tCons ta tNil)) G (D (.list ds)) := fun H0 Hb H σ E rr s Q q =>
  ha H0 Hb H σ E rr s _ fun v Hb2 H2 g p => by
    obtain ⟨a, vs, rfl, h1, r1⟩ := p
    exact ⟨a, vs, rfl, .inl (.inl (.inl (g.in_ _ _ h1))), fun l hl => q _ _ _ (g.trans (.new g.in_ hl)) ⟨l, vs, rfl, upd_same, DvAll.mono (same_upd (g.in_.free hl)) _ _ r1⟩⟩
@[reducible] def lenD : PyData → Nat
  | .list ds => ds.length
  | .tuple ds => ds.length
  | _ => 0
@[reducible] def seqD : PyData → Bool
  | .list _ => true
  | .tuple _ => true
  | _ => false
theorem y_len {d : PyData} (ha : Y R ta G (D d)) (h : seqD d = true) : Y R (tCB (rLen K) (tCons ta tNil)) G (D (.int (lenD d : Nat))) := by
  cases d <;> first | exact y_lenL ha | exact y_lenT ha | (exfalso; cases h)
def rMax2 : List V → Hp → VK → Prop := fun xs H Q => ∃ i j, xs = [.int i, .int j] ∧ Q (.int (if j > i then j else i)) H
def rMin2 : List V → Hp → VK → Prop := fun xs H Q => ∃ i j, xs = [.int i, .int j] ∧ Q (.int (if j < i then j else i)) H
theorem y_max2 (h : YA R (tCons ta (tCons tb tNil)) G (Ds [.int i, .int j])) : Y R (tCB rMax2 (tCons ta (tCons tb tNil))) G (D (.int (max i j))) := fun H0 Hb H σ E rr s Q q =>
  h H0 Hb H σ E rr s _ fun vs Hb2 H2 g a => by
    obtain ⟨v, r, rfl, h1, v2, r2, rfl, h2, rfl⟩ := args_all a
    obtain rfl : v = .int i := h1
    obtain rfl : v2 = .int j := h2
    exact ⟨i, j, rfl, q _ Hb2 H2 g (by show V.int _ = V.int _; congr 1; split <;> omega)⟩
theorem y_min2 (h : YA R (tCons ta (tCons tb tNil)) G (Ds [.int i, .int j])) : Y R (tCB rMin2 (tCons ta (tCons tb tNil))) G (D (.int (min i j))) := fun H0 Hb H σ E rr s Q q =>
  h H0 Hb H σ E rr s _ fun vs Hb2 H2 g a => by
    obtain ⟨v, r, rfl, h1, v2, r2, rfl, h2, rfl⟩ := args_all a
    obtain rfl : v = .int i := h1
    obtain rfl : v2 = .int j := h2
    exact ⟨i, j, rfl, q _ Hb2 H2 g (by show V.int _ = V.int _; congr 1; split <;> omega)⟩
theorem y_sum {ns : List Int} (ha : Y R ta G (D (.list (ns.map .int)))) : Y R (tCB (rSum K) (tCons ta tNil)) G (D (.int ns.sum)) := fun H0 Hb H σ E rr s Q q =>
  ha H0 Hb H σ E rr s _ fun v Hb2 H2 g p => by
    obtain ⟨a, vs, rfl, h1, r1⟩ := p
    rw [DvAll.ints.mp r1] at h1
    exact ⟨a, ns, rfl, .inl (.inl (g.in_ _ _ h1)), q _ Hb2 H2 g rfl⟩
theorem y_any {bs : List Bool} (ha : Y R ta G (D (.list (bs.map .bool)))) : Y R (tCB (rAny K) (tCons ta tNil)) G (D (.bool (bs.any id))) := fun H0 Hb H σ E rr s Q q =>
  ha H0 Hb H σ E rr s _ fun v Hb2 H2 g p => by
    obtain ⟨a, vs, rfl, h1, r1⟩ := p
    rw [DvAll.bools.mp r1] at h1
    exact ⟨a, bs, rfl, .inl (.inl (g.in_ _ _ h1)), q _ Hb2 H2 g rfl⟩
theorem y_sortedI {ns ms : List Int} (ha : Y R ta G (D (.list (ns.map .int)))) (hm : ∀ l : List Int, l.Perm ns → l.Pairwise (· ≤ ·) → l = ms) : Y R (tCB (rSortedI K) (tCons ta tNil)) G (D (.list (ms.map .int))) := fun H0 Hb H σ E rr s Q q =>
  ha H0 Hb H σ E rr s _ fun v Hb2 H2 g p => by
    obtain ⟨a, vs, rfl, h1, r1⟩ := p
    rw [DvAll.ints.mp r1] at h1
    refine ⟨a, ns, rfl, .inl (.inl (g.in_ _ _ h1)), fun l p hp hs hn => ?_⟩
    rw [hm l hp hs]
    exact q _ _ _ (g.trans (.new g.in_ hn)) ⟨p, _, rfl, upd_same, DvAll.ints.mpr rfl⟩
def rInt1 : List V → Hp → VK → Prop := fun xs H Q => (∃ i, xs = [.int i] ∧ Q (.int i) H) ∨ ∃ k, xs = [.bl k] ∧ Q (.int (if k then 1 else 0)) H
theorem y_intB {b : Bool} (ha : Y R ta G (D (.bool b))) : Y R (tCB rInt1 (tCons ta tNil)) G (D (.int (if b then 1 else 0))) := fun H0 Hb H σ E rr s Q q =>
  ha H0 Hb H σ E rr s _ fun v Hb2 H2 g p => by
    obtain rfl : v = .bl b := p
    exact .inr ⟨b, rfl, q _ Hb2 H2 g rfl⟩
/-! slices -/
def YO (R : Res) (to : TO) (G : Ctx) (o : Option Int) : Prop := ∀ H0 Hb H σ, EvG H0 G Hb H σ → R.p H0 Hb H → Same Hb H → ∀ Q : Option Int → Hp → Prop, (∀ Hb2 H2, Grow Hb H Hb2 H2 → Q o H2) → to σ H Q
theorem yo_none : YO R tNoPart G none := fun H0 Hb H σ E rr s Q q => q Hb H (.refl s)
theorem yo_some (h : Y R te G (D (.int i))) : YO R (tPart te) G (some i) := fun H0 Hb H σ E rr s Q q => h H0 Hb H σ E rr s _ fun v Hb2 H2 g p => ⟨i, p, q Hb2 H2 g⟩
theorem y_slSc {ns : List Int} {tl th : TO} {lo hi : Option Int} (ha : Y R ta G (Sc K ns)) (hl : YO R tl G lo) (hh : YO R th G hi) : Y R (tSl (rSlL K) ta tl th) G (D (.list (((ns.drop (HT.sIx ns.length 0 lo)).take (HT.sIx ns.length ns.length hi - HT.sIx ns.length 0 lo)).map .int))) := fun H0 Hb H σ E rr s Q q =>
  ha H0 Hb H σ E rr s _ fun v Hb1 H1 g1 p1 => hl H0 Hb1 H1 σ (E.grow g1) (R.st _ _ _ _ _ rr g1) g1.in_ _ fun Hb2 H2 g2 => hh H0 Hb2 H2 σ ((E.grow g1).grow g2) (R.st _ _ _ _ _ (R.st _ _ _ _ _ rr g1) g2) g2.in_ _ fun Hb3 H3 g3 => by
    obtain ⟨a, rfl, h1⟩ := p1
    refine ⟨a, _, rfl, Same.seq ((g1.in_.trans g2.al).trans g3.al) h1, fun p hp => ?_⟩
    have e : cutV (ns.map V.int) lo hi = ((ns.drop (HT.sIx ns.length 0 lo)).take (HT.sIx ns.length ns.length hi - HT.sIx ns.length 0 lo)).map V.int := by
      unfold cutV
      rw [List.length_map, List.map_take, List.map_drop]
    rw [e]
    exact q _ _ _ ((g1.trans (g2.trans g3)).trans (.new g3.in_ hp)) ⟨p, _, rfl, upd_same, DvAll.ints.mpr rfl⟩
/-! == of data -/
theorem y_eqD {d e : PyData} (ha : Y R ta G (D d)) (hb : Y R tb G (D e)) (n1 : NoD d = true) (n2 : NoD e = true) (s1 : SeqAt.shaped d = true) (s2 : SeqAt.shaped e = true) : Y R (tOp (rEqD K) ta tb) G (D (.bool (PyData.eqv d e))) := y_op ha (mono_D _) hb fun x y Hb H p1 p2 s Q q =>
  ⟨d, e, Dv.dp d x n1 (Dv.mono s d x p1), Dv.dp e y n2 (Dv.mono s e y p2), s1, s2, q _ Hb H (.refl s) rfl⟩
theorem y_neD {d e : PyData} (ha : Y R ta G (D d)) (hb : Y R tb G (D e)) (n1 : NoD d = true) (n2 : NoD e = true) (s1 : SeqAt.shaped d = true) (s2 : SeqAt.shaped e = true) : Y R (tOp (rNeD K) ta tb) G (D (.bool (!PyData.eqv d e))) := y_op ha (mono_D _) hb fun x y Hb H p1 p2 s Q q =>
  ⟨d, e, Dv.dp d x n1 (Dv.mono s d x p1), Dv.dp e y n2 (Dv.mono s e y p2), s1, s2, q _ Hb H (.refl s) rfl⟩
end
end MW

/-! MC -/
set_option Elab.async false
set_option linter.all false
set_option maxRecDepth 100000
set_option maxHeartbeats 4000000
namespace MW
open PySem PySem.Spec L2
/-! ### statements of defs that change nothing that stood -/
def Cur (Hb0 H0 : Hp) (G : Ctx) (σ : L2.St) (H : Hp) : Prop := ∃ Hb, Grow Hb0 H0 Hb H ∧ EvG H0 G Hb H σ
theorem EvG.putOwn {H0 Hb H : Hp} {G : Ctx} {σ : L2.St} {i : Nat} {l : Addr} {e : Ent} (E : EvG H0 G Hb H σ) (hm : e.mine = true) (hn : ∀ j f k, G[j]? = some f → f.mine = true → j ≠ i → σ[j]? = some (some (.ref k)) → k ≠ l)
    (h : EntOk H0 Hb H (some (some (.ref l))) e) : EvG H0 (G.set i e) Hb H (σ.set i (some (.ref l))) := by
  refine ⟨by simp [E.len], fun j f q => ?_, fun j k f f' l' q1 q2 m1 m2 s1 s2 => ?_⟩
  · by_cases hj : i = j
    · subst hj
      rw [List.getElem?_set_self'] at q
      cases hq : G[i]? with
      | none => rw [hq] at q; cases q
      | some e0 =>
        rw [hq] at q
        cases q
        have hi : i < σ.length := by rw [E.len]; exact (List.getElem?_eq_some_iff.mp hq).1
        rw [List.getElem?_set_self hi]
        exact h
    · rw [List.getElem?_set_ne hj] at q ⊢
      exact E.ent j f q
  · by_cases hj : i = j
    · by_cases hk : i = k
      · rw [← hj, ← hk]
      · exfalso
        rw [List.getElem?_set_ne hk] at q2 s2
        subst hj
        have hi : i < σ.length := by
          rcases Nat.lt_or_ge i σ.length with z | z
          · exact z
          · rw [List.getElem?_eq_none (by simpa using z)] at s1; cases s1
        rw [List.getElem?_set_self hi] at s1
        have e1 : l = l' := V.ref.inj (Option.some.inj (Option.some.inj s1))
        exact hn k f' l' q2 m2 (fun z => hk z.symm) s2 e1.symm
    · rw [List.getElem?_set_ne hj] at q1 s1
      by_cases hk : i = k
      · exfalso
        subst hk
        have hi : i < σ.length := by
          rcases Nat.lt_or_ge i σ.length with z | z
          · exact z
          · rw [List.getElem?_eq_none (by simpa using z)] at s2; cases s2
        rw [List.getElem?_set_self hi] at s2
        have e1 : l = l' := V.ref.inj (Option.some.inj (Option.some.inj s2))
        exact hn j f l' q1 m1 (fun z => hj z.symm) s1 e1.symm
      · rw [List.getElem?_set_ne hk] at q2 s2
        exact E.dis j k f f' l' q1 q2 m1 m2 s1 s2
/-- what a list of one's own stands at -/
theorem EvG.mineAt {H0 Hb H : Hp} {G : Ctx} {σ : L2.St} (E : EvG H0 G Hb H σ) {j : Nat} {f : Ent} {k : Addr} (q : G[j]? = some f) (m : f.mine = true) (s : σ[j]? = some (some (.ref k))) : H k ≠ none ∧ Hb k = none ∧ H0 k = none := by
  have z := E.ent j f q
  cases f with
  | no => cases m
  | p P => cases m
  | own ds =>
    obtain ⟨l, vs, e1, e2, e3, e4, _⟩ := z
    rw [s] at e1
    cases e1
    exact ⟨by rw [e2]; simp, e3, e4⟩
  | ownD ds =>
    obtain ⟨l, vs, e1, e2, e3, e4, _⟩ := z
    rw [s] at e1
    cases e1
    exact ⟨by rw [e2]; simp, e3, e4⟩
/-- an own object changes: all else stays -/
theorem EvG.change {H0 Hb H : Hp} {G : Ctx} {σ : L2.St} (E : EvG H0 G Hb H σ) {i : Nat} {l : Addr} {e0 e : Ent} {o : HO} (q : G[i]? = some e0) (m : e0.mine = true) (s : σ[i]? = some (some (.ref l))) (hm : e.mine = true) (h : EntOk H0 Hb (upd H l o) (some (some (.ref l))) e) :
    EvG H0 (G.set i e) Hb (upd H l o) σ := by
  have hb : Hb l = none := (E.mineAt q m s).2.1
  refine ⟨by simp [E.len], fun j f q1 => ?_, fun j k f f' l' q1 q2 m1 m2 s1 s2 => ?_⟩
  · by_cases hj : i = j
    · subst hj
      rw [List.getElem?_set_self', q] at q1
      cases q1
      rw [s]
      exact h
    · rw [List.getElem?_set_ne hj] at q1
      have z := E.ent j f q1
      cases f with
      | no => trivial
      | p P => exact z
      | own ds =>
        obtain ⟨l', vs, e1, e2, e3, e4, e5⟩ := z
        refine ⟨l', vs, e1, ?_, e3, e4, e5⟩
        rw [upd_ne]
        · exact e2
        · rintro rfl
          exact hj (E.dis i j _ _ _ q q1 m rfl s e1)
      | ownD ds =>
        obtain ⟨l', vs, e1, e2, e3, e4, e5⟩ := z
        refine ⟨l', vs, e1, ?_, e3, e4, e5⟩
        rw [upd_ne]
        · exact e2
        · rintro rfl
          exact hj (E.dis i j _ _ _ q q1 m rfl s e1)
  · have key : ∀ a (g : Ent), (G.set i e)[a]? = some g → g.mine = true → ∃ g' : Ent, G[a]? = some g' ∧ g'.mine = true := fun a g h1 h2 => by
      by_cases ha : i = a
      · subst ha; exact ⟨e0, q, m⟩
      · rw [List.getElem?_set_ne ha] at h1; exact ⟨g, h1, h2⟩
    obtain ⟨f1, w1, w2⟩ := key j f q1 m1
    obtain ⟨f2, w3, w4⟩ := key k f' q2 m2
    exact E.dis j k f1 f2 l' w1 w3 w2 w4 s1 s2
/-- an own object is frozen -/
theorem EvG.freeze {H0 Hb H : Hp} {G : Ctx} {σ : L2.St} (E : EvG H0 G Hb H σ) {i : Nat} {l : Addr} {e0 : Ent} {o : HO} {P : Pr} (q : G[i]? = some e0) (m : e0.mine = true) (s : σ[i]? = some (some (.ref l))) (hl : H l = some o) (hm : Mono P) (h : P (upd Hb l o) (.ref l)) :
    EvG H0 (G.set i (.p P)) (upd Hb l o) H σ := by
  have hb : Hb l = none := (E.mineAt q m s).2.1
  have sm : Same Hb (upd Hb l o) := same_upd hb
  refine ⟨by simp [E.len], fun j f q1 => ?_, fun j k f f' l' q1 q2 m1 m2 s1 s2 => ?_⟩
  · by_cases hj : i = j
    · subst hj
      rw [List.getElem?_set_self', q] at q1
      cases q1
      exact ⟨hm, _, s, h⟩
    · rw [List.getElem?_set_ne hj] at q1
      have z := E.ent j f q1
      cases f with
      | no => trivial
      | p P => obtain ⟨m1, v, e1, e2⟩ := z; exact ⟨m1, v, e1, m1 _ _ _ sm e2⟩
      | own ds =>
        obtain ⟨l', vs, e1, e2, e3, e4, e5⟩ := z
        refine ⟨l', vs, e1, e2, ?_, e4, DvAll.mono sm _ _ e5⟩
        rw [upd_ne]
        · exact e3
        · rintro rfl
          exact hj (E.dis i j _ _ _ q q1 m rfl s e1)
      | ownD ds =>
        obtain ⟨l', vs, e1, e2, e3, e4, e5⟩ := z
        refine ⟨l', vs, e1, e2, ?_, e4, DvKv.mono sm _ _ e5⟩
        rw [upd_ne]
        · exact e3
        · rintro rfl
          exact hj (E.dis i j _ _ _ q q1 m rfl s e1)
  · have nj : i ≠ j := by
      rintro rfl
      rw [List.getElem?_set_self', q] at q1
      cases q1; cases m1
    have nk : i ≠ k := by
      rintro rfl
      rw [List.getElem?_set_self', q] at q2
      cases q2; cases m2
    rw [List.getElem?_set_ne nj] at q1
    rw [List.getElem?_set_ne nk] at q2
    exact E.dis j k f f' l' q1 q2 m1 m2 s1 s2
section
variable {K : PySem.W.Frag} {Hb0 H0 H : Hp} {G : Ctx} {σ : L2.St} {De : Ends} {te tl : TE} {P : Pr} {tu tw tz : TS} {tc : TT}
theorem Cur.weak {G' : Ctx} (c : Cur Hb0 H0 G σ H) (hl : G'.length = G.length) (h : ∀ (i : Nat) (e : Ent), G'[i]? = some e → e = .no ∨ G[i]? = some e) : Cur Hb0 H0 G' σ H :=
  let ⟨Hb, g, E⟩ := c
  ⟨Hb, g, E.weak hl h⟩
theorem Cur.freeze {n : Nat} {ds : List PyData} (c : Cur Hb0 H0 G σ H) (h : G[n]? = some (.own ds)) : Cur Hb0 H0 (G.set n (.p (D (.list ds)))) σ H := by
  obtain ⟨Hb, g, E⟩ := c
  obtain ⟨l, vs, e1, e2, e3, e4, e5⟩ := E.ent _ _ h
  exact ⟨_, g.freeze e3 e4 e2, E.freeze h rfl e1 e2 (mono_D _) ⟨l, vs, rfl, upd_same, DvAll.mono (same_upd e3) _ _ e5⟩⟩
theorem Cur.freezeD {n : Nat} {ds : List (PyData × PyData)} (c : Cur Hb0 H0 G σ H) (h : G[n]? = some (.ownD ds)) : Cur Hb0 H0 (G.set n (.p (D (.dict ds)))) σ H := by
  obtain ⟨Hb, g, E⟩ := c
  obtain ⟨l, vs, e1, e2, e3, e4, e5⟩ := E.ent _ _ h
  exact ⟨_, g.freeze e3 e4 e2, E.freeze h rfl e1 e2 (mono_D _) ⟨l, vs, rfl, upd_same, DvKv.mono (same_upd e3) _ _ e5⟩⟩
theorem z_seq (h : tu { De with nx := tz De } σ H) : tSeq tu tz De σ H := h
theorem z_asg {i : Nat} (c : Cur Hb0 H0 G σ H) (hy : Y R0 te G P) (m : Mono P) (k : ∀ σ' H', Cur Hb0 H0 (G.set i (.p P)) σ' H' → De.nx σ' H') : tAsg te (gName i) De σ H := by
  obtain ⟨Hb, g, E⟩ := c
  exact hy H0 Hb H σ E trivial g.in_ _ fun v Hb2 H2 g2 p => k _ _ ⟨Hb2, g.trans g2, (E.grow g2).put m p⟩
theorem z_asgD {i : Nat} {d : PyData} (c : Cur Hb0 H0 G σ H) (hy : Y R0 te G (D d)) (k : ∀ σ' H', Cur Hb0 H0 (G.set i (.p (D d))) σ' H' → De.nx σ' H') : tAsg te (gName i) De σ H := z_asg c hy (mono_D _) k
theorem z_ret (c : Cur Hb0 H0 G σ H) (hy : Y R0 te G P) (k : ∀ v Hb2 H2, Grow Hb0 H0 Hb2 H2 → P Hb2 v → De.rt v H2) : tRet te De σ H := by
  obtain ⟨Hb, g, E⟩ := c
  exact hy H0 Hb H σ E trivial g.in_ _ fun v Hb2 H2 g2 p => k _ _ _ (g.trans g2) p
theorem z_if {b : Bool} (c : Cur Hb0 H0 G σ H) (hy : YT R0 tc G b) (k1 : b = true → ∀ H', Cur Hb0 H0 G σ H' → tu De σ H') (k2 : b = false → ∀ H', Cur Hb0 H0 G σ H' → tw De σ H') : tIfS tc tu tw De σ H := by
  obtain ⟨Hb, g, E⟩ := c
  refine hy H0 Hb H σ E trivial g.in_ _ fun Hb2 H2 g2 => ?_
  cases b with
  | true => exact k1 rfl H2 ⟨Hb2, g.trans g2, E.grow g2⟩
  | false => exact k2 rfl H2 ⟨Hb2, g.trans g2, E.grow g2⟩
/-- an if whose test is false, without an else -/
theorem z_skip (c : Cur Hb0 H0 G σ H) (hy : YT R0 tc G false) (k : ∀ H', Cur Hb0 H0 G σ H' → De.nx σ H') : tIfS tc tu tNext De σ H := z_if c hy (fun h => nomatch h) fun _ => k
theorem z_no (c : Cur Hb0 H0 G σ H) (hy : YT R0 tc G false) (k : ∀ H', Cur Hb0 H0 G σ H' → tz De σ H') : tSeq (tIfS tc tu tNext) tz De σ H := z_if (De := { De with nx := tz De }) c hy (fun h => nomatch h) fun _ => k
theorem z_when {b : Bool} (c : Cur Hb0 H0 G σ H) (hy : YT R0 tc G b) (k1 : b = true → ∀ H', Cur Hb0 H0 G σ H' → tu { De with nx := tz De } σ H') (k2 : b = false → ∀ H', Cur Hb0 H0 G σ H' → tz De σ H') : tSeq (tIfS tc tu tNext) tz De σ H := z_if (De := { De with nx := tz De }) c hy k1 k2
theorem z_when1 {b : Bool} (c : Cur Hb0 H0 G σ H) (hy : YT R0 tc G b) (k1 : b = true → ∀ H', Cur Hb0 H0 G σ H' → tu De σ H') (k2 : b = false → ∀ H', Cur Hb0 H0 G σ H' → De.nx σ H') : tIfS tc tu tNext De σ H := z_if c hy k1 k2
theorem z_yes (c : Cur Hb0 H0 G σ H) (hy : YT R0 tc G true) (k : ∀ H', Cur Hb0 H0 G σ H' → tu { De with nx := tz De } σ H') : tSeq (tIfS tc tu tw) tz De σ H := z_if (De := { De with nx := tz De }) c hy (fun _ => k) fun h => nomatch h
theorem z_else (c : Cur Hb0 H0 G σ H) (hy : YT R0 tc G false) (k : ∀ H', Cur Hb0 H0 G σ H' → tw { De with nx := tz De } σ H') : tSeq (tIfS tc tu tw) tz De σ H := z_if (De := { De with nx := tz De }) c hy (fun h => nomatch h) fun _ => k
theorem z_yes1 (c : Cur Hb0 H0 G σ H) (hy : YT R0 tc G true) (k : ∀ H', Cur Hb0 H0 G σ H' → tu De σ H') : tIfS tc tu tw De σ H := z_if c hy (fun _ => k) fun h => nomatch h
theorem z_else1 (c : Cur Hb0 H0 G σ H) (hy : YT R0 tc G false) (k : ∀ H', Cur Hb0 H0 G σ H' → tw De σ H') : tIfS tc tu tw De σ H := z_if c hy (fun h => nomatch h) fun _ => k
theorem q_asgD {i : Nat} {d : PyData} (c : Cur Hb0 H0 G σ H) (hy : Y R0 te G (D d)) (k : ∀ σ' H', Cur Hb0 H0 (G.set i (.p (D d))) σ' H' → tz De σ' H') : tSeq (tAsg te (gName i)) tz De σ H := z_asg (De := { De with nx := tz De }) c hy (mono_D _) k
theorem q_asg {i : Nat} (c : Cur Hb0 H0 G σ H) (hy : Y R0 te G P) (m : Mono P) (k : ∀ σ' H', Cur Hb0 H0 (G.set i (.p P)) σ' H' → tz De σ' H') : tSeq (tAsg te (gName i)) tz De σ H := z_asg (De := { De with nx := tz De }) c hy m k
theorem z_drop (c : Cur Hb0 H0 G σ H) (hy : Y R0 te G P) (k : ∀ H', Cur Hb0 H0 G σ H' → De.nx σ H') : tDrop te De σ H := by
  obtain ⟨Hb, g, E⟩ := c
  exact hy H0 Hb H σ E trivial g.in_ _ fun v Hb2 H2 g2 p => k _ ⟨Hb2, g.trans g2, E.grow g2⟩
/-- x = [] -/
theorem z_new {i : Nat} (c : Cur Hb0 H0 G σ H) (k : ∀ σ' H', Cur Hb0 H0 (G.set i (.own [])) σ' H' → De.nx σ' H') : tAsg (tLst tNil) (gName i) De σ H := by
  obtain ⟨Hb, g, E⟩ := c
  refine ⟨by decide, fun p hp => k _ _ ⟨Hb, g.trans (.own g.in_ hp), ?_⟩⟩
  refine (E.grow (.own g.in_ hp)).putOwn rfl (fun j f k q m _ s => ?_) ⟨p, [], rfl, upd_same, g.in_.free hp, g.al.free hp, rfl⟩
  rintro rfl
  exact (E.mineAt q m s).1 hp
theorem q_new {i : Nat} (c : Cur Hb0 H0 G σ H) (k : ∀ σ' H', Cur Hb0 H0 (G.set i (.own [])) σ' H' → tz De σ' H') : tSeq (tAsg (tLst tNil) (gName i)) tz De σ H := z_new (De := { De with nx := tz De }) c k
/-- x.append(e) -/
theorem z_app {n : Nat} {ds : List PyData} {d : PyData} (c : Cur Hb0 H0 G σ H) (h : G[n]? = some (.own ds)) (hy : Y R0 te G (D d)) (hl : ds.length < 10000000) (k : ∀ σ' H', Cur Hb0 H0 (G.set n (.own (ds ++ [d]))) σ' H' → De.nx σ' H') :
    tDrop (tBM K "list" rAppend (tVar n) (tCons te tNil)) De σ H := by
  obtain ⟨Hb, g, E⟩ := c
  obtain ⟨l, vs, e1, e2, e3, e4, e5⟩ := E.ent _ _ h
  refine ⟨_, e1, .inl ⟨rfl, _, .inl (.inl e2)⟩, hy H0 Hb H σ E trivial g.in_ _ fun v Hb2 H2 g2 p => ?_⟩
  have E2 := E.grow g2
  obtain ⟨l', vs', z1, z2, z3, z4, z5⟩ := E2.ent _ _ h
  rw [e1] at z1
  cases z1
  rw [g2.al _ _ e2] at z2
  cases z2
  refine ⟨l, vs, v, rfl, rfl, g2.al _ _ e2, by rw [e5.length]; exact Nat.lt_of_lt_of_le hl (by decide), ?_⟩
  exact k _ _ ⟨Hb2, (g.trans g2).mut z3 e4, E2.change h rfl e1 rfl ⟨l, _, rfl, upd_same, z3, e4, z5.app (.one p)⟩⟩
theorem q_app {n : Nat} {ds : List PyData} {d : PyData} (c : Cur Hb0 H0 G σ H) (h : G[n]? = some (.own ds)) (hy : Y R0 te G (D d)) (hl : ds.length < 10000000) (k : ∀ σ' H', Cur Hb0 H0 (G.set n (.own (ds ++ [d]))) σ' H' → tz De σ' H') :
    tSeq (tDrop (tBM K "list" rAppend (tVar n) (tCons te tNil))) tz De σ H := z_app (De := { De with nx := tz De }) c h hy hl k
/-! targets -/
def YG (g : TG) (vs : List Nat) (G : Ctx) (d : PyData) (G' : Ctx) : Prop := ∀ H0 Hb H σ v, EvG H0 G Hb H σ → Same Hb H → Dv Hb d v → ∀ Q : L2.St → Hp → Prop, (∀ σ', EvG H0 G' Hb H σ' → wipe σ' vs = wipe σ vs → Q σ' H) → g v σ H Q
theorem yg_name {j : Nat} {d : PyData} : YG (gName j) [j] G d (G.set j (.p (D d))) := fun H0 Hb H σ v E s h Q q => q _ (E.put (mono_D d) h) (by simp [wipe])
theorem yg_two {i j : Nat} {d e : PyData} (hij : i ≠ j) : YG (gTup K 2 (gCons (gName i) (gCons (gName j) gNil))) [i, j] G (.tuple [d, e]) ((G.set i (.p (D d))).set j (.p (D e))) := fun H0 Hb H σ v E s h Q q => by
  obtain ⟨a, vs, rfl, h1, v1, r1, rfl, h2, v2, r2, rfl, h3, rfl⟩ := h
  refine ⟨a, _, rfl, .inl (.inl (s _ _ h1)), rfl, v1, [v2], rfl, v2, [], rfl, rfl, q _ ((E.put (mono_D d) h2).put (mono_D e) h3) ?_⟩
  show (((σ.set i (some v1)).set j (some v2)).set j none).set i none = (σ.set j none).set i none
  rw [List.set_set, List.set_comm _ _ (Ne.symm hij), List.set_set]
  exact List.set_comm _ _ hij ▸ rfl
theorem wipe_idem (σ : L2.St) (vs : List Nat) : wipe (wipe σ vs) vs = wipe σ vs := by
  have key : ∀ (vs ws : List Nat) (σ : L2.St), (∀ i ∈ vs, i ∈ ws) → wipe (wipe σ ws) vs = wipe σ ws := by
    intro vs
    induction vs with
    | nil => intro ws σ _; rfl
    | cons v vs ih =>
      intro ws σ h
      show (wipe (wipe σ ws) vs).set v none = wipe σ ws
      rw [ih ws σ fun i hi => h i (List.mem_cons_of_mem _ hi)]
      have hv := h v List.mem_cons_self
      clear ih h
      induction ws generalizing σ with
      | nil => cases hv
      | cons w ws ih2 =>
        show ((wipe σ ws).set w none).set v none = (wipe σ ws).set w none
        by_cases e : v = w
        · subst e; rw [List.set_set]
        · rw [List.set_comm _ _ (Ne.symm e), ih2 σ (by rcases List.mem_cons.mp hv with z | z; exact absurd z e; exact z)]
  exact key vs vs σ fun _ h => h
/-! loops -/
theorem cur_base {Hb1 H1 Hb2 H2 : Hp} (g : Grow Hb0 H0 Hb1 H1) (h : Grow Hb1 H0 Hb2 H2) : Grow Hb0 H0 Hb2 H2 := ⟨g.fz.trans h.fz, h.al, h.in_, fun a n q => by
  by_cases e : Hb1 a = none
  · exact h.nw a e q
  · exact g.nw a n e⟩
theorem Grow.rebase {Hb1 H1 : Hp} (g : Grow Hb0 H0 Hb1 H1) : Grow Hb1 H0 Hb1 H1 := ⟨Same.refl _, g.al, g.in_, fun a n q => absurd n q⟩
theorem Cur.out {Hb1 H1 : Hp} (g : Grow Hb0 H0 Hb1 H1) (c : Cur Hb1 H0 G σ H) : Cur Hb0 H0 G σ H := let ⟨Hb, g2, E⟩ := c; ⟨Hb, cur_base g g2, E⟩
theorem z_forL {α : Type} {xs : List α} {enc : α → PyData} {g : TG} {vs : List Nat} (c : Cur Hb0 H0 G σ H) (hy : Y R0 tl G (D (.list (xs.map enc)))) (I : Nat → Ctx) (Ix : Nat → α → Ctx)
    (h0 : ∀ Hb1 H1, Cur Hb1 H0 G σ H1 → Cur Hb1 H0 (I 0) σ H1) (hg : ∀ i x, xs[i]? = some x → YG g vs (I i) (enc x) (Ix i x))
    (hs : ∀ Hb1, (∀ Hb2 H2, Grow Hb1 H0 Hb2 H2 → Grow Hb0 H0 Hb2 H2) → ∀ i x, xs[i]? = some x → ∀ σ' H', Cur Hb1 H0 (Ix i x) σ' H' → tu { De with nx := Cur Hb1 H0 (I (i + 1)), ct := Cur Hb1 H0 (I (i + 1)), bk := De.nx } σ' H')
    (hd : ∀ σ' H', Cur Hb0 H0 (I xs.length) σ' H' → De.nx σ' H') : tFor (iList K tl) g tu De σ H := by
  obtain ⟨Hb, g0, E⟩ := c
  refine hy H0 Hb H σ E trivial g0.in_ _ fun v Hb1 H1 g1 p => ?_
  obtain ⟨a, ys, rfl, ha, hr⟩ := p
  have gg := g0.trans g1
  have hl : ys.length = xs.length := by rw [hr.length, List.length_map]
  refine ⟨a, rfl, ⟨ys, .inl (.inl (g1.in_ _ _ ha))⟩, for_list (xs := ys) (fun i σ' H' => Cur Hb1 H0 (I i) σ' H') (h0 Hb1 H1 ⟨Hb1, gg.rebase, E.grow g1⟩) (fun i σ' H' _ ⟨Hb2, g2, _⟩ => .inl (.inl (g2.in_ _ _ (g2.fz _ _ ha)))) (fun i x σ' H' hx ⟨Hb2, g2, E2⟩ => ?_) (fun σ' H' c' => hd σ' H' (by rw [← hl]; exact c'.out gg))⟩
  obtain ⟨d, e1, e2⟩ := hr.get' hx
  rw [List.getElem?_map] at e1
  cases hxi : xs[i]? with
  | none => rw [hxi] at e1; cases e1
  | some y =>
    rw [hxi] at e1
    cases e1
    exact hg i y hxi H0 Hb2 H' σ' x E2 g2.in_ (Dv.mono g2.fz _ _ e2) _ fun σ2 E3 _ => hs Hb1 (fun Hb2 H2 h => cur_base gg h) i y hxi σ2 H' ⟨Hb2, g2, E3⟩
theorem q_forL {α : Type} {xs : List α} {enc : α → PyData} {g : TG} {vs : List Nat} (c : Cur Hb0 H0 G σ H) (hy : Y R0 tl G (D (.list (xs.map enc)))) (I : Nat → Ctx) (Ix : Nat → α → Ctx)
    (h0 : ∀ Hb1 H1, Cur Hb1 H0 G σ H1 → Cur Hb1 H0 (I 0) σ H1) (hg : ∀ i x, xs[i]? = some x → YG g vs (I i) (enc x) (Ix i x))
    (hs : ∀ Hb1, (∀ Hb2 H2, Grow Hb1 H0 Hb2 H2 → Grow Hb0 H0 Hb2 H2) → ∀ i x, xs[i]? = some x → ∀ σ' H', Cur Hb1 H0 (Ix i x) σ' H' → tu { De with nx := Cur Hb1 H0 (I (i + 1)), ct := Cur Hb1 H0 (I (i + 1)), bk := tz De } σ' H')
    (hd : ∀ σ' H', Cur Hb0 H0 (I xs.length) σ' H' → tz De σ' H') : tSeq (tFor (iList K tl) g tu) tz De σ H := z_forL (De := { De with nx := tz De }) c hy I Ix h0 hg hs hd
theorem z_forR {n : Nat} {j : Nat} {ta : TE} (c : Cur Hb0 H0 G σ H) (hy : Y R0 ta G (D (.int n))) (hn : n ≤ 100000) (I : Nat → Ctx)
    (h0 : ∀ H1, Cur Hb0 H0 G σ H1 → Cur Hb0 H0 (I 0) σ H1)
    (hs : ∀ i, i < n → ∀ σ' H', Cur Hb0 H0 ((I i).set j (.p (D (.int i)))) σ' H' → tu { De with nx := Cur Hb0 H0 (I (i + 1)), ct := Cur Hb0 H0 (I (i + 1)), bk := De.nx } σ' H')
    (hd : ∀ σ' H', Cur Hb0 H0 (I n) σ' H' → De.nx σ' H') : tFor (iRng1 (tCons ta tNil)) (gName j) tu De σ H := by
  obtain ⟨Hb, g0, E⟩ := c
  refine hy H0 Hb H σ E trivial g0.in_ _ fun v Hb1 H1 g1 p => ?_
  obtain rfl : v = .int n := p
  refine ⟨n, rfl, by omega, by omega, for_range (lo := 0) (n := ((n : Int)).toNat) (fun i σ' H' => Cur Hb0 H0 (I i) σ' H') (h0 H1 ⟨Hb1, g0.trans g1, E.grow g1⟩) (fun i σ' H' hi ⟨Hb2, g2, E2⟩ => ?_) (fun σ' H' c' => hd σ' H' (by rw [Int.toNat_natCast] at c'; exact c'))⟩
  show tu _ (σ'.set j (some (.int ((0 : Int) + (i : Int))))) H'
  rw [Int.zero_add]
  exact hs i (by omega) _ _ ⟨Hb2, g2, E2.put (mono_D (.int i)) rfl⟩
/-- with a fact of the turns -/
theorem z_forRp {n : Nat} {j : Nat} {ta : TE} (c : Cur Hb0 H0 G σ H) (hy : Y R0 ta G (D (.int n))) (hn : n ≤ 100000) (I : Nat → Ctx) (φ : Nat → Prop) (p0 : φ 0)
    (h0 : ∀ H1, Cur Hb0 H0 G σ H1 → Cur Hb0 H0 (I 0) σ H1)
    (hs : ∀ i, i < n → φ i → ∀ σ' H', Cur Hb0 H0 ((I i).set j (.p (D (.int i)))) σ' H' → tu { De with nx := fun σ H => Cur Hb0 H0 (I (i + 1)) σ H ∧ φ (i + 1), ct := fun σ H => Cur Hb0 H0 (I (i + 1)) σ H ∧ φ (i + 1), bk := De.nx } σ' H')
    (hd : φ n → ∀ σ' H', Cur Hb0 H0 (I n) σ' H' → De.nx σ' H') : tFor (iRng1 (tCons ta tNil)) (gName j) tu De σ H := by
  obtain ⟨Hb, g0, E⟩ := c
  refine hy H0 Hb H σ E trivial g0.in_ _ fun v Hb1 H1 g1 p => ?_
  obtain rfl : v = .int n := p
  refine ⟨n, rfl, by omega, by omega, for_range (lo := 0) (n := ((n : Int)).toNat) (fun i σ' H' => Cur Hb0 H0 (I i) σ' H' ∧ φ i) ⟨h0 H1 ⟨Hb1, g0.trans g1, E.grow g1⟩, p0⟩ (fun i σ' H' hi ⟨⟨Hb2, g2, E2⟩, pi⟩ => ?_) (fun σ' H' c' => hd (by have := c'.2; rw [Int.toNat_natCast] at this; exact this) σ' H' (by have := c'.1; rw [Int.toNat_natCast] at this; exact this))⟩
  show tu _ (σ'.set j (some (.int ((0 : Int) + (i : Int))))) H'
  rw [Int.zero_add]
  exact hs i (by omega) pi _ _ ⟨Hb2, g2, E2.put (mono_D (.int i)) rfl⟩
theorem q_forRp {n : Nat} {j : Nat} {ta : TE} (c : Cur Hb0 H0 G σ H) (hy : Y R0 ta G (D (.int n))) (hn : n ≤ 100000) (I : Nat → Ctx) (φ : Nat → Prop) (p0 : φ 0)
    (h0 : ∀ H1, Cur Hb0 H0 G σ H1 → Cur Hb0 H0 (I 0) σ H1)
    (hs : ∀ i, i < n → φ i → ∀ σ' H', Cur Hb0 H0 ((I i).set j (.p (D (.int i)))) σ' H' → tu { De with nx := fun σ H => Cur Hb0 H0 (I (i + 1)) σ H ∧ φ (i + 1), ct := fun σ H => Cur Hb0 H0 (I (i + 1)) σ H ∧ φ (i + 1), bk := tz De } σ' H')
    (hd : φ n → ∀ σ' H', Cur Hb0 H0 (I n) σ' H' → tz De σ' H') : tSeq (tFor (iRng1 (tCons ta tNil)) (gName j) tu) tz De σ H := z_forRp (De := { De with nx := tz De }) c hy hn I φ p0 h0 hs hd
theorem q_forR {n : Nat} {j : Nat} {ta : TE} (c : Cur Hb0 H0 G σ H) (hy : Y R0 ta G (D (.int n))) (hn : n ≤ 100000) (I : Nat → Ctx)
    (h0 : ∀ H1, Cur Hb0 H0 G σ H1 → Cur Hb0 H0 (I 0) σ H1)
    (hs : ∀ i, i < n → ∀ σ' H', Cur Hb0 H0 ((I i).set j (.p (D (.int i)))) σ' H' → tu { De with nx := Cur Hb0 H0 (I (i + 1)), ct := Cur Hb0 H0 (I (i + 1)), bk := tz De } σ' H')
    (hd : ∀ σ' H', Cur Hb0 H0 (I n) σ' H' → tz De σ' H') : tSeq (tFor (iRng1 (tCons ta tNil)) (gName j) tu) tz De σ H := z_forR (De := { De with nx := tz De }) c hy hn I h0 hs hd
end
/-! ### comprehensions -/
section
variable {R : Res} {K : PySem.W.Frag} {G : Ctx} {tl te : TE} {tt : TT} {g : TG} {vs : List Nat}
/-- what is made so far -/
def Acc (Hb1 H1 : Hp) (Dl : Addr) (ds : List PyData) (H : Hp) : Prop := ∃ Hb acc, Grow Hb1 H1 Hb H ∧ Hb Dl = none ∧ H Dl = some (.lst acc) ∧ DvAll Hb ds acc
theorem acc_turn {Hb1 H1 Hb H H0 : Hp} {Dl : Addr} {ds : List PyData} {acc : List V} {b : Bool} {e : PyData} {σ2 : L2.St} {G2 : Ctx} (g : Grow Hb1 H1 Hb H) (n : Hb Dl = none) (hD : H Dl = some (.lst acc)) (ha : DvAll Hb ds acc) (h1 : H1 Dl = none) (hl : ds.length < 1000000) (r0 : R.p H0 Hb H)
    (E0 : EvG H0 G2 Hb H σ2) (ht : YT R tt G2 b) (he : b = true → Y R te G2 (D e)) :
    tt σ2 H fun c H3 => if c = true then te σ2 H3 fun y H4 => ∃ acc, H4 Dl = some (.lst acc) ∧ acc.length < sizeLine ∧ Acc Hb1 H1 Dl (ds ++ (if b then [e] else [])) (upd H4 Dl (.lst (acc ++ [y]))) else Acc Hb1 H1 Dl (ds ++ (if b then [e] else [])) H3 := by
  have dn : ∀ Hb2 H2, Grow Hb H Hb2 H2 → Hb2 Dl = none := fun Hb2 H2 g2 => by
    cases q : Hb2 Dl with
    | none => rfl
    | some o => have := g2.nw Dl n (by rw [q]; simp); rw [hD] at this; cases this
  refine ht H0 Hb H σ2 E0 r0 g.in_ _ fun Hb2 H2 g2 => ?_
  cases b with
  | true =>
    refine he rfl H0 Hb2 H2 σ2 (E0.grow g2) (R.st _ _ _ _ _ r0 g2) g2.in_ _ fun v Hb3 H3 g3 p => ?_
    have g23 := g2.trans g3
    refine ⟨acc, g23.al _ _ hD, by rw [ha.length]; exact Nat.lt_of_lt_of_le hl (by decide), Hb3, _, (g.trans g23).mut (dn _ _ g23) h1, dn _ _ g23, upd_same, (DvAll.mono g23.fz _ _ ha).app (.one p)⟩
  | false =>
    show Acc Hb1 H1 Dl (ds ++ []) H2
    rw [List.append_nil]
    exact ⟨Hb2, acc, g.trans g2, dn _ _ g2, g2.al _ _ hD, DvAll.mono g2.fz _ _ ha⟩
theorem take_step {α β : Type} {xs : List α} {i : Nat} {x : α} (f : α → List β) (h : xs[i]? = some x) : (xs.take (i + 1)).flatMap f = (xs.take i).flatMap f ++ f x := by
  rw [List.take_add_one, h, List.flatMap_append]; simp
theorem flat_filter {α β : Type} (p : α → Bool) (f : α → β) : ∀ xs : List α, xs.flatMap (fun x => if p x then [f x] else []) = (xs.filter p).map f
  | [] => rfl
  | x :: xs => by
    rw [List.flatMap_cons, flat_filter p f xs, List.filter_cons]
    cases p x <;> rfl
theorem flat_len {α β : Type} (p : α → Bool) (f : α → β) (xs : List α) : (xs.flatMap (fun x => if p x then [f x] else [])).length ≤ xs.length := by
  rw [flat_filter, List.length_map]; exact List.length_filter_le _ _
theorem y_lcL {α : Type} {xs : List α} {enc e : α → PyData} {b : α → Bool} (Gx : α → Ctx) (hl : Y R tl G (D (.list (xs.map enc)))) (hz : xs.length ≤ 900000) (hg : ∀ x ∈ xs, YG g vs (wipeG G vs) (enc x) (Gx x))
    (ht : ∀ x ∈ xs, YT R tt (Gx x) (b x)) (he : ∀ x ∈ xs, b x = true → Y R te (Gx x) (D (e x))) : Y R (tLc (iList K tl) g tt te vs) G (D (.list ((xs.filter b).map e))) := fun H0 Hb H σ E rr s Q q =>
  hl H0 Hb H σ E rr s _ fun v Hb1 H1 g1 p => by
    obtain ⟨a, ys, rfl, ha, hr⟩ := p
    have hlen : ys.length = xs.length := by rw [hr.length, List.length_map]
    refine ⟨a, rfl, ⟨ys, .inl (.inl (g1.in_ _ _ ha))⟩, fun Dl hD => ?_⟩
    have hbD : Hb1 Dl = none := g1.in_.free hD
    let f : α → List PyData := fun x => if b x then [e x] else []
    refine lc_list (xs := ys) (fun i H' => Acc Hb1 H1 Dl ((xs.take i).flatMap f) H') ⟨Hb1, [], .own g1.in_ hD, hbD, upd_same, rfl⟩ (fun i H' _ ⟨Hb2, acc, g2, _⟩ => .inl (.inl (g2.in_ _ _ (g2.fz _ _ ha)))) (fun i x H' hx A => ?_) (fun H' A => ?_)
    · obtain ⟨d, e1, e2⟩ := hr.get' hx
      rw [List.getElem?_map] at e1
      cases hxi : xs[i]? with
      | none => rw [hxi] at e1; cases e1
      | some y =>
        rw [hxi] at e1
        cases e1
        have hm : y ∈ xs := List.mem_of_getElem? hxi
        obtain ⟨Hb2, acc, g2, n2, d2, a2⟩ := id A
        refine hg y hm H0 Hb2 H' (wipe σ vs) x (((E.grow g1).grow g2).wipe vs) g2.in_ (Dv.mono g2.fz _ _ e2) _ fun σ2 E2 hw => ⟨by rw [hw, wipe_idem], ?_⟩
        rw [take_step f hxi]
        refine acc_turn (G2 := Gx y) (H0 := H0) g2 n2 d2 a2 hD ?_ (R.st _ _ _ _ _ (R.st _ _ _ _ _ rr g1) g2) E2 (ht y hm) (he y hm)
        refine Nat.lt_of_le_of_lt (flat_len b e _) ?_
        rw [List.length_take]; omega
    · rw [hlen, List.take_length, flat_filter] at A
      obtain ⟨Hb2, acc, g2, n2, d2, a2⟩ := A
      exact q _ _ _ (g1.trans (g2.freeze n2 hD d2)) ⟨Dl, acc, rfl, upd_same, DvAll.mono (same_upd n2) _ _ a2⟩
theorem y_lcR {n : Nat} {ta : TE} {e : Nat → PyData} {b : Nat → Bool} (Gx : Nat → Ctx) (hl : Y R ta G (D (.int n))) (hz : n ≤ 900000) (hg : ∀ x, x < n → YG g vs (wipeG G vs) (.int (x : Nat)) (Gx x))
    (ht : ∀ x, x < n → YT R tt (Gx x) (b x)) (he : ∀ x, x < n → b x = true → Y R te (Gx x) (D (e x))) : Y R (tLc (iRng1 (tCons ta tNil)) g tt te vs) G (D (.list (((List.range n).filter b).map e))) := fun H0 Hb H σ E rr s Q q =>
  hl H0 Hb H σ E rr s _ fun v Hb1 H1 g1 p => by
    obtain rfl : v = .int n := p
    refine ⟨n, rfl, by omega, by omega, fun Dl hD => ?_⟩
    have hbD : Hb1 Dl = none := g1.in_.free hD
    let f : Nat → List PyData := fun x => if b x then [e x] else []
    refine lc_range (lo := 0) (n := ((n : Int)).toNat) (fun i H' => Acc Hb1 H1 Dl ((List.range i).flatMap f) H') ⟨Hb1, [], .own g1.in_ hD, hbD, upd_same, rfl⟩ (fun i H' hi A => ?_) (fun H' A => ?_)
    · have hi' : i < n := by omega
      obtain ⟨Hb2, acc, g2, n2, d2, a2⟩ := id A
      rw [Int.zero_add]
      refine hg i hi' H0 Hb2 H' (wipe σ vs) (.int (i : Nat)) (((E.grow g1).grow g2).wipe vs) g2.in_ rfl _ fun σ2 E2 hw => ⟨by rw [hw, wipe_idem], ?_⟩
      have es : (List.range (i + 1)).flatMap f = (List.range i).flatMap f ++ f i := by rw [List.range_succ, List.flatMap_append]; simp
      rw [es]
      refine acc_turn (G2 := Gx i) (H0 := H0) g2 n2 d2 a2 hD ?_ (R.st _ _ _ _ _ (R.st _ _ _ _ _ rr g1) g2) E2 (ht i hi') (he i hi')
      refine Nat.lt_of_le_of_lt (flat_len b e _) ?_
      rw [List.length_range]; omega
    · rw [Int.toNat_natCast, flat_filter] at A
      obtain ⟨Hb2, acc, g2, n2, d2, a2⟩ := A
      exact q _ _ _ (g1.trans (g2.freeze n2 hD d2)) ⟨Dl, acc, rfl, upd_same, DvAll.mono (same_upd n2) _ _ a2⟩
end
theorem cur_at {Hb0 H0 H : Hp} {G : Ctx} {σ : L2.St} {n : Nat} {ds : List PyData} {d : PyData} (h : G[n]? = some (.own ds)) : True := trivial
/-! ### calls -/
def spP (As : List Pr) (P : Pr) : Sp := fun vs H Q _ => ∃ Hb, Same Hb H ∧ ArgsP Hb As vs ∧ ∀ v Hb2 H2, Grow Hb H Hb2 H2 → P Hb2 v → Q v H2
theorem y_call {R : Res} {G : Ctx} {ta : TA} {As : List Pr} {P : Pr} {sp : Sp} {E : XK} (ha : YA R ta G As) (hs : ∀ vs H Q, spP As P vs H Q E → sp vs H Q E) : Y R (tCall sp [] E ta) G P := fun H0 Hb H σ Ev rr s Q q =>
  ha H0 Hb H σ Ev rr s _ fun vs Hb2 H2 g a => by
    rw [List.append_nil]
    exact hs _ _ _ ⟨Hb2, g.in_, a, fun v Hb3 H3 g3 p => q v Hb3 H3 (g.trans g3) p⟩
theorem ArgsP.length {H : Hp} : ∀ {As : List Pr} {vs : List V}, ArgsP H As vs → vs.length = As.length
  | [], _, h => by subst h; rfl
  | P :: Ps, _, ⟨v, r, e, h, q⟩ => by subst e; simp [ArgsP.length q]
theorem ArgsP.get {H : Hp} : ∀ {As : List Pr} {vs : List V} {i : Nat} {P : Pr}, ArgsP H As vs → As[i]? = some P → ∃ v, vs[i]? = some v ∧ P H v
  | [], _, _, _, _, e => by simp at e
  | P :: Ps, _, 0, _, ⟨v, r, e, h, q⟩, e2 => by subst e; simp at e2; subst e2; exact ⟨v, rfl, h⟩
  | P :: Ps, _, i + 1, _, ⟨v, r, e, h, q⟩, e2 => by
    subst e
    obtain ⟨u, h1, h2⟩ := ArgsP.get (i := i) q (by simpa using e2)
    exact ⟨u, by simpa using h1, h2⟩
theorem MonoL.get : ∀ {As : List Pr} {i : Nat} {P : Pr}, MonoL As → As[i]? = some P → Mono P
  | [], _, _, _, e => by simp at e
  | P :: Ps, 0, _, ⟨m, _⟩, e => by simp at e; subst e; exact m
  | P :: Ps, i + 1, _, ⟨_, ms⟩, e => MonoL.get (i := i) ms (by simpa using e)
/-- the slots at a def's entry -/
def G0 (As : List Pr) (k : Nat) : Ctx := As.map Ent.p ++ List.replicate k .no
theorem start_env {As : List Pr} {vs : List V} {Hb H H0 : Hp} {N : List Str} {k : Nat} (a : ArgsP Hb As vs) (m : MonoL As) (hN : N.length = As.length + k) : EvG H0 (G0 As k) Hb H (L2.start N vs) := by
  have hv := a.length
  refine ⟨by simp [G0, L2.start, hv, hN], fun i e q => ?_, fun i j e f l q1 q2 m1 m2 _ _ => ?_⟩
  · unfold G0 at q
    by_cases hi : i < As.length
    · rw [List.getElem?_append_left (by simpa using hi), List.getElem?_map] at q
      cases hP : As[i]? with
      | none => rw [hP] at q; cases q
      | some P =>
        rw [hP] at q
        cases q
        obtain ⟨v, h1, h2⟩ := a.get hP
        refine ⟨m.get hP, v, ?_, h2⟩
        unfold L2.start
        rw [List.getElem?_append_left (by simp [hv, hi]), List.getElem?_map, h1]; rfl
    · rw [List.getElem?_append_right (by simpa using hi)] at q
      have := List.mem_of_getElem? q
      rw [(List.mem_replicate.mp this).2]
      trivial
  · exfalso
    have := List.mem_of_getElem? q1
    rcases List.mem_append.mp this with z | z
    · obtain ⟨P, _, rfl⟩ := List.mem_map.mp z
      cases m1
    · rw [(List.mem_replicate.mp z).2] at m1
      cases m1
theorem start_cur {As : List Pr} {vs : List V} {Hb H : Hp} {N : List Str} {k : Nat} (s : Same Hb H) (a : ArgsP Hb As vs) (m : MonoL As) (hN : N.length = As.length + k) : Cur Hb H (G0 As k) (L2.start N vs) H :=
  ⟨Hb, .refl s, start_env a m hN⟩
section
variable {P : Program} {w : World} {K : PySem.W.Frag} {mg : Str → Option Value} {base : Heap}
/-- a def of the module that may be called -/
structure Cal (P : Program) (w : World) (K : PySem.W.Frag) (mg : Str → Option Value) (base : Heap) (k : Nat) (x : Str) (ps : List Str) (sp : Sp) : Prop where
  ex : ∃ f fd, mg x = some (.ref f) ∧ PySem.W.keepIn K (.ref f) = true ∧ Binds K fd ps [] ∧ FnOk P w K mg base CX0 k f fd ps sp
theorem pe_cal {X : Cx} {k : Nat} {x : Str} {ps : List Str} {sp : Sp} {p pos : Pos} {e : Expr} {es : List Expr} {t : TA} (C : Cal X.prog X.w X.K X.mg X.base k x ps sp) (hr : Room k X.A) (hg : Gl X x) (ha : PA X (e :: es) t)
    (he : starEach (e :: es) X.env = (false, eval e X.env) :: starEach es X.env := by rfl) (hpl : (backTo pos (starEach es X.env)).any (·.1) = false := by rfl) (hd : (x == ("__debug__" : Str)) = false := by decide) : PE X (.Call (.Name x p) (e :: es) [] pos) (tCall sp [] E0 t) := by
  obtain ⟨f, fd, h1, h2, h3, h4⟩ := C.ex
  exact pe_call h4 hr hg h1 h2 h3 .nil pass0 ha (hdb := hd) (he := he) (hpl := hpl)
theorem cxK (CX : CXT) (P : Program) (w : World) (K : PySem.W.Frag) (mg : Str → Option Value) (base : Heap) (N : List Str) (qual : Str) (scope : Scope) (f : Addr) (cd : Value) (A : Around) (outer : List PySem.Env) (s : Shared) (H : Hp) (E : XK) : (cxOf CX P w K mg base N qual scope f cd A outer s H E).nox.K = K := rfl
theorem def_ok {x qual : Str} {params : Arguments} {body : List Stmt} {scope : Scope} {dvs : List V} {kws : List (Str × V)} {f : Addr} {fd : FuncData} {N ps : List Str} {k : Nat} {sp : Sp} (F : FunD K x qual params body scope dvs kws f fd) (S : FnScope N ps scope) (len : ∀ vs H Q E, sp vs H Q E → vs.length = ps.length)
    (hbody : ∀ (cdv : Value) (A : Around) (outer : List Env) (s : Shared) (H : Hp) (vs : List V) (Q : VK) (E : XK), Room k (A.deeper (PyProof.Rows.envOfC qual scope s.heap.objs.size f cdv)) → sp vs H Q E →
      ∃ t, PSs (cxOf CX0 P w K mg base N qual scope f cdv A outer s H E).nox body t ∧ t { nx := fun _ H' => Q .non H', rt := Q } (L2.start N vs) H) : FnOk P w K mg base CX0 (k + 1) f fd ps sp :=
  F.ok S len fun cdv A outer s H vs Q E hr h => let ⟨t, h1, h2⟩ := hbody cdv A outer s H vs Q E hr h; ⟨t, h1.nox, h2⟩
end
end MW

/-! MD -/
set_option Elab.async false
set_option linter.all false
set_option maxRecDepth 100000
set_option maxHeartbeats 4000000
namespace MW
open PySem PySem.Spec L2
/-! ### the text -/
def top (i : Nat) : Stmt := PySem.Challenge.pw_meshworks_k98_whole_behind_at_work.main.body.getD i (.Pass ⟨0, 0, 0, 0⟩)
abbrev s_good_row : Stmt := top 11
abbrev s_Works_init : Stmt := inClass (top 12) 0
abbrev s_pieces_of : Stmt := top 13
abbrev s_goes_on : Stmt := top 14
abbrev s_whole_to : Stmt := top 16
abbrev s_ring_from : Stmt := top 17
abbrev s_sizes_looked : Stmt := top 18
abbrev s_ring_of : Stmt := top 19
abbrev s_moved : Stmt := top 21
abbrev s_behind : Stmt := top 22
abbrev s_rising : Stmt := top 24
abbrev s_Flow_init : Stmt := inClass (top 26) 0
abbrev s_Flow_put : Stmt := inClass (top 26) 1
abbrev s_Flow_take_all : Stmt := inClass (top 26) 2
abbrev s_Flow_go_size : Stmt := inClass (top 26) 3
abbrev s_Flow_go : Stmt := inClass (top 26) 4
abbrev s_Flow_told : Stmt := inClass (top 26) 5
abbrev s_laid_on : Stmt := top 27
abbrev s_worked : Stmt := top 28
abbrev s_spans_ahead : Stmt := top 29
abbrev s_holds_span : Stmt := top 30
abbrev s_joined_spans : Stmt := top 31
abbrev s_least_to : Stmt := top 32
abbrev s_reaching : Stmt := top 33
abbrev s__law_cell_at : Stmt := top 35
abbrev s__law_size : Stmt := top 36
abbrev s__law_over : Stmt := top 37
abbrev s__law_rows : Stmt := top 38
abbrev s__law_row : Stmt := top 39
abbrev s__law_whole_to : Stmt := top 40
abbrev s__law_goes_round : Stmt := top 41
abbrev s__law_stuck : Stmt := top 42
abbrev s__law_good_rows : Stmt := top 43
abbrev s__law_lot : Stmt := top 44
abbrev s__law_great : Stmt := top 45
abbrev s__law_poured : Stmt := top 46
abbrev s__law_due : Stmt := top 47
abbrev s_law : Stmt := top 48
def d_good_row : He.DefD := ⟨("good_row", none), "good_row", "good_row", defArgs s_good_row, defBody s_good_row, defScope s_good_row, [], []⟩
def d_Works_init : He.DefD := ⟨("Works", some "__init__"), "__init__", "Works.__init__", defArgs s_Works_init, defBody s_Works_init, defScope s_Works_init, [], []⟩
def d_pieces_of : He.DefD := ⟨("pieces_of", none), "pieces_of", "pieces_of", defArgs s_pieces_of, defBody s_pieces_of, defScope s_pieces_of, [], []⟩
def d_goes_on : He.DefD := ⟨("goes_on", none), "goes_on", "goes_on", defArgs s_goes_on, defBody s_goes_on, defScope s_goes_on, [], []⟩
def d_whole_to : He.DefD := ⟨("whole_to", none), "whole_to", "whole_to", defArgs s_whole_to, defBody s_whole_to, defScope s_whole_to, [], []⟩
def d_ring_from : He.DefD := ⟨("ring_from", none), "ring_from", "ring_from", defArgs s_ring_from, defBody s_ring_from, defScope s_ring_from, [], []⟩
def d_sizes_looked : He.DefD := ⟨("sizes_looked", none), "sizes_looked", "sizes_looked", defArgs s_sizes_looked, defBody s_sizes_looked, defScope s_sizes_looked, [], []⟩
def d_ring_of : He.DefD := ⟨("ring_of", none), "ring_of", "ring_of", defArgs s_ring_of, defBody s_ring_of, defScope s_ring_of, [], []⟩
def d_moved : He.DefD := ⟨("moved", none), "moved", "moved", defArgs s_moved, defBody s_moved, defScope s_moved, [], []⟩
def d_behind : He.DefD := ⟨("behind", none), "behind", "behind", defArgs s_behind, defBody s_behind, defScope s_behind, [], []⟩
def d_rising : He.DefD := ⟨("rising", none), "rising", "rising", defArgs s_rising, defBody s_rising, defScope s_rising, [], []⟩
def d_Flow_init : He.DefD := ⟨("Flow", some "__init__"), "__init__", "Flow.__init__", defArgs s_Flow_init, defBody s_Flow_init, defScope s_Flow_init, [], []⟩
def d_Flow_put : He.DefD := ⟨("Flow", some "put"), "put", "Flow.put", defArgs s_Flow_put, defBody s_Flow_put, defScope s_Flow_put, [], []⟩
def d_Flow_take_all : He.DefD := ⟨("Flow", some "take_all"), "take_all", "Flow.take_all", defArgs s_Flow_take_all, defBody s_Flow_take_all, defScope s_Flow_take_all, [], []⟩
def d_Flow_go_size : He.DefD := ⟨("Flow", some "go_size"), "go_size", "Flow.go_size", defArgs s_Flow_go_size, defBody s_Flow_go_size, defScope s_Flow_go_size, [], []⟩
def d_Flow_go : He.DefD := ⟨("Flow", some "go"), "go", "Flow.go", defArgs s_Flow_go, defBody s_Flow_go, defScope s_Flow_go, [], []⟩
def d_Flow_told : He.DefD := ⟨("Flow", some "told"), "told", "Flow.told", defArgs s_Flow_told, defBody s_Flow_told, defScope s_Flow_told, [], []⟩
def d_laid_on : He.DefD := ⟨("laid_on", none), "laid_on", "laid_on", defArgs s_laid_on, defBody s_laid_on, defScope s_laid_on, [], []⟩
def d_worked : He.DefD := ⟨("worked", none), "worked", "worked", defArgs s_worked, defBody s_worked, defScope s_worked, [], []⟩
def d_spans_ahead : He.DefD := ⟨("spans_ahead", none), "spans_ahead", "spans_ahead", defArgs s_spans_ahead, defBody s_spans_ahead, defScope s_spans_ahead, [], []⟩
def d_holds_span : He.DefD := ⟨("holds_span", none), "holds_span", "holds_span", defArgs s_holds_span, defBody s_holds_span, defScope s_holds_span, [], []⟩
def d_joined_spans : He.DefD := ⟨("joined_spans", none), "joined_spans", "joined_spans", defArgs s_joined_spans, defBody s_joined_spans, defScope s_joined_spans, [], []⟩
def d_least_to : He.DefD := ⟨("least_to", none), "least_to", "least_to", defArgs s_least_to, defBody s_least_to, defScope s_least_to, [], []⟩
def d_reaching : He.DefD := ⟨("reaching", none), "reaching", "reaching", defArgs s_reaching, defBody s_reaching, defScope s_reaching, [], []⟩
def d__law_cell_at : He.DefD := ⟨("_law_cell_at", none), "_law_cell_at", "_law_cell_at", defArgs s__law_cell_at, defBody s__law_cell_at, defScope s__law_cell_at, [], []⟩
def d__law_size : He.DefD := ⟨("_law_size", none), "_law_size", "_law_size", defArgs s__law_size, defBody s__law_size, defScope s__law_size, [], []⟩
def d__law_over : He.DefD := ⟨("_law_over", none), "_law_over", "_law_over", defArgs s__law_over, defBody s__law_over, defScope s__law_over, [], []⟩
def d__law_rows : He.DefD := ⟨("_law_rows", none), "_law_rows", "_law_rows", defArgs s__law_rows, defBody s__law_rows, defScope s__law_rows, [], []⟩
def d__law_row : He.DefD := ⟨("_law_row", none), "_law_row", "_law_row", defArgs s__law_row, defBody s__law_row, defScope s__law_row, [], []⟩
def d__law_whole_to : He.DefD := ⟨("_law_whole_to", none), "_law_whole_to", "_law_whole_to", defArgs s__law_whole_to, defBody s__law_whole_to, defScope s__law_whole_to, [], []⟩
def d__law_goes_round : He.DefD := ⟨("_law_goes_round", none), "_law_goes_round", "_law_goes_round", defArgs s__law_goes_round, defBody s__law_goes_round, defScope s__law_goes_round, [], []⟩
def d__law_stuck : He.DefD := ⟨("_law_stuck", none), "_law_stuck", "_law_stuck", defArgs s__law_stuck, defBody s__law_stuck, defScope s__law_stuck, [], []⟩
def d__law_good_rows : He.DefD := ⟨("_law_good_rows", none), "_law_good_rows", "_law_good_rows", defArgs s__law_good_rows, defBody s__law_good_rows, defScope s__law_good_rows, [], []⟩
def d__law_lot : He.DefD := ⟨("_law_lot", none), "_law_lot", "_law_lot", defArgs s__law_lot, defBody s__law_lot, defScope s__law_lot, [], []⟩
def d__law_great : He.DefD := ⟨("_law_great", none), "_law_great", "_law_great", defArgs s__law_great, defBody s__law_great, defScope s__law_great, [], []⟩
def d__law_poured : He.DefD := ⟨("_law_poured", none), "_law_poured", "_law_poured", defArgs s__law_poured, defBody s__law_poured, defScope s__law_poured, [], []⟩
def d__law_due : He.DefD := ⟨("_law_due", none), "_law_due", "_law_due", defArgs s__law_due, defBody s__law_due, defScope s__law_due, [], []⟩
def d_law : He.DefD := ⟨("law", none), "law", "law", defArgs s_law, defBody s_law, defScope s_law, [], []⟩
def fn : List He.DefD := [d_good_row, d_Works_init, d_pieces_of, d_goes_on, d_whole_to, d_ring_from, d_sizes_looked, d_ring_of, d_moved, d_behind, d_rising, d_Flow_init, d_Flow_put, d_Flow_take_all, d_Flow_go_size, d_Flow_go, d_Flow_told, d_laid_on, d_worked, d_spans_ahead, d_holds_span, d_joined_spans, d_least_to, d_reaching, d__law_cell_at, d__law_size, d__law_over, d__law_rows, d__law_row, d__law_whole_to, d__law_goes_round, d__law_stuck, d__law_good_rows, d__law_lot, d__law_great, d__law_poured, d__law_due, d_law]
def fa : List He.Fa := [.glo "good_row", .glo "pieces_of", .glo "goes_on", .glo "whole_to", .glo "ring_from", .glo "sizes_looked", .glo "ring_of", .glo "moved", .glo "behind", .glo "rising", .glo "laid_on", .glo "worked", .glo "spans_ahead", .glo "holds_span", .glo "joined_spans", .glo "least_to", .glo "reaching", .glo "_law_cell_at", .glo "_law_size", .glo "_law_over", .glo "_law_rows", .glo "_law_row", .glo "_law_whole_to", .glo "_law_goes_round", .glo "_law_stuck", .glo "_law_good_rows", .glo "_law_lot", .glo "_law_great", .glo "_law_poured", .glo "_law_due", .glo "law", .free "any", .free "dict", .free "enumerate", .free "int", .free "len", .free "list", .free "max", .free "min", .free "range", .free "sorted", .free "sum", .int "MOST_ROWS" 12, .int "MOST_PARTS" 9, .int "MOST_BIN" 5, .int "WIDEST" (10 ^ 60), .glo "Works", .cls "Works", .mkr "Works", .noat "Works" "parts", .noat "Works" "rows", .glo "Flow", .cls "Flow", .mkr "Flow", .noat "Flow" "works", .noat "Flow" "sizes", .noat "Flow" "done", .noat "Flow" "kept", .meth "Flow" "put", .meth "Flow" "take_all", .meth "Flow" "go_size", .meth "Flow" "go", .meth "Flow" "told"]
def loose : List Str := [Str.ofString "MeshError", Str.ofString "BadWorks", Str.ofString "Stuck", Str.ofString "TooMany", Str.ofString "Unlike", Str.ofString "MOST_ROWS", Str.ofString "MOST_PARTS", Str.ofString "MOST_BIN", Str.ofString "WIDEST", Str.ofString "good_row", Str.ofString "Works", Str.ofString "pieces_of", Str.ofString "goes_on", Str.ofString "whole_to", Str.ofString "ring_from", Str.ofString "sizes_looked", Str.ofString "ring_of", Str.ofString "moved", Str.ofString "behind", Str.ofString "rising", Str.ofString "Flow", Str.ofString "laid_on", Str.ofString "worked", Str.ofString "spans_ahead", Str.ofString "holds_span", Str.ofString "joined_spans", Str.ofString "least_to", Str.ofString "reaching", Str.ofString "_law_cell_at", Str.ofString "_law_size", Str.ofString "_law_over", Str.ofString "_law_rows", Str.ofString "_law_row", Str.ofString "_law_whole_to", Str.ofString "_law_goes_round", Str.ofString "_law_stuck", Str.ofString "_law_good_rows", Str.ofString "_law_lot", Str.ofString "_law_great", Str.ofString "_law_poured", Str.ofString "_law_due"]
abbrev N_good_row : List Str := ["row", "many"]
theorem sc_good_row : FnScope N_good_row ["row", "many"] (defScope s_good_row) := ⟨rfl, rfl, rfl, by decide +kernel, rfl, by decide +kernel, by decide +kernel⟩
abbrev N_Works_init : List Str := ["self", "parts", "rows", "row"]
theorem sc_Works_init : FnScope N_Works_init ["self", "parts", "rows"] (defScope s_Works_init) := ⟨rfl, rfl, rfl, by decide +kernel, rfl, by decide +kernel, by decide +kernel⟩
abbrev N_pieces_of : List Str := ["size", "parts", "pairs", "pair"]
theorem sc_pieces_of : FnScope N_pieces_of ["size", "parts"] (defScope s_pieces_of) := ⟨rfl, rfl, rfl, by decide +kernel, rfl, by decide +kernel, by decide +kernel⟩
abbrev N_goes_on : List Str := ["works", "row", "size", "told", "piece", "many"]
theorem sc_goes_on : FnScope N_goes_on ["works", "row", "size"] (defScope s_goes_on) := ⟨rfl, rfl, rfl, by decide +kernel, rfl, by decide +kernel, by decide +kernel⟩
abbrev N_whole_to : List Str := ["works", "row", "size", "told"]
theorem sc_whole_to : FnScope N_whole_to ["works", "row", "size"] (defScope s_whole_to) := ⟨rfl, rfl, rfl, by decide +kernel, rfl, by decide +kernel, by decide +kernel⟩
abbrev N_ring_from : List Str := ["works", "row", "size", "way"]
theorem sc_ring_from : FnScope N_ring_from ["works", "row", "size"] (defScope s_ring_from) := ⟨rfl, rfl, rfl, by decide +kernel, rfl, by decide +kernel, by decide +kernel⟩
abbrev N_sizes_looked : List Str := ["works", "openings", "row", "opening"]
theorem sc_sizes_looked : FnScope N_sizes_looked ["works"] (defScope s_sizes_looked) := ⟨rfl, rfl, rfl, by decide +kernel, rfl, by decide +kernel, by decide +kernel⟩
abbrev N_ring_of : List Str := ["works", "size", "row", "ring"]
theorem sc_ring_of : FnScope N_ring_of ["works"] (defScope s_ring_of) := ⟨rfl, rfl, rfl, by decide +kernel, rfl, by decide +kernel, by decide +kernel⟩
abbrev N_moved : List Str := ["row", "places"]
theorem sc_moved : FnScope N_moved ["row", "places"] (defScope s_moved) := ⟨rfl, rfl, rfl, by decide +kernel, rfl, by decide +kernel, by decide +kernel⟩
abbrev N_behind : List Str := ["one", "number", "other", "kept", "places", "row", "further", "k"]
theorem sc_behind : FnScope N_behind ["one", "number", "other"] (defScope s_behind) := ⟨rfl, rfl, rfl, by decide +kernel, rfl, by decide +kernel, by decide +kernel⟩
abbrev N_rising : List Str := ["counted", "size"]
theorem sc_rising : FnScope N_rising ["counted"] (defScope s_rising) := ⟨rfl, rfl, rfl, by decide +kernel, rfl, by decide +kernel, by decide +kernel⟩
abbrev N_Flow_init : List Str := ["self", "works", "row"]
theorem sc_Flow_init : FnScope N_Flow_init ["self", "works"] (defScope s_Flow_init) := ⟨rfl, rfl, rfl, by decide +kernel, rfl, by decide +kernel, by decide +kernel⟩
abbrev N_Flow_put : List Str := ["self", "row", "size", "many", "lying"]
theorem sc_Flow_put : FnScope N_Flow_put ["self", "row", "size", "many"] (defScope s_Flow_put) := ⟨rfl, rfl, rfl, by decide +kernel, rfl, by decide +kernel, by decide +kernel⟩
abbrev N_Flow_take_all : List Str := ["self", "row", "size", "many", "told", "held", "to", "piece", "more"]
theorem sc_Flow_take_all : FnScope N_Flow_take_all ["self", "row", "size", "many"] (defScope s_Flow_take_all) := ⟨rfl, rfl, rfl, by decide +kernel, rfl, by decide +kernel, by decide +kernel⟩
abbrev N_Flow_go_size : List Str := ["self", "size", "lying", "row"]
theorem sc_Flow_go_size : FnScope N_Flow_go_size ["self", "size"] (defScope s_Flow_go_size) := ⟨rfl, rfl, rfl, by decide +kernel, rfl, by decide +kernel, by decide +kernel⟩
abbrev N_Flow_go : List Str := ["self", "top", "great", "size"]
theorem sc_Flow_go : FnScope N_Flow_go ["self"] (defScope s_Flow_go) := ⟨rfl, rfl, rfl, by decide +kernel, rfl, by decide +kernel, by decide +kernel⟩
abbrev N_Flow_told : List Str := ["self", "bins", "number"]
theorem sc_Flow_told : FnScope N_Flow_told ["self"] (defScope s_Flow_told) := ⟨rfl, rfl, rfl, by decide +kernel, rfl, by decide +kernel, by decide +kernel⟩
abbrev N_laid_on : List Str := ["works", "row", "lot", "flow", "size", "many"]
theorem sc_laid_on : FnScope N_laid_on ["works", "row", "lot"] (defScope s_laid_on) := ⟨rfl, rfl, rfl, by decide +kernel, rfl, by decide +kernel, by decide +kernel⟩
abbrev N_worked : List Str := ["works", "lot"]
theorem sc_worked : FnScope N_worked ["works", "lot"] (defScope s_worked) := ⟨rfl, rfl, rfl, by decide +kernel, rfl, by decide +kernel, by decide +kernel⟩
abbrev N_spans_ahead : List Str := ["works", "row", "span", "most", "found", "number", "told", "parts", "pair"]
theorem sc_spans_ahead : FnScope N_spans_ahead ["works", "row", "span", "most"] (defScope s_spans_ahead) := ⟨rfl, rfl, rfl, by decide +kernel, rfl, by decide +kernel, by decide +kernel⟩
abbrev N_holds_span : List Str := ["spans", "span", "one"]
theorem sc_holds_span : FnScope N_holds_span ["spans", "span"] (defScope s_holds_span) := ⟨rfl, rfl, rfl, by decide +kernel, rfl, by decide +kernel, by decide +kernel⟩
abbrev N_joined_spans : List Str := ["spans", "span", "low", "high", "apart", "one"]
theorem sc_joined_spans : FnScope N_joined_spans ["spans", "span"] (defScope s_joined_spans) := ⟨rfl, rfl, rfl, by decide +kernel, rfl, by decide +kernel, by decide +kernel⟩
abbrev N_least_to : List Str := ["works", "row", "most", "spans", "line", "here", "span", "told"]
theorem sc_least_to : FnScope N_least_to ["works", "row", "most"] (defScope s_least_to) := ⟨rfl, rfl, rfl, by decide +kernel, rfl, by decide +kernel, by decide +kernel⟩
abbrev N_reaching : List Str := ["works", "most", "row"]
theorem sc_reaching : FnScope N_reaching ["works"] (defScope s_reaching) := ⟨rfl, rfl, rfl, by decide +kernel, rfl, by decide +kernel, by decide +kernel⟩
abbrev N__law_cell_at : List Str := ["script", "k"]
theorem sc__law_cell_at : FnScope N__law_cell_at ["script", "k"] (defScope s__law_cell_at) := ⟨rfl, rfl, rfl, by decide +kernel, rfl, by decide +kernel, by decide +kernel⟩
abbrev N__law_size : List Str := ["cell", "rest"]
theorem sc__law_size : FnScope N__law_size ["cell"] (defScope s__law_size) := ⟨rfl, rfl, rfl, by decide +kernel, rfl, by decide +kernel, by decide +kernel⟩
abbrev N__law_over : List Str := ["rows", "cell", "later", "ahead", "k"]
theorem sc__law_over : FnScope N__law_over ["rows", "cell", "later"] (defScope s__law_over) := ⟨rfl, rfl, rfl, by decide +kernel, rfl, by decide +kernel, by decide +kernel⟩
abbrev N__law_rows : List Str := ["script", "many", "rows", "k", "cell", "later", "lower"]
theorem sc__law_rows : FnScope N__law_rows ["script"] (defScope s__law_rows) := ⟨rfl, rfl, rfl, by decide +kernel, rfl, by decide +kernel, by decide +kernel⟩
abbrev N__law_row : List Str := ["cell", "many", "rest"]
theorem sc__law_row : FnScope N__law_row ["cell", "many"] (defScope s__law_row) := ⟨rfl, rfl, rfl, by decide +kernel, rfl, by decide +kernel, by decide +kernel⟩
abbrev N__law_whole_to : List Str := ["rows", "row", "size", "told"]
theorem sc__law_whole_to : FnScope N__law_whole_to ["rows", "row", "size"] (defScope s__law_whole_to) := ⟨rfl, rfl, rfl, by decide +kernel, rfl, by decide +kernel, by decide +kernel⟩
abbrev N__law_goes_round : List Str := ["rows", "size", "row", "here", "step"]
theorem sc__law_goes_round : FnScope N__law_goes_round ["rows", "size"] (defScope s__law_goes_round) := ⟨rfl, rfl, rfl, by decide +kernel, rfl, by decide +kernel, by decide +kernel⟩
abbrev N__law_stuck : List Str := ["rows", "sizes", "told", "size"]
theorem sc__law_stuck : FnScope N__law_stuck ["rows"] (defScope s__law_stuck) := ⟨rfl, rfl, rfl, by decide +kernel, rfl, by decide +kernel, by decide +kernel⟩
abbrev N__law_good_rows : List Str := ["script", "many", "rows", "k"]
theorem sc__law_good_rows : FnScope N__law_good_rows ["script"] (defScope s__law_good_rows) := ⟨rfl, rfl, rfl, by decide +kernel, rfl, by decide +kernel, by decide +kernel⟩
abbrev N__law_lot : List Str := ["pairs", "sizes", "lot", "size", "many", "pair"]
theorem sc__law_lot : FnScope N__law_lot ["pairs"] (defScope s__law_lot) := ⟨rfl, rfl, rfl, by decide +kernel, rfl, by decide +kernel, by decide +kernel⟩
abbrev N__law_great : List Str := ["script", "pairs", "cell", "size"]
theorem sc__law_great : FnScope N__law_great ["script"] (defScope s__law_great) := ⟨rfl, rfl, rfl, by decide +kernel, rfl, by decide +kernel, by decide +kernel⟩
abbrev N__law_poured : List Str := ["bins", "more", "held", "number", "lot", "pair"]
theorem sc__law_poured : FnScope N__law_poured ["bins", "more"] (defScope s__law_poured) := ⟨rfl, rfl, rfl, by decide +kernel, rfl, by decide +kernel, by decide +kernel⟩
abbrev N__law_due : List Str := ["one", "number", "other", "lot", "first", "into", "second", "held", "handled", "k", "pair"]
theorem sc__law_due : FnScope N__law_due ["one", "number", "other", "lot"] (defScope s__law_due) := ⟨rfl, rfl, rfl, by decide +kernel, rfl, by decide +kernel, by decide +kernel⟩
abbrev N_law : List Str := ["script", "parts", "one", "other", "bins", "number", "lot", "left", "made", "due", "told", "held", "sizes", "k", "row"]
theorem sc_law : FnScope N_law ["script"] (defScope s_law) := ⟨rfl, rfl, rfl, by decide +kernel, rfl, by decide +kernel, by decide +kernel⟩
/-! ### what the top leaves -/
structure Tx (K : PySem.W.Frag) (mg : Str → Option Value) : Prop where
  c : He.SaysD fa fn K
  glo : ∀ x : Str, (He.Fa.glo x).ok K = true → mg x = some (.ref (He.ga K x))
  free : ∀ x : Str, (He.Fa.free x).ok K = true → mg x = none
  int_ : ∀ (x : Str) (i : Int), (He.Fa.int x i).ok K = true → ∃ t, mg x = some (.int i t)
theorem Tx.g_good_row {K : PySem.W.Frag} {mg : Str → Option Value} (T : Tx K mg) : mg "good_row" = some (.ref (He.ga K "good_row")) := T.glo _ (T.c.fact 0 (f := .glo "good_row") rfl)
theorem Tx.g_pieces_of {K : PySem.W.Frag} {mg : Str → Option Value} (T : Tx K mg) : mg "pieces_of" = some (.ref (He.ga K "pieces_of")) := T.glo _ (T.c.fact 1 (f := .glo "pieces_of") rfl)
theorem Tx.g_goes_on {K : PySem.W.Frag} {mg : Str → Option Value} (T : Tx K mg) : mg "goes_on" = some (.ref (He.ga K "goes_on")) := T.glo _ (T.c.fact 2 (f := .glo "goes_on") rfl)
theorem Tx.g_whole_to {K : PySem.W.Frag} {mg : Str → Option Value} (T : Tx K mg) : mg "whole_to" = some (.ref (He.ga K "whole_to")) := T.glo _ (T.c.fact 3 (f := .glo "whole_to") rfl)
theorem Tx.g_ring_from {K : PySem.W.Frag} {mg : Str → Option Value} (T : Tx K mg) : mg "ring_from" = some (.ref (He.ga K "ring_from")) := T.glo _ (T.c.fact 4 (f := .glo "ring_from") rfl)
theorem Tx.g_sizes_looked {K : PySem.W.Frag} {mg : Str → Option Value} (T : Tx K mg) : mg "sizes_looked" = some (.ref (He.ga K "sizes_looked")) := T.glo _ (T.c.fact 5 (f := .glo "sizes_looked") rfl)
theorem Tx.g_ring_of {K : PySem.W.Frag} {mg : Str → Option Value} (T : Tx K mg) : mg "ring_of" = some (.ref (He.ga K "ring_of")) := T.glo _ (T.c.fact 6 (f := .glo "ring_of") rfl)
theorem Tx.g_moved {K : PySem.W.Frag} {mg : Str → Option Value} (T : Tx K mg) : mg "moved" = some (.ref (He.ga K "moved")) := T.glo _ (T.c.fact 7 (f := .glo "moved") rfl)
theorem Tx.g_behind {K : PySem.W.Frag} {mg : Str → Option Value} (T : Tx K mg) : mg "behind" = some (.ref (He.ga K "behind")) := T.glo _ (T.c.fact 8 (f := .glo "behind") rfl)
theorem Tx.g_rising {K : PySem.W.Frag} {mg : Str → Option Value} (T : Tx K mg) : mg "rising" = some (.ref (He.ga K "rising")) := T.glo _ (T.c.fact 9 (f := .glo "rising") rfl)
theorem Tx.g_laid_on {K : PySem.W.Frag} {mg : Str → Option Value} (T : Tx K mg) : mg "laid_on" = some (.ref (He.ga K "laid_on")) := T.glo _ (T.c.fact 10 (f := .glo "laid_on") rfl)
theorem Tx.g_worked {K : PySem.W.Frag} {mg : Str → Option Value} (T : Tx K mg) : mg "worked" = some (.ref (He.ga K "worked")) := T.glo _ (T.c.fact 11 (f := .glo "worked") rfl)
theorem Tx.g_spans_ahead {K : PySem.W.Frag} {mg : Str → Option Value} (T : Tx K mg) : mg "spans_ahead" = some (.ref (He.ga K "spans_ahead")) := T.glo _ (T.c.fact 12 (f := .glo "spans_ahead") rfl)
theorem Tx.g_holds_span {K : PySem.W.Frag} {mg : Str → Option Value} (T : Tx K mg) : mg "holds_span" = some (.ref (He.ga K "holds_span")) := T.glo _ (T.c.fact 13 (f := .glo "holds_span") rfl)
theorem Tx.g_joined_spans {K : PySem.W.Frag} {mg : Str → Option Value} (T : Tx K mg) : mg "joined_spans" = some (.ref (He.ga K "joined_spans")) := T.glo _ (T.c.fact 14 (f := .glo "joined_spans") rfl)
theorem Tx.g_least_to {K : PySem.W.Frag} {mg : Str → Option Value} (T : Tx K mg) : mg "least_to" = some (.ref (He.ga K "least_to")) := T.glo _ (T.c.fact 15 (f := .glo "least_to") rfl)
theorem Tx.g_reaching {K : PySem.W.Frag} {mg : Str → Option Value} (T : Tx K mg) : mg "reaching" = some (.ref (He.ga K "reaching")) := T.glo _ (T.c.fact 16 (f := .glo "reaching") rfl)
theorem Tx.g__law_cell_at {K : PySem.W.Frag} {mg : Str → Option Value} (T : Tx K mg) : mg "_law_cell_at" = some (.ref (He.ga K "_law_cell_at")) := T.glo _ (T.c.fact 17 (f := .glo "_law_cell_at") rfl)
theorem Tx.g__law_size {K : PySem.W.Frag} {mg : Str → Option Value} (T : Tx K mg) : mg "_law_size" = some (.ref (He.ga K "_law_size")) := T.glo _ (T.c.fact 18 (f := .glo "_law_size") rfl)
theorem Tx.g__law_over {K : PySem.W.Frag} {mg : Str → Option Value} (T : Tx K mg) : mg "_law_over" = some (.ref (He.ga K "_law_over")) := T.glo _ (T.c.fact 19 (f := .glo "_law_over") rfl)
theorem Tx.g__law_rows {K : PySem.W.Frag} {mg : Str → Option Value} (T : Tx K mg) : mg "_law_rows" = some (.ref (He.ga K "_law_rows")) := T.glo _ (T.c.fact 20 (f := .glo "_law_rows") rfl)
theorem Tx.g__law_row {K : PySem.W.Frag} {mg : Str → Option Value} (T : Tx K mg) : mg "_law_row" = some (.ref (He.ga K "_law_row")) := T.glo _ (T.c.fact 21 (f := .glo "_law_row") rfl)
theorem Tx.g__law_whole_to {K : PySem.W.Frag} {mg : Str → Option Value} (T : Tx K mg) : mg "_law_whole_to" = some (.ref (He.ga K "_law_whole_to")) := T.glo _ (T.c.fact 22 (f := .glo "_law_whole_to") rfl)
theorem Tx.g__law_goes_round {K : PySem.W.Frag} {mg : Str → Option Value} (T : Tx K mg) : mg "_law_goes_round" = some (.ref (He.ga K "_law_goes_round")) := T.glo _ (T.c.fact 23 (f := .glo "_law_goes_round") rfl)
theorem Tx.g__law_stuck {K : PySem.W.Frag} {mg : Str → Option Value} (T : Tx K mg) : mg "_law_stuck" = some (.ref (He.ga K "_law_stuck")) := T.glo _ (T.c.fact 24 (f := .glo "_law_stuck") rfl)
theorem Tx.g__law_good_rows {K : PySem.W.Frag} {mg : Str → Option Value} (T : Tx K mg) : mg "_law_good_rows" = some (.ref (He.ga K "_law_good_rows")) := T.glo _ (T.c.fact 25 (f := .glo "_law_good_rows") rfl)
theorem Tx.g__law_lot {K : PySem.W.Frag} {mg : Str → Option Value} (T : Tx K mg) : mg "_law_lot" = some (.ref (He.ga K "_law_lot")) := T.glo _ (T.c.fact 26 (f := .glo "_law_lot") rfl)
theorem Tx.g__law_great {K : PySem.W.Frag} {mg : Str → Option Value} (T : Tx K mg) : mg "_law_great" = some (.ref (He.ga K "_law_great")) := T.glo _ (T.c.fact 27 (f := .glo "_law_great") rfl)
theorem Tx.g__law_poured {K : PySem.W.Frag} {mg : Str → Option Value} (T : Tx K mg) : mg "_law_poured" = some (.ref (He.ga K "_law_poured")) := T.glo _ (T.c.fact 28 (f := .glo "_law_poured") rfl)
theorem Tx.g__law_due {K : PySem.W.Frag} {mg : Str → Option Value} (T : Tx K mg) : mg "_law_due" = some (.ref (He.ga K "_law_due")) := T.glo _ (T.c.fact 29 (f := .glo "_law_due") rfl)
theorem Tx.g_law {K : PySem.W.Frag} {mg : Str → Option Value} (T : Tx K mg) : mg "law" = some (.ref (He.ga K "law")) := T.glo _ (T.c.fact 30 (f := .glo "law") rfl)
theorem Tx.any {K : PySem.W.Frag} {mg : Str → Option Value} (T : Tx K mg) : mg "any" = none := T.free _ (T.c.fact 31 (f := .free "any") rfl)
theorem Tx.dict {K : PySem.W.Frag} {mg : Str → Option Value} (T : Tx K mg) : mg "dict" = none := T.free _ (T.c.fact 32 (f := .free "dict") rfl)
theorem Tx.enumerate {K : PySem.W.Frag} {mg : Str → Option Value} (T : Tx K mg) : mg "enumerate" = none := T.free _ (T.c.fact 33 (f := .free "enumerate") rfl)
theorem Tx.int {K : PySem.W.Frag} {mg : Str → Option Value} (T : Tx K mg) : mg "int" = none := T.free _ (T.c.fact 34 (f := .free "int") rfl)
theorem Tx.len {K : PySem.W.Frag} {mg : Str → Option Value} (T : Tx K mg) : mg "len" = none := T.free _ (T.c.fact 35 (f := .free "len") rfl)
theorem Tx.list {K : PySem.W.Frag} {mg : Str → Option Value} (T : Tx K mg) : mg "list" = none := T.free _ (T.c.fact 36 (f := .free "list") rfl)
theorem Tx.max {K : PySem.W.Frag} {mg : Str → Option Value} (T : Tx K mg) : mg "max" = none := T.free _ (T.c.fact 37 (f := .free "max") rfl)
theorem Tx.min {K : PySem.W.Frag} {mg : Str → Option Value} (T : Tx K mg) : mg "min" = none := T.free _ (T.c.fact 38 (f := .free "min") rfl)
theorem Tx.range {K : PySem.W.Frag} {mg : Str → Option Value} (T : Tx K mg) : mg "range" = none := T.free _ (T.c.fact 39 (f := .free "range") rfl)
theorem Tx.sorted {K : PySem.W.Frag} {mg : Str → Option Value} (T : Tx K mg) : mg "sorted" = none := T.free _ (T.c.fact 40 (f := .free "sorted") rfl)
theorem Tx.sum {K : PySem.W.Frag} {mg : Str → Option Value} (T : Tx K mg) : mg "sum" = none := T.free _ (T.c.fact 41 (f := .free "sum") rfl)
theorem Tx.MOST_ROWS {K : PySem.W.Frag} {mg : Str → Option Value} (T : Tx K mg) : ∃ t, mg "MOST_ROWS" = some (.int 12 t) := T.int_ _ _ (T.c.fact 42 (f := .int "MOST_ROWS" 12) rfl)
theorem Tx.MOST_PARTS {K : PySem.W.Frag} {mg : Str → Option Value} (T : Tx K mg) : ∃ t, mg "MOST_PARTS" = some (.int 9 t) := T.int_ _ _ (T.c.fact 43 (f := .int "MOST_PARTS" 9) rfl)
theorem Tx.MOST_BIN {K : PySem.W.Frag} {mg : Str → Option Value} (T : Tx K mg) : ∃ t, mg "MOST_BIN" = some (.int 5 t) := T.int_ _ _ (T.c.fact 44 (f := .int "MOST_BIN" 5) rfl)
theorem Tx.WIDEST {K : PySem.W.Frag} {mg : Str → Option Value} (T : Tx K mg) : ∃ t, mg "WIDEST" = some (.int (10 ^ 60) t) := T.int_ _ _ (T.c.fact 45 (f := .int "WIDEST" (10 ^ 60)) rfl)
theorem Tx.g_Works {K : PySem.W.Frag} {mg : Str → Option Value} (T : Tx K mg) : mg "Works" = some (.ref (He.ga K "Works")) := T.glo _ (T.c.fact 46 (f := .glo "Works") rfl)
theorem Tx.cls_Works {K : PySem.W.Frag} {mg : Str → Option Value} (T : Tx K mg) : Cls K (He.ga K "Works") := He.cls_ok (T.c.fact 47 (f := .cls "Works") rfl)
theorem Tx.mk_Works {K : PySem.W.Frag} {mg : Str → Option Value} (T : Tx K mg) : Mk K (He.ga K "Works") (He.ma K (He.ga K "Works") "__init__") := He.mkr_ok (T.c.fact 48 (f := .mkr "Works") rfl)
theorem Tx.no_Works_parts {K : PySem.W.Frag} {mg : Str → Option Value} (T : Tx K mg) : NoAttr K (He.ga K "Works") "parts" := He.noat_ok (T.c.fact 49 (f := .noat "Works" "parts") rfl)
theorem Tx.no_Works_rows {K : PySem.W.Frag} {mg : Str → Option Value} (T : Tx K mg) : NoAttr K (He.ga K "Works") "rows" := He.noat_ok (T.c.fact 50 (f := .noat "Works" "rows") rfl)
theorem Tx.g_Flow {K : PySem.W.Frag} {mg : Str → Option Value} (T : Tx K mg) : mg "Flow" = some (.ref (He.ga K "Flow")) := T.glo _ (T.c.fact 51 (f := .glo "Flow") rfl)
theorem Tx.cls_Flow {K : PySem.W.Frag} {mg : Str → Option Value} (T : Tx K mg) : Cls K (He.ga K "Flow") := He.cls_ok (T.c.fact 52 (f := .cls "Flow") rfl)
theorem Tx.mk_Flow {K : PySem.W.Frag} {mg : Str → Option Value} (T : Tx K mg) : Mk K (He.ga K "Flow") (He.ma K (He.ga K "Flow") "__init__") := He.mkr_ok (T.c.fact 53 (f := .mkr "Flow") rfl)
theorem Tx.no_Flow_works {K : PySem.W.Frag} {mg : Str → Option Value} (T : Tx K mg) : NoAttr K (He.ga K "Flow") "works" := He.noat_ok (T.c.fact 54 (f := .noat "Flow" "works") rfl)
theorem Tx.no_Flow_sizes {K : PySem.W.Frag} {mg : Str → Option Value} (T : Tx K mg) : NoAttr K (He.ga K "Flow") "sizes" := He.noat_ok (T.c.fact 55 (f := .noat "Flow" "sizes") rfl)
theorem Tx.no_Flow_done {K : PySem.W.Frag} {mg : Str → Option Value} (T : Tx K mg) : NoAttr K (He.ga K "Flow") "done" := He.noat_ok (T.c.fact 56 (f := .noat "Flow" "done") rfl)
theorem Tx.no_Flow_kept {K : PySem.W.Frag} {mg : Str → Option Value} (T : Tx K mg) : NoAttr K (He.ga K "Flow") "kept" := He.noat_ok (T.c.fact 57 (f := .noat "Flow" "kept") rfl)
theorem Tx.me_Flow_put {K : PySem.W.Frag} {mg : Str → Option Value} (T : Tx K mg) : Meth K (He.ga K "Flow") "put" (He.ma K (He.ga K "Flow") "put") := He.meth_ok (T.c.fact 58 (f := .meth "Flow" "put") rfl)
theorem Tx.me_Flow_take_all {K : PySem.W.Frag} {mg : Str → Option Value} (T : Tx K mg) : Meth K (He.ga K "Flow") "take_all" (He.ma K (He.ga K "Flow") "take_all") := He.meth_ok (T.c.fact 59 (f := .meth "Flow" "take_all") rfl)
theorem Tx.me_Flow_go_size {K : PySem.W.Frag} {mg : Str → Option Value} (T : Tx K mg) : Meth K (He.ga K "Flow") "go_size" (He.ma K (He.ga K "Flow") "go_size") := He.meth_ok (T.c.fact 60 (f := .meth "Flow" "go_size") rfl)
theorem Tx.me_Flow_go {K : PySem.W.Frag} {mg : Str → Option Value} (T : Tx K mg) : Meth K (He.ga K "Flow") "go" (He.ma K (He.ga K "Flow") "go") := He.meth_ok (T.c.fact 61 (f := .meth "Flow" "go") rfl)
theorem Tx.me_Flow_told {K : PySem.W.Frag} {mg : Str → Option Value} (T : Tx K mg) : Meth K (He.ga K "Flow") "told" (He.ma K (He.ga K "Flow") "told") := He.meth_ok (T.c.fact 62 (f := .meth "Flow" "told") rfl)
theorem bb_len : bootBuiltins "len" = some (.builtin "len") := by decide +kernel
theorem bb_list : bootBuiltins "list" = some (.type "list") := by decide +kernel
theorem bb_dict : bootBuiltins "dict" = some (.type "dict") := by decide +kernel
theorem bb_int : bootBuiltins "int" = some (.type "int") := by decide +kernel
theorem bb_sum : bootBuiltins "sum" = some (.builtin "sum") := by decide +kernel
theorem bb_any : bootBuiltins "any" = some (.builtin "any") := by decide +kernel
theorem bb_max : bootBuiltins "max" = some (.builtin "max") := by decide +kernel
theorem bb_min : bootBuiltins "min" = some (.builtin "min") := by decide +kernel
theorem bb_sorted : bootBuiltins "sorted" = some (.builtin "sorted") := by decide +kernel
section
variable {X : Cx}
theorem pe_mint {x : Str} {i : Int} {pos : Pos} (h : ∃ t, X.mg x = some (.int i t)) (hg : Gl X x) (hd : (x == ("__debug__" : Str)) = false := by decide) : PE X (.Name x pos) (tC (.int i)) := by
  obtain ⟨t, h⟩ := h
  exact pe_glob hg h ⟨t, rfl⟩ hd
theorem c_len : CallR X (.builtin "len") (rLen X.K) := call_len_seq
theorem c_listOf : CallR X (.type "list") (rListOf X.K) := call_list_of
theorem c_max2 (hc : X.calm = true) : CallR X (.builtin "max") rMax2 := call_max2 hc
theorem c_min2 (hc : X.calm = true) : CallR X (.builtin "min") rMin2 := call_min2 hc
theorem c_int1 : CallR X (.type "int") rInt1 := call_int1
theorem op_isN_ : OpR X (compareOp .Is) rIsN := op_isN
theorem op_notN_ : OpR X (compareOp .IsNot) rNotN := op_notN
theorem c_listD (hc : X.calm = true) : CallR X (.type "list") rListD := call_list_dK hc
def rDictP (K : PySem.W.Frag) : List V → Hp → VK → Prop := fun xs H Q => ∃ (a : Addr) (ps : List Addr) (kvs : List (Key × V)), xs = [.ref a] ∧ SqL K H a (ps.map V.ref) ∧ Paired (fun p kv => SqT K H p [kV kv.1, kv.2]) ps kvs ∧ ∀ p, H p = none → Q (.ref p) (upd H p (.dK (mergeK [] kvs)))
theorem c_dictP (hc : X.calm = true) : CallR X (.type "dict") (rDictP X.K) := call_dictP hc
end
section
variable {X : Cx} {K : PySem.W.Frag} {e a b o : Expr} {es : List Expr} {te ta tb : TE} {t : TA} {pos apos cpos p : Pos} {tg : Expr}
theorem kxT (h : X.K = K) : IxR X (rIxT K) := by subst h; exact ix_tup
theorem kxL (h : X.K = K) : IxR X (rIxL K) := by subst h; exact ix_list
theorem kSl (h : X.K = K) : SlR X (rSlL K) := by subst h; exact sl_list
theorem kLen (h : X.K = K) : CallR X (.builtin "len") (rLen K) := by subst h; exact call_len_seq
theorem kListOf (h : X.K = K) : CallR X (.type "list") (rListOf K) := by subst h; exact call_list_of
theorem kSum (h : X.K = K) (hc : X.calm = true) : CallR X (.builtin "sum") (rSum K) := by subst h; exact cr_sum hc
theorem kAny (h : X.K = K) (hc : X.calm = true) : CallR X (.builtin "any") (rAny K) := by subst h; exact cr_any hc
theorem kMax (h : X.K = K) (hc : X.calm = true) : CallR X (.builtin "max") (rMax K) := by subst h; exact cr_max hc
theorem kSortedI (h : X.K = K) : CallR X (.builtin "sorted") (rSortedI K) := by subst h; exact cr_sortedI
theorem kSortedPO (h : X.K = K) : CallR X (.builtin "sorted") (rSortedPO K) := by subst h; exact cr_sortedPO
theorem kSortedRev {b : Bool} (h : X.K = K) : CallRK X (.builtin "sorted") [Str.ofString "reverse"] (rSortedKw K b [.bl b]) := by subst h; exact cr_sortedRev
theorem kDictP (h : X.K = K) (hc : X.calm = true) : CallR X (.type "dict") (rDictP K) := by subst h; exact c_dictP hc
theorem kEqD (h : X.K = K) (hu : X.A.units + 64 < cLine) : OpR X (compareOp .Eq) (rEqD K) := by subst h; exact op_eqD hu
theorem kNeD (h : X.K = K) (hu : X.A.units + 64 < cLine) : OpR X (compareOp .NotEq) (rNeD K) := by subst h; exact op_neD hu
theorem kIn (h : X.K = K) : OpR X (compareOp .In) (rIn K false) := by subst h; exact op_in_seq
theorem kNotIn (h : X.K = K) : OpR X (compareOp .NotIn) (rIn K true) := by subst h; exact op_notIn_seq
theorem kIndex (h : X.K = K) : MtR X "list.index" (rIndex K) := by subst h; exact mt_index
theorem kCount (h : X.K = K) : MtR X "list.count" (rCntI K) := by subst h; exact mt_lcount
theorem pe_fldK {f : Str} (h : X.K = K) (he : PE X e ta) (hb : attributeBase e f X.env (eval e X.env) = eval e X.env := by rfl) : PE X (.Attribute e f pos) (tFld K ta f) := by subst h; exact pe_fld he hb
theorem pi_listK (h : X.K = K) (hl : PE X e te) : PI X tg e (iList K te) := by subst h; exact pi_list hl
theorem pg_tupK {es : List Expr} {k : Nat} {t : TGs} {n : Nat} (hK : X.K = K) (hc : X.calm = true) (h : PGs X es t)
    (hn : (assignEach es X.env).length = n := by rfl) (hst : (assignEach es X.env).findIdx? (·.1) = none := by rfl) : PG X (.Tuple es k pos) (gTup K n t) := by subst hK; exact pg_tup hc h hn hst
theorem pe_bmK {T id : String} {name : Str} {r : V → List V → Hp → VK → Prop} (hK : X.K = K) (pa : PlainAttrs T) (slot : Slot T name id) (hty : typeOf (.builtin id) = pure (.type "method_descriptor")) (hm : MtR X id r) (ho : PE X o te) (ha : PA X (e :: es) t)
    (hbase : attributeBase o name X.env (eval o X.env) = eval o X.env := by rfl)
    (hfew : ((backTo cpos (starEach (e :: es) X.env)).all (fun x => !x.1) && (backToKw cpos (keywordEach [] X.env)).all (fun x => x.1.isSome)
      && decide ((e :: es).length + ([] : List Keyword).length + (if ([] : List Keyword).isEmpty then 0 else 1) < 30)) = true := by rfl)
    (hline : (apos.endLine == cpos.line) = true := by rfl) (hs : starEach (e :: es) X.env = (false, eval e X.env) :: starEach es X.env := by rfl) (hplain : (backTo cpos (starEach es X.env)).any (·.1) = false := by rfl) :
    PE X (.Call (.Attribute o name apos) (e :: es) [] cpos) (tBM K T r te t) := by subst hK; exact pe_bm pa slot hty hm ho ha hbase hfew hline hs hplain
theorem pe_bm0K_ {T id : String} {name : Str} {r : V → List V → Hp → VK → Prop} (hK : X.K = K) (pa : PlainAttrs T) (slot : Slot T name id) (hty : typeOf (.builtin id) = pure (.type "method_descriptor")) (hm : MtR X id r) (ho : PE X o te)
    (hbase : attributeBase o name X.env (eval o X.env) = eval o X.env := by rfl) (hline : (apos.endLine == cpos.line) = true := by rfl) : PE X (.Call (.Attribute o name apos) [] [] cpos) (tBM0 K T r te) := by subst hK; exact pe_bm0 pa slot hty hm ho hbase hline
theorem pi_enumK {elts : List Expr} {kk : Nat} {tpos : Pos} (hK : X.K = K) (hg : Gl X "enumerate") (hm : X.mg "enumerate" = none) (ha : PA X [e] t) (hs : starEach [e] X.env = [(false, eval e X.env)] := by rfl) :
    PI X (.Tuple elts kk tpos) (.Call (.Name "enumerate" p) [e] [] pos) (iEnum K t) := by subst hK; exact pi_enum hg hm ha hs
end
section
variable {P : Program} {w : World} {K : PySem.W.Frag} {mg : Str → Option Value} {base : Heap}
/-- a class that may be made; a method that may be called -/
structure Mak (P : Program) (w : World) (K : PySem.W.Frag) (mg : Str → Option Value) (base : Heap) (k : Nat) (x : Str) (C : Addr) (ps : List Str) (sp : Sp) : Prop where
  ex : ∃ f fd, mg x = some (.ref C) ∧ Mk K C f ∧ Binds K fd ps [] ∧ FnOk P w K mg base CX0 k f fd ps sp
theorem pe_mk {X : Cx} {k : Nat} {x : Str} {C : Addr} {ps : List Str} {sp : Sp} {p pos : Pos} {e : Expr} {es : List Expr} {t : TA} (M : Mak X.prog X.w X.K X.mg X.base k x C ps sp) (hr : Room (k + 1) X.A) (hg : Gl X x) (ha : PA X (e :: es) t)
    (hd : (x == ("__debug__" : Str)) = false := by decide) (he : starEach (e :: es) X.env = (false, eval e X.env) :: starEach es X.env := by rfl) (hpl : (backTo pos (starEach es X.env)).any (·.1) = false := by rfl) : PE X (.Call (.Name x p) (e :: es) [] pos) (tMake C sp [] E0 t) := by
  obtain ⟨f, fd, h1, h2, h3, h4⟩ := M.ex
  exact pe_make h2 h4 hr hg h1 h3 .nil pass0 ha (hdb := hd) (he := he) (hpl := hpl)
structure Mth (P : Program) (w : World) (K : PySem.W.Frag) (mg : Str → Option Value) (base : Heap) (k : Nat) (C : Addr) (m : Str) (ps : List Str) (sp : Sp) : Prop where
  ex : ∃ f fd, Meth K C m f ∧ Binds K fd ps [] ∧ FnOk P w K mg base CX0 k f fd ps sp
theorem pe_mth {X : Cx} {k : Nat} {C : Addr} {m : Str} {ps : List Str} {sp : Sp} {pos apos : Pos} {o e : Expr} {es : List Expr} {ta : TE} {t : TA} {pl : Sem Bool} (c : Cls X.K C) (M : Mth X.prog X.w X.K X.mg X.base k C m ps sp) (hr : Room k X.A) (he : PE X o ta) (ha : PA X (e :: es) t)
    (hst : starEach (e :: es) X.env = (false, eval e X.env) :: starEach es X.env := by rfl) (hpl : (backTo pos (starEach es X.env)).any (·.1) = false := by rfl)
    (ht : eval (.Call (.Attribute o m apos) (e :: es) [] pos) X.env = (do
      let ov ← eval o X.env
      standAt apos.atName
      let (f, first) ← holding [ov] (getMethod ov m pl)
      callWith pos f first (backTo pos (starEach (e :: es) X.env)) (backToKw pos (keywordEach [] X.env))) := by rfl) : PE X (.Call (.Attribute o m apos) (e :: es) [] pos) (tMeth C m sp [] E0 ta t) := by
  obtain ⟨f, fd, h1, h2, h3⟩ := M.ex
  exact pe_meth he c h1 h3 hr h2 .nil pass0 ha (hst := hst) (hpl := hpl) (ht := ht)
theorem pe_mth0 {X : Cx} {k : Nat} {C : Addr} {m : Str} {ps : List Str} {sp : Sp} {pos apos : Pos} {o : Expr} {ta : TE} {pl : Sem Bool} (c : Cls X.K C) (M : Mth X.prog X.w X.K X.mg X.base k C m ps sp) (hr : Room k X.A) (he : PE X o ta)
    (ht : eval (.Call (.Attribute o m apos) [] [] pos) X.env = (do
      let ov ← eval o X.env
      standAt apos.atName
      let (f, first) ← holding [ov] (getMethod ov m pl)
      callWith pos f first (backTo pos (starEach [] X.env)) (backToKw pos (keywordEach [] X.env))) := by rfl) : PE X (.Call (.Attribute o m apos) [] [] pos) (tMeth C m sp [] E0 ta tNil) := by
  obtain ⟨f, fd, h1, h2, h3⟩ := M.ex
  exact pe_meth0 he c h1 h3 hr h2 .nil pass0 (ht := ht)
end
end MW

/-! ME -/
set_option Elab.async false
set_option linter.all false
set_option maxRecDepth 100000
set_option maxHeartbeats 4000000
namespace MW
open PySem PySem.Spec L2
/-! ### rows, works -/
inductive Rw where
  | mesh (c : Int) (u o : Nat)
  | crush (t : Nat)
  | bin (n : Int)
  deriving DecidableEq
@[reducible] def rowD : Rw → PyData
  | .mesh c u o => .tuple [.str "mesh", .int c, .int u, .int o]
  | .crush t => .tuple [.str "crush", .int t]
  | .bin n => .tuple [.str "bin", .int n]
abbrev rowsD (rows : List Rw) : PyData := .list (rows.map rowD)
def Rw.ok (n : Nat) : Rw → Prop
  | .mesh c u o => 1 ≤ c ∧ c ≤ 10 ^ 60 ∧ u < n ∧ o < n
  | .crush t => t < n
  | .bin b => 0 ≤ b ∧ b ≤ 5
def Ws (K : PySem.W.Frag) (p : Int) (rows : List Rw) : Pr := fun H v => ∃ a dx r, v = .ref a ∧ H a = some (.ins (He.ga K "Works") dx [("parts", .int p), ("rows", .ref r)]) ∧ Dv H (rowsD rows) (.ref r)
theorem mono_Ws {K : PySem.W.Frag} {p : Int} {rows : List Rw} : Mono (Ws K p rows) := fun _ _ _ s ⟨a, dx, r, e, h, k⟩ => ⟨a, dx, r, e, s _ _ h, Dv.mono s _ _ k⟩
section
variable {R : Res} {G : Ctx} {K : PySem.W.Frag} {mg : Str → Option Value} {te : TE} {p : Int} {rows : List Rw}
theorem lk_parts {x y : V} : List.lookup ("parts" : Str) [(("parts" : Str), x), (("rows" : Str), y)] = some x := by simp [List.lookup]
theorem lk_rows {x y : V} : List.lookup ("rows" : Str) [(("parts" : Str), x), (("rows" : Str), y)] = some y := by
  have h : (("rows" : Str) == ("parts" : Str)) = false := by decide +kernel
  simp [List.lookup, h]
theorem y_parts (T : Tx K mg) (h : Y R te G (Ws K p rows)) : Y R (tFld K te "parts") G (D (.int p)) := fun H0 Hb H σ E rr s Q q => h H0 Hb H σ E rr s _ fun v Hb2 H2 g ⟨a, dx, r, e, h1, h2⟩ =>
  ⟨a, _, dx, _, _, e, g.in_ _ _ h1, T.cls_Works, T.no_Works_parts, lk_parts, q _ Hb2 H2 g rfl⟩
theorem y_rows (T : Tx K mg) (h : Y R te G (Ws K p rows)) : Y R (tFld K te "rows") G (D (rowsD rows)) := fun H0 Hb H σ E rr s Q q => h H0 Hb H σ E rr s _ fun v Hb2 H2 g ⟨a, dx, r, e, h1, h2⟩ =>
  ⟨a, _, dx, _, _, e, g.in_ _ _ h1, T.cls_Works, T.no_Works_rows, lk_rows, q _ Hb2 H2 g h2⟩
end
end MW

/-! F1 -/
set_option Elab.async false
set_option linter.all false
set_option maxRecDepth 100000
set_option maxHeartbeats 400000
namespace MW
open PySem PySem.Spec L2

theorem sx_mc : (Str.ofString "mesh" = Str.ofString "crush") = False := by simp; decide +kernel
theorem sx_mb : (Str.ofString "mesh" = Str.ofString "bin") = False := by simp; decide +kernel
theorem sx_cm : (Str.ofString "crush" = Str.ofString "mesh") = False := by simp; decide +kernel
theorem sx_cb : (Str.ofString "crush" = Str.ofString "bin") = False := by simp; decide +kernel
theorem sx_bm : (Str.ofString "bin" = Str.ofString "mesh") = False := by simp; decide +kernel
theorem sx_bc : (Str.ofString "bin" = Str.ofString "crush") = False := by simp; decide +kernel
theorem spP.len {As : List Pr} {P : Pr} {vs : List V} {H : Hp} {Q : VK} {E : XK} (h : spP As P vs H Q E) : vs.length = As.length := let ⟨_, _, a, _⟩ := h; a.length
section
variable {P : Program} {w : World} {K : PySem.W.Frag} {mg : Str → Option Value} {base : Heap}
def sp_good_row : Sp := fun vs H Q E => ∃ (r : Rw) (n : Nat), r.ok n ∧ spP [D (rowD r), D (.int n)] (D (.bool true)) vs H Q E
theorem ok_good_row (T : Tx K mg) : Cal P w K mg base 1 "good_row" ["row", "many"] sp_good_row := by
  obtain ⟨fd, F⟩ := T.c.def_ 0 (d := d_good_row) rfl
  refine ⟨_, fd, T.g_good_row, F.kp, FunD.bindsN (ps := ["row", "many"]) F fun _ _ _ _ _ _ us hl => match us, hl with | [_, _], _ => rfl, def_ok F sc_good_row ?_ fun cdv A outer s H vs Q E hr h => ?_⟩
  · intro vs H Q E h
    obtain ⟨_, _, _, h⟩ := h
    exact h.len
  · obtain ⟨r, n, ok, Hb, sm, ha, k⟩ := h
    have c := start_cur (N := N_good_row) (k := 0) sm ha (by repeat' (first | exact trivial | exact mono_D _ | exact mono_Ws | exact mono_Sc | refine ⟨?_, ?_⟩)) rfl
    refine ⟨_, (pss_cons (ps_if ((pw_and (pt_cmpR op_eq (pe_callB (kLen (K := K) rfl) (by rfl) T.len bb_len (pa_cons (pv 0) pa_nil)) pe_int (nomark _)) (pw_and1 (pt_cmpR op_eq (pe_ix (kxT (K := K) rfl) (pv 0) pe_int (fun _ _ => rfl)) pe_str (nomark _))))).pt
    (pss_one (ps_ret (pe_and (pe_chain op_le op_le pe_int (pe_ix (kxT (K := K) rfl) (pv 0) pe_int (fun _ _ => rfl)) (pe_mint T.WIDEST (by rfl))) (pe_and (pe_chain op_le op_lt pe_int (pe_ix (kxT (K := K) rfl) (pv 0) pe_int (fun _ _ => rfl)) (pv 1)) (pe_one (pe_chain op_le op_lt pe_int (pe_ix (kxT (K := K) rfl) (pv 0) pe_int (fun _ _ => rfl)) (pv 1)))))))
    pss_nil)
  (pss_cons (ps_if ((pw_and (pt_cmpR op_eq (pe_callB (kLen (K := K) rfl) (by rfl) T.len bb_len (pa_cons (pv 0) pa_nil)) pe_int (nomark _)) (pw_and1 (pt_cmpR op_eq (pe_ix (kxT (K := K) rfl) (pv 0) pe_int (fun _ _ => rfl)) pe_str (nomark _))))).pt
    (pss_one (ps_ret (pe_chain op_le op_lt pe_int (pe_ix (kxT (K := K) rfl) (pv 0) pe_int (fun _ _ => rfl)) (pv 1))))
    pss_nil)
  (pss_one (ps_ret (pe_and (pe_cmpR op_eq (pe_callB (kLen (K := K) rfl) (by rfl) T.len bb_len (pa_cons (pv 0) pa_nil)) pe_int (nomark _)) (pe_and (pe_cmpR op_eq (pe_ix (kxT (K := K) rfl) (pv 0) pe_int (fun _ _ => rfl)) pe_str (nomark _)) (pe_one (pe_chain op_le op_le pe_int (pe_ix (kxT (K := K) rfl) (pv 0) pe_int (fun _ _ => rfl)) (pe_mint T.MOST_BIN (by rfl)))))))))), ?_⟩
    cases r with
    | mesh c0 u o =>
      obtain ⟨o1, o2, o3, o4⟩ := ok
      refine z_yes (by assumption) (yt_is (by (repeat' (first | with_reducible exact y_int | with_reducible exact y_str | (with_reducible show Y _ (tVar _) _ _; exact y_var rfl) | (with_reducible refine' y_eq _ _ _) | (with_reducible refine' y_ixT _ _ _) | with_reducible refine' y_ixL _ _ _ | with_reducible exact ya_nilD | with_reducible exact y_bl | with_reducible exact y_non | with_reducible exact yo_none | with_reducible exact yt_yes | with_reducible refine' yt_test _ | with_reducible refine' yt_B _ | with_reducible refine' yt_not _ | with_reducible refine' yt_and _ (fun _ => _) | with_reducible refine' yt_or _ (fun _ => _) | with_reducible refine' y_I0 _ _ | with_reducible refine' y_B0 _ _ | with_reducible refine' y_IC _ _ _ | with_reducible refine' y_parts (by assumption) _ | with_reducible refine' y_rows (by assumption) _ | with_reducible refine' ya_consD _ _ | with_reducible refine' y_tup _ (by simp) | with_reducible refine' y_lst _ (by simp) | (with_reducible show Y _ (tCB (rLen _) _) _ _; first | exact y_lenOwn rfl | exact y_lenSc (y_var rfl)) | with_reducible refine' y_len _ _ | with_reducible refine' y_ne _ _ _ | with_reducible refine' y_chain _ _ _ | with_reducible refine' y_andV _ (fun _ => _) | with_reducible refine' y_orV _ (fun _ => _) | with_reducible refine' y_isN _ | with_reducible refine' y_notN _ | exact rfl | (show _ = _; assumption) | exact atI_nat (by assumption) | (show CPow _ _; exact ⟨by decide, by decide, by decide⟩) | (show (0 : Int) < _; first | decide | omega) | (show CDiv _ _; exact ⟨by first | decide | omega, by first | decide | omega⟩) | (show CMul _ _; first | exact .inl ⟨by omega, by omega⟩ | exact .inr ⟨by omega, by omega⟩) ))) (by (first | rfl | (simp; done) | (simp only [sx_mc, sx_mb, sx_cm, sx_cb, sx_bm, sx_bc, decide_true, decide_false, Bool.and_true, Bool.true_and, Bool.not_true, Bool.not_false, Bool.and_false, Bool.false_and, Bool.or_false, Bool.or_true, decide_eq_true_eq, Bool.and_eq_true, decide_eq_false_iff_not]; first | done | omega) | (simp [sx_mc, sx_mb, sx_cm, sx_cb, sx_bm, sx_bc]; first | done | omega) | omega))) (fun _ _ => ?_)
      exact z_ret (by assumption) (y_is (by (repeat' (first | with_reducible exact y_int | with_reducible exact y_str | (with_reducible show Y _ (tVar _) _ _; exact y_var rfl) | (with_reducible refine' y_eq _ _ _) | (with_reducible refine' y_ixT _ _ _) | with_reducible refine' y_ixL _ _ _ | with_reducible exact ya_nilD | with_reducible exact y_bl | with_reducible exact y_non | with_reducible exact yo_none | with_reducible exact yt_yes | with_reducible refine' yt_test _ | with_reducible refine' yt_B _ | with_reducible refine' yt_not _ | with_reducible refine' yt_and _ (fun _ => _) | with_reducible refine' yt_or _ (fun _ => _) | with_reducible refine' y_I0 _ _ | with_reducible refine' y_B0 _ _ | with_reducible refine' y_IC _ _ _ | with_reducible refine' y_parts (by assumption) _ | with_reducible refine' y_rows (by assumption) _ | with_reducible refine' ya_consD _ _ | with_reducible refine' y_tup _ (by simp) | with_reducible refine' y_lst _ (by simp) | (with_reducible show Y _ (tCB (rLen _) _) _ _; first | exact y_lenOwn rfl | exact y_lenSc (y_var rfl)) | with_reducible refine' y_len _ _ | with_reducible refine' y_ne _ _ _ | with_reducible refine' y_chain _ _ _ | with_reducible refine' y_andV _ (fun _ => _) | with_reducible refine' y_orV _ (fun _ => _) | with_reducible refine' y_isN _ | with_reducible refine' y_notN _ | exact rfl | (show _ = _; assumption) | exact atI_nat (by assumption) | (show CPow _ _; exact ⟨by decide, by decide, by decide⟩) | (show (0 : Int) < _; first | decide | omega) | (show CDiv _ _; exact ⟨by first | decide | omega, by first | decide | omega⟩) | (show CMul _ _; first | exact .inl ⟨by omega, by omega⟩ | exact .inr ⟨by omega, by omega⟩) ))) (by (congr 1; (first | rfl | (simp; done) | (simp only [sx_mc, sx_mb, sx_cm, sx_cb, sx_bm, sx_bc, decide_true, decide_false, Bool.and_true, Bool.true_and, Bool.not_true, Bool.not_false, Bool.and_false, Bool.false_and, Bool.or_false, Bool.or_true, decide_eq_true_eq, Bool.and_eq_true, decide_eq_false_iff_not]; first | done | omega) | (simp [sx_mc, sx_mb, sx_cm, sx_cb, sx_bm, sx_bc]; first | done | omega) | omega)))) k
    | crush t =>
      have ok' : t < n := ok
      refine z_no (by assumption) (yt_is (by (repeat' (first | with_reducible exact y_int | with_reducible exact y_str | (with_reducible show Y _ (tVar _) _ _; exact y_var rfl) | (with_reducible refine' y_eq _ _ _) | (with_reducible refine' y_ixT _ _ _) | with_reducible refine' y_ixL _ _ _ | with_reducible exact ya_nilD | with_reducible exact y_bl | with_reducible exact y_non | with_reducible exact yo_none | with_reducible exact yt_yes | with_reducible refine' yt_test _ | with_reducible refine' yt_B _ | with_reducible refine' yt_not _ | with_reducible refine' yt_and _ (fun _ => _) | with_reducible refine' yt_or _ (fun _ => _) | with_reducible refine' y_I0 _ _ | with_reducible refine' y_B0 _ _ | with_reducible refine' y_IC _ _ _ | with_reducible refine' y_parts (by assumption) _ | with_reducible refine' y_rows (by assumption) _ | with_reducible refine' ya_consD _ _ | with_reducible refine' y_tup _ (by simp) | with_reducible refine' y_lst _ (by simp) | (with_reducible show Y _ (tCB (rLen _) _) _ _; first | exact y_lenOwn rfl | exact y_lenSc (y_var rfl)) | with_reducible refine' y_len _ _ | with_reducible refine' y_ne _ _ _ | with_reducible refine' y_chain _ _ _ | with_reducible refine' y_andV _ (fun _ => _) | with_reducible refine' y_orV _ (fun _ => _) | with_reducible refine' y_isN _ | with_reducible refine' y_notN _ | exact rfl | (show _ = _; assumption) | exact atI_nat (by assumption) | (show CPow _ _; exact ⟨by decide, by decide, by decide⟩) | (show (0 : Int) < _; first | decide | omega) | (show CDiv _ _; exact ⟨by first | decide | omega, by first | decide | omega⟩) | (show CMul _ _; first | exact .inl ⟨by omega, by omega⟩ | exact .inr ⟨by omega, by omega⟩) ))) (by (first | rfl | (simp; done) | (simp only [sx_mc, sx_mb, sx_cm, sx_cb, sx_bm, sx_bc, decide_true, decide_false, Bool.and_true, Bool.true_and, Bool.not_true, Bool.not_false, Bool.and_false, Bool.false_and, Bool.or_false, Bool.or_true, decide_eq_true_eq, Bool.and_eq_true, decide_eq_false_iff_not]; first | done | omega) | (simp [sx_mc, sx_mb, sx_cm, sx_cb, sx_bm, sx_bc]; first | done | omega) | omega))) (fun _ _ => ?_)
      refine z_yes (by assumption) (yt_is (by (repeat' (first | with_reducible exact y_int | with_reducible exact y_str | (with_reducible show Y _ (tVar _) _ _; exact y_var rfl) | (with_reducible refine' y_eq _ _ _) | (with_reducible refine' y_ixT _ _ _) | with_reducible refine' y_ixL _ _ _ | with_reducible exact ya_nilD | with_reducible exact y_bl | with_reducible exact y_non | with_reducible exact yo_none | with_reducible exact yt_yes | with_reducible refine' yt_test _ | with_reducible refine' yt_B _ | with_reducible refine' yt_not _ | with_reducible refine' yt_and _ (fun _ => _) | with_reducible refine' yt_or _ (fun _ => _) | with_reducible refine' y_I0 _ _ | with_reducible refine' y_B0 _ _ | with_reducible refine' y_IC _ _ _ | with_reducible refine' y_parts (by assumption) _ | with_reducible refine' y_rows (by assumption) _ | with_reducible refine' ya_consD _ _ | with_reducible refine' y_tup _ (by simp) | with_reducible refine' y_lst _ (by simp) | (with_reducible show Y _ (tCB (rLen _) _) _ _; first | exact y_lenOwn rfl | exact y_lenSc (y_var rfl)) | with_reducible refine' y_len _ _ | with_reducible refine' y_ne _ _ _ | with_reducible refine' y_chain _ _ _ | with_reducible refine' y_andV _ (fun _ => _) | with_reducible refine' y_orV _ (fun _ => _) | with_reducible refine' y_isN _ | with_reducible refine' y_notN _ | exact rfl | (show _ = _; assumption) | exact atI_nat (by assumption) | (show CPow _ _; exact ⟨by decide, by decide, by decide⟩) | (show (0 : Int) < _; first | decide | omega) | (show CDiv _ _; exact ⟨by first | decide | omega, by first | decide | omega⟩) | (show CMul _ _; first | exact .inl ⟨by omega, by omega⟩ | exact .inr ⟨by omega, by omega⟩) ))) (by (first | rfl | (simp; done) | (simp only [sx_mc, sx_mb, sx_cm, sx_cb, sx_bm, sx_bc, decide_true, decide_false, Bool.and_true, Bool.true_and, Bool.not_true, Bool.not_false, Bool.and_false, Bool.false_and, Bool.or_false, Bool.or_true, decide_eq_true_eq, Bool.and_eq_true, decide_eq_false_iff_not]; first | done | omega) | (simp [sx_mc, sx_mb, sx_cm, sx_cb, sx_bm, sx_bc]; first | done | omega) | omega))) (fun _ _ => ?_)
      exact z_ret (by assumption) (y_is (by (repeat' (first | with_reducible exact y_int | with_reducible exact y_str | (with_reducible show Y _ (tVar _) _ _; exact y_var rfl) | (with_reducible refine' y_eq _ _ _) | (with_reducible refine' y_ixT _ _ _) | with_reducible refine' y_ixL _ _ _ | with_reducible exact ya_nilD | with_reducible exact y_bl | with_reducible exact y_non | with_reducible exact yo_none | with_reducible exact yt_yes | with_reducible refine' yt_test _ | with_reducible refine' yt_B _ | with_reducible refine' yt_not _ | with_reducible refine' yt_and _ (fun _ => _) | with_reducible refine' yt_or _ (fun _ => _) | with_reducible refine' y_I0 _ _ | with_reducible refine' y_B0 _ _ | with_reducible refine' y_IC _ _ _ | with_reducible refine' y_parts (by assumption) _ | with_reducible refine' y_rows (by assumption) _ | with_reducible refine' ya_consD _ _ | with_reducible refine' y_tup _ (by simp) | with_reducible refine' y_lst _ (by simp) | (with_reducible show Y _ (tCB (rLen _) _) _ _; first | exact y_lenOwn rfl | exact y_lenSc (y_var rfl)) | with_reducible refine' y_len _ _ | with_reducible refine' y_ne _ _ _ | with_reducible refine' y_chain _ _ _ | with_reducible refine' y_andV _ (fun _ => _) | with_reducible refine' y_orV _ (fun _ => _) | with_reducible refine' y_isN _ | with_reducible refine' y_notN _ | exact rfl | (show _ = _; assumption) | exact atI_nat (by assumption) | (show CPow _ _; exact ⟨by decide, by decide, by decide⟩) | (show (0 : Int) < _; first | decide | omega) | (show CDiv _ _; exact ⟨by first | decide | omega, by first | decide | omega⟩) | (show CMul _ _; first | exact .inl ⟨by omega, by omega⟩ | exact .inr ⟨by omega, by omega⟩) ))) (by (congr 1; (first | rfl | (simp; done) | (simp only [sx_mc, sx_mb, sx_cm, sx_cb, sx_bm, sx_bc, decide_true, decide_false, Bool.and_true, Bool.true_and, Bool.not_true, Bool.not_false, Bool.and_false, Bool.false_and, Bool.or_false, Bool.or_true, decide_eq_true_eq, Bool.and_eq_true, decide_eq_false_iff_not]; first | done | omega) | (simp [sx_mc, sx_mb, sx_cm, sx_cb, sx_bm, sx_bc]; first | done | omega) | omega)))) k
    | bin b =>
      obtain ⟨o1, o2⟩ := ok
      refine z_no (by assumption) (yt_is (by (repeat' (first | with_reducible exact y_int | with_reducible exact y_str | (with_reducible show Y _ (tVar _) _ _; exact y_var rfl) | (with_reducible refine' y_eq _ _ _) | (with_reducible refine' y_ixT _ _ _) | with_reducible refine' y_ixL _ _ _ | with_reducible exact ya_nilD | with_reducible exact y_bl | with_reducible exact y_non | with_reducible exact yo_none | with_reducible exact yt_yes | with_reducible refine' yt_test _ | with_reducible refine' yt_B _ | with_reducible refine' yt_not _ | with_reducible refine' yt_and _ (fun _ => _) | with_reducible refine' yt_or _ (fun _ => _) | with_reducible refine' y_I0 _ _ | with_reducible refine' y_B0 _ _ | with_reducible refine' y_IC _ _ _ | with_reducible refine' y_parts (by assumption) _ | with_reducible refine' y_rows (by assumption) _ | with_reducible refine' ya_consD _ _ | with_reducible refine' y_tup _ (by simp) | with_reducible refine' y_lst _ (by simp) | (with_reducible show Y _ (tCB (rLen _) _) _ _; first | exact y_lenOwn rfl | exact y_lenSc (y_var rfl)) | with_reducible refine' y_len _ _ | with_reducible refine' y_ne _ _ _ | with_reducible refine' y_chain _ _ _ | with_reducible refine' y_andV _ (fun _ => _) | with_reducible refine' y_orV _ (fun _ => _) | with_reducible refine' y_isN _ | with_reducible refine' y_notN _ | exact rfl | (show _ = _; assumption) | exact atI_nat (by assumption) | (show CPow _ _; exact ⟨by decide, by decide, by decide⟩) | (show (0 : Int) < _; first | decide | omega) | (show CDiv _ _; exact ⟨by first | decide | omega, by first | decide | omega⟩) | (show CMul _ _; first | exact .inl ⟨by omega, by omega⟩ | exact .inr ⟨by omega, by omega⟩) ))) (by (first | rfl | (simp; done) | (simp only [sx_mc, sx_mb, sx_cm, sx_cb, sx_bm, sx_bc, decide_true, decide_false, Bool.and_true, Bool.true_and, Bool.not_true, Bool.not_false, Bool.and_false, Bool.false_and, Bool.or_false, Bool.or_true, decide_eq_true_eq, Bool.and_eq_true, decide_eq_false_iff_not]; first | done | omega) | (simp [sx_mc, sx_mb, sx_cm, sx_cb, sx_bm, sx_bc]; first | done | omega) | omega))) (fun _ _ => ?_)
      refine z_no (by assumption) (yt_is (by (repeat' (first | with_reducible exact y_int | with_reducible exact y_str | (with_reducible show Y _ (tVar _) _ _; exact y_var rfl) | (with_reducible refine' y_eq _ _ _) | (with_reducible refine' y_ixT _ _ _) | with_reducible refine' y_ixL _ _ _ | with_reducible exact ya_nilD | with_reducible exact y_bl | with_reducible exact y_non | with_reducible exact yo_none | with_reducible exact yt_yes | with_reducible refine' yt_test _ | with_reducible refine' yt_B _ | with_reducible refine' yt_not _ | with_reducible refine' yt_and _ (fun _ => _) | with_reducible refine' yt_or _ (fun _ => _) | with_reducible refine' y_I0 _ _ | with_reducible refine' y_B0 _ _ | with_reducible refine' y_IC _ _ _ | with_reducible refine' y_parts (by assumption) _ | with_reducible refine' y_rows (by assumption) _ | with_reducible refine' ya_consD _ _ | with_reducible refine' y_tup _ (by simp) | with_reducible refine' y_lst _ (by simp) | (with_reducible show Y _ (tCB (rLen _) _) _ _; first | exact y_lenOwn rfl | exact y_lenSc (y_var rfl)) | with_reducible refine' y_len _ _ | with_reducible refine' y_ne _ _ _ | with_reducible refine' y_chain _ _ _ | with_reducible refine' y_andV _ (fun _ => _) | with_reducible refine' y_orV _ (fun _ => _) | with_reducible refine' y_isN _ | with_reducible refine' y_notN _ | exact rfl | (show _ = _; assumption) | exact atI_nat (by assumption) | (show CPow _ _; exact ⟨by decide, by decide, by decide⟩) | (show (0 : Int) < _; first | decide | omega) | (show CDiv _ _; exact ⟨by first | decide | omega, by first | decide | omega⟩) | (show CMul _ _; first | exact .inl ⟨by omega, by omega⟩ | exact .inr ⟨by omega, by omega⟩) ))) (by (first | rfl | (simp; done) | (simp only [sx_mc, sx_mb, sx_cm, sx_cb, sx_bm, sx_bc, decide_true, decide_false, Bool.and_true, Bool.true_and, Bool.not_true, Bool.not_false, Bool.and_false, Bool.false_and, Bool.or_false, Bool.or_true, decide_eq_true_eq, Bool.and_eq_true, decide_eq_false_iff_not]; first | done | omega) | (simp [sx_mc, sx_mb, sx_cm, sx_cb, sx_bm, sx_bc]; first | done | omega) | omega))) (fun _ _ => ?_)
      exact z_ret (by assumption) (y_is (by (repeat' (first | with_reducible exact y_int | with_reducible exact y_str | (with_reducible show Y _ (tVar _) _ _; exact y_var rfl) | (with_reducible refine' y_eq _ _ _) | (with_reducible refine' y_ixT _ _ _) | with_reducible refine' y_ixL _ _ _ | with_reducible exact ya_nilD | with_reducible exact y_bl | with_reducible exact y_non | with_reducible exact yo_none | with_reducible exact yt_yes | with_reducible refine' yt_test _ | with_reducible refine' yt_B _ | with_reducible refine' yt_not _ | with_reducible refine' yt_and _ (fun _ => _) | with_reducible refine' yt_or _ (fun _ => _) | with_reducible refine' y_I0 _ _ | with_reducible refine' y_B0 _ _ | with_reducible refine' y_IC _ _ _ | with_reducible refine' y_parts (by assumption) _ | with_reducible refine' y_rows (by assumption) _ | with_reducible refine' ya_consD _ _ | with_reducible refine' y_tup _ (by simp) | with_reducible refine' y_lst _ (by simp) | (with_reducible show Y _ (tCB (rLen _) _) _ _; first | exact y_lenOwn rfl | exact y_lenSc (y_var rfl)) | with_reducible refine' y_len _ _ | with_reducible refine' y_ne _ _ _ | with_reducible refine' y_chain _ _ _ | with_reducible refine' y_andV _ (fun _ => _) | with_reducible refine' y_orV _ (fun _ => _) | with_reducible refine' y_isN _ | with_reducible refine' y_notN _ | exact rfl | (show _ = _; assumption) | exact atI_nat (by assumption) | (show CPow _ _; exact ⟨by decide, by decide, by decide⟩) | (show (0 : Int) < _; first | decide | omega) | (show CDiv _ _; exact ⟨by first | decide | omega, by first | decide | omega⟩) | (show CMul _ _; first | exact .inl ⟨by omega, by omega⟩ | exact .inr ⟨by omega, by omega⟩) ))) (by (congr 1; (first | rfl | (simp; done) | (simp only [sx_mc, sx_mb, sx_cm, sx_cb, sx_bm, sx_bc, decide_true, decide_false, Bool.and_true, Bool.true_and, Bool.not_true, Bool.not_false, Bool.and_false, Bool.false_and, Bool.or_false, Bool.or_true, decide_eq_true_eq, Bool.and_eq_true, decide_eq_false_iff_not]; first | done | omega) | (simp [sx_mc, sx_mb, sx_cm, sx_cb, sx_bm, sx_bc]; first | done | omega) | omega)))) k
end
end MW

/-! F2a -/
set_option Elab.async false
set_option linter.all false
set_option maxRecDepth 100000
set_option maxHeartbeats 400000
namespace MW
open PySem PySem.Spec L2

/-! ### grains going on -/
abbrev pairD (q : Int × Int) : PyData := .tuple [.int q.1, .int q.2]
def pieces (s p : Int) : List (Int × Int) := [(s / p, p - s % p), (s / p + 1, s % p)].filter fun q => decide (0 < q.1 * q.2)
abbrev tripD (q : Nat × Int × Int) : PyData := .tuple [.int q.1, .int q.2.1, .int q.2.2]
def goesR (p : Int) (row : Rw) (s : Int) : List (Nat × Int × Int) := match row with
  | .bin _ => []
  | .crush t => (pieces s p).map fun q => (t, q.1, q.2)
  | .mesh c u o => if s ≤ c then [(u, s, 1)] else [(o, s, 1)]
def wholeR (row : Rw) (s : Int) : Option Nat := match row with
  | .bin _ => none
  | .crush t => if s = 1 then some t else none
  | .mesh c u o => if s ≤ c then some u else some o
abbrev optD (o : Option Nat) : PyData := match o with
  | none => .none
  | some r => .int r
theorem pieces_cases {s p : Int} (hs : 1 ≤ s) (h1 : 2 ≤ p) (h2 : p ≤ 9) : (s % p = 0 ∧ 1 ≤ s / p ∧ s / p < s ∧ pieces s p = [(s / p, p)]) ∨ (s < p ∧ s / p = 0 ∧ pieces s p = [(1, s)]) ∨ (1 ≤ s / p ∧ s / p + 1 < s ∧ 0 < s % p ∧ s % p < p ∧ pieces s p = [(s / p, p - s % p), (s / p + 1, s % p)]) := by
  have e := Int.mul_ediv_add_emod s p
  have l1 : 0 ≤ s % p := Int.emod_nonneg s (by omega)
  have l2 : s % p < p := Int.emod_lt_of_pos s (by omega)
  have l3 : 0 ≤ s / p := Int.ediv_nonneg (by omega) (by omega)
  have cut : p = 2 ∨ p = 3 ∨ p = 4 ∨ p = 5 ∨ p = 6 ∨ p = 7 ∨ p = 8 ∨ p = 9 := by omega
  have lt : 1 ≤ s / p → s / p < s ∧ (0 < s % p → s / p + 1 < s) := fun h => by
    rcases cut with rfl | rfl | rfl | rfl | rfl | rfl | rfl | rfl <;> constructor <;> omega
  unfold pieces
  by_cases z : s % p = 0
  · left
    have q1 : 1 ≤ s / p := by
      rcases cut with rfl | rfl | rfl | rfl | rfl | rfl | rfl | rfl <;> omega
    refine ⟨z, q1, (lt q1).1, ?_⟩
    have a : 0 < s / p * (p - 0) := Int.mul_pos (by omega) (by omega)
    have a' : 0 < s / p * p := by rw [Int.sub_zero] at a; exact a
    rw [z]
    simp [List.filter_cons, a']
  · right
    by_cases y : s / p = 0
    · left
      have ep : s = s % p := by rw [y, Int.mul_zero] at e; omega
      refine ⟨by omega, y, ?_⟩
      rw [y, ← ep]
      have a : 0 < s := by omega
      simp [List.filter_cons, a]
    · right
      have q1 : 1 ≤ s / p := by omega
      refine ⟨q1, (lt q1).2 (by omega), by omega, l2, ?_⟩
      have a : 0 < s / p * (p - s % p) := Int.mul_pos (by omega) (by omega)
      have b : 0 < (s / p + 1) * (s % p) := Int.mul_pos (by omega) (by omega)
      simp only [List.filter_cons, List.filter_nil, decide_eq_true a, decide_eq_true b, if_true]
end MW

/-! F2b -/
set_option Elab.async false
set_option linter.all false
set_option maxRecDepth 100000
set_option maxHeartbeats 400000
namespace MW
open PySem PySem.Spec L2

section
variable {P : Program} {w : World} {K : PySem.W.Frag} {mg : Str → Option Value} {base : Heap}
def sp_pieces_of : Sp := fun vs H Q E => ∃ (s p : Int), (2 ≤ p ∧ p ≤ 9) ∧ spP [D (.int s), D (.int p)] (D (.list ((pieces s p).map pairD))) vs H Q E
theorem ok_pieces_of (T : Tx K mg) : Cal P w K mg base 1 "pieces_of" ["size", "parts"] sp_pieces_of := by
  obtain ⟨fd, F⟩ := T.c.def_ 2 (d := d_pieces_of) rfl
  refine ⟨_, fd, T.g_pieces_of, F.kp, FunD.bindsN (ps := ["size", "parts"]) F fun _ _ _ _ _ _ us hl => match us, hl with | [_, _], _ => rfl, def_ok F sc_pieces_of ?_ fun cdv A outer s H vs Q E hr h => ?_⟩
  · intro vs H Q E h
    obtain ⟨_, _, _, h⟩ := h
    exact h.len
  · obtain ⟨s, p, hp, Hb, sm, ha, k⟩ := h
    have c := start_cur (N := N_pieces_of) (k := 2) sm ha (by repeat' (first | exact trivial | exact mono_D _ | exact mono_Ws | exact mono_Sc | refine ⟨?_, ?_⟩)) rfl
    refine ⟨_, (pss_cons (ps_set (i := 2) sc_pieces_of.nd rfl (Or.inl rfl) (pe_lst (pa_cons (pe_tup (pa_cons (pe_op op_fdiv (pv 0) (pv 1)) (pa_cons (pe_op op_sub (pv 1) (pe_op op_mod (pv 0) (pv 1))) pa_nil))) (pa_cons (pe_tup (pa_cons (pe_op op_add (pe_op op_fdiv (pv 0) (pv 1)) pe_int) (pa_cons (pe_op op_mod (pv 0) (pv 1)) pa_nil))) pa_nil))))
  (pss_one (ps_ret (pe_lc (own := [("pair", 3)]) (g := (gName 3)) rfl sc_pieces_of.nd (pi_listK (K := K) rfl (pv 2)) (blkOk_by (own := [("pair", 3)]) (N := N_pieces_of) (sc := defScope s_pieces_of) (by decide +kernel)) (fun _ _ _ _ _ => (pg_name (i := 3) sc_pieces_of.nd rfl (Or.inl rfl))) (fun _ _ _ _ _ => (pts_one (pt_cmpR op_gt (pe_op op_mul (pe_ix (kxT (K := K) rfl) (pv 3) pe_int (fun _ _ => rfl)) (pe_ix (kxT (K := K) rfl) (pv 3) pe_int (fun _ _ => rfl))) pe_int (nomark _)))) (fun _ _ _ _ _ => (pv 3)))))), ?_⟩
    obtain ⟨hp1, hp2⟩ := hp
    have l1 : 0 ≤ s % p := Int.emod_nonneg s (by omega)
    have l2 : s % p < p := Int.emod_lt_of_pos s (by omega)
    refine q_asgD c (d := .list [pairD (s / p, p - s % p), pairD (s / p + 1, s % p)]) (by (repeat' (first | with_reducible exact y_int | with_reducible exact y_str | (with_reducible show Y _ (tVar _) _ _; exact y_var rfl) | (with_reducible refine' y_eq _ _ _) | (with_reducible refine' y_ixT _ _ _) | with_reducible refine' y_ixL _ _ _ | with_reducible exact ya_nilD | with_reducible exact y_bl | with_reducible exact y_non | with_reducible exact yo_none | with_reducible exact yt_yes | with_reducible refine' yt_test _ | with_reducible refine' yt_B _ | with_reducible refine' yt_not _ | with_reducible refine' yt_and _ (fun _ => _) | with_reducible refine' yt_or _ (fun _ => _) | with_reducible refine' y_I0 _ _ | with_reducible refine' y_B0 _ _ | with_reducible refine' y_IC _ _ _ | with_reducible refine' y_parts (by assumption) _ | with_reducible refine' y_rows (by assumption) _ | with_reducible refine' ya_consD _ _ | with_reducible refine' y_tup _ (by simp) | with_reducible refine' y_lst _ (by simp) | (with_reducible show Y _ (tCB (rLen _) _) _ _; first | exact y_lenOwn rfl | exact y_lenSc (y_var rfl)) | with_reducible refine' y_len _ _ | with_reducible refine' y_ne _ _ _ | with_reducible refine' y_chain _ _ _ | with_reducible refine' y_andV _ (fun _ => _) | with_reducible refine' y_orV _ (fun _ => _) | with_reducible refine' y_isN _ | with_reducible refine' y_notN _ | exact rfl | (show _ = _; assumption) | exact atI_nat (by assumption) | (show CPow _ _; exact ⟨by decide, by decide, by decide⟩) | (show (0 : Int) < _; first | decide | omega) | (show CDiv _ _; exact ⟨by first | decide | omega, by first | decide | omega⟩) | (show CMul _ _; first | exact .inl ⟨by omega, by omega⟩ | exact .inr ⟨by omega, by omega⟩) ))) fun σ' H' c => ?_
    refine z_ret c (y_lcL (xs := [(s / p, p - s % p), (s / p + 1, s % p)]) (enc := pairD) (e := pairD) (b := fun q => decide (0 < q.1 * q.2)) (fun q => [.p (D (.int s)), .p (D (.int p)), .p (D (.list ([(s / p, p - s % p), (s / p + 1, s % p)].map pairD))), .p (D (pairD q))]) (y_var rfl) (by simp) (fun x _ => yg_name) (fun x hx => ?_) (fun x _ _ => y_var rfl)) k
    refine yt_test (y_B0 (y_IC (y_ixT (y_var rfl) y_int rfl) (y_ixT (y_var rfl) y_int rfl) ?_) y_int)
    rcases List.mem_cons.mp hx with rfl | hx
    · exact .inr ⟨by show _ < p - s % p; omega, by show p - s % p < _; omega⟩
    · rcases List.mem_cons.mp hx with rfl | hx
      · exact .inr ⟨by show _ < s % p; omega, by show s % p < _; omega⟩
      · cases hx
end
end MW

/-! F2c -/
set_option Elab.async false
set_option linter.all false
set_option maxRecDepth 100000
set_option maxHeartbeats 400000
namespace MW
open PySem PySem.Spec L2

section
variable {P : Program} {w : World} {K : PySem.W.Frag} {mg : Str → Option Value} {base : Heap}
def sp_goes_on (K : PySem.W.Frag) : Sp := fun vs H Q E => ∃ (p : Int) (rows : List Rw) (r : Nat) (s : Int) (row : Rw), (2 ≤ p ∧ p ≤ 9 ∧ rows[r]? = some row) ∧ spP [Ws K p rows, D (.int r), D (.int s)] (D (.list ((goesR p row s).map tripD))) vs H Q E
theorem ok_goes_on (T : Tx K mg) : Cal P w K mg base 2 "goes_on" ["works", "row", "size"] (sp_goes_on K) := by
  have C_pieces_of := ok_pieces_of (P := P) (w := w) (base := base) T
  obtain ⟨fd, F⟩ := T.c.def_ 3 (d := d_goes_on) rfl
  refine ⟨_, fd, T.g_goes_on, F.kp, FunD.bindsN (ps := ["works", "row", "size"]) F fun _ _ _ _ _ _ us hl => match us, hl with | [_, _, _], _ => rfl, def_ok F sc_goes_on ?_ fun cdv A outer s H vs Q E hr h => ?_⟩
  · intro vs H Q E h
    obtain ⟨_, _, _, _, _, _, h⟩ := h
    exact h.len
  · obtain ⟨p, rows, r, s, row, hp, Hb, sm, ha, k⟩ := h
    have c := start_cur (N := N_goes_on) (k := 3) sm ha (by repeat' (first | exact trivial | exact mono_D _ | exact mono_Ws | exact mono_Sc | refine ⟨?_, ?_⟩)) rfl
    refine ⟨_, (pss_cons (ps_set (i := 3) sc_goes_on.nd rfl (Or.inr rfl) (pe_ix (kxL (K := K) rfl) (pe_fldK (K := K) rfl (pv 0) rfl) (pv 1) (fun _ _ => rfl)))
  (pss_cons (ps_if (pt_cmpR op_eq (pe_ix (kxT (K := K) rfl) (pv 3) pe_int (fun _ _ => rfl)) pe_str (nomark _))
    (pss_one (ps_ret (pe_lst pa_nil)))
    pss_nil)
  (pss_cons (ps_if (pt_cmpR op_eq (pe_ix (kxT (K := K) rfl) (pv 3) pe_int (fun _ _ => rfl)) pe_str (nomark _))
    (pss_one (ps_ret (pe_lc (own := [("piece", 4), ("many", 5)]) (g := (gTup K 2 (gCons (gName 4) (gCons (gName 5) gNil)))) rfl sc_goes_on.nd (pi_listK (K := K) rfl (pe_cal C_pieces_of (hr.mono (by decide)) (by rfl) (pa_cons (pv 2) (pa_cons (pe_fldK (K := K) rfl (pv 0) rfl) pa_nil)))) (blkOk_by (own := [("piece", 4), ("many", 5)]) (N := N_goes_on) (sc := defScope s_goes_on) (by decide +kernel)) (fun _ _ _ _ _ => (pg_tupK (K := K) rfl rfl (pgs_cons (pg_name (i := 4) sc_goes_on.nd rfl (Or.inl rfl)) (pgs_cons (pg_name (i := 5) sc_goes_on.nd rfl (Or.inl rfl)) pgs_nil)))) (fun _ _ _ _ _ => pts_nil) (fun _ _ _ _ _ => (pe_tup (pa_cons (pe_ix (kxT (K := K) rfl) (pv 3) pe_int (fun _ _ => rfl)) (pa_cons (pv 4) (pa_cons (pv 5) pa_nil))))))))
    pss_nil)
  (pss_cons (ps_if (pt_cmpR op_le (pv 2) (pe_ix (kxT (K := K) rfl) (pv 3) pe_int (fun _ _ => rfl)) (nomark _))
    (pss_one (ps_ret (pe_lst (pa_cons (pe_tup (pa_cons (pe_ix (kxT (K := K) rfl) (pv 3) pe_int (fun _ _ => rfl)) (pa_cons (pv 2) (pa_cons pe_int pa_nil)))) pa_nil))))
    pss_nil)
  (pss_one (ps_ret (pe_lst (pa_cons (pe_tup (pa_cons (pe_ix (kxT (K := K) rfl) (pv 3) pe_int (fun _ _ => rfl)) (pa_cons (pv 2) (pa_cons pe_int pa_nil)))) pa_nil)))))))), ?_⟩
    obtain ⟨hp1, hp2, hr0⟩ := hp
    refine q_asgD c (d := rowD row) (y_ixL (y_rows T (y_var rfl)) (y_var rfl) (atI_nat (by rw [List.getElem?_map, hr0]; rfl))) fun σ1 H1 c1 => ?_
    cases row with
    | bin b =>
      refine z_yes (by assumption) (yt_is (by (repeat' (first | with_reducible exact y_int | with_reducible exact y_str | (with_reducible show Y _ (tVar _) _ _; exact y_var rfl) | (with_reducible refine' y_eq _ _ _) | (with_reducible refine' y_ixT _ _ _) | with_reducible refine' y_ixL _ _ _ | with_reducible exact ya_nilD | with_reducible exact y_bl | with_reducible exact y_non | with_reducible exact yo_none | with_reducible exact yt_yes | with_reducible refine' yt_test _ | with_reducible refine' yt_B _ | with_reducible refine' yt_not _ | with_reducible refine' yt_and _ (fun _ => _) | with_reducible refine' yt_or _ (fun _ => _) | with_reducible refine' y_I0 _ _ | with_reducible refine' y_B0 _ _ | with_reducible refine' y_IC _ _ _ | with_reducible refine' y_parts (by assumption) _ | with_reducible refine' y_rows (by assumption) _ | with_reducible refine' ya_consD _ _ | with_reducible refine' y_tup _ (by simp) | with_reducible refine' y_lst _ (by simp) | (with_reducible show Y _ (tCB (rLen _) _) _ _; first | exact y_lenOwn rfl | exact y_lenSc (y_var rfl)) | with_reducible refine' y_len _ _ | with_reducible refine' y_ne _ _ _ | with_reducible refine' y_chain _ _ _ | with_reducible refine' y_andV _ (fun _ => _) | with_reducible refine' y_orV _ (fun _ => _) | with_reducible refine' y_isN _ | with_reducible refine' y_notN _ | exact rfl | (show _ = _; assumption) | exact atI_nat (by assumption) | (show CPow _ _; exact ⟨by decide, by decide, by decide⟩) | (show (0 : Int) < _; first | decide | omega) | (show CDiv _ _; exact ⟨by first | decide | omega, by first | decide | omega⟩) | (show CMul _ _; first | exact .inl ⟨by omega, by omega⟩ | exact .inr ⟨by omega, by omega⟩) ))) (by (first | rfl | (simp; done) | (simp only [sx_mc, sx_mb, sx_cm, sx_cb, sx_bm, sx_bc, decide_true, decide_false, Bool.and_true, Bool.true_and, Bool.not_true, Bool.not_false, Bool.and_false, Bool.false_and, Bool.or_false, Bool.or_true, decide_eq_true_eq, Bool.and_eq_true, decide_eq_false_iff_not]; first | done | omega) | (simp [sx_mc, sx_mb, sx_cm, sx_cb, sx_bm, sx_bc]; first | done | omega) | omega))) (fun _ _ => ?_)
      exact z_ret (by assumption) (y_is (d := .list []) (by (repeat' (first | with_reducible exact y_int | with_reducible exact y_str | (with_reducible show Y _ (tVar _) _ _; exact y_var rfl) | (with_reducible refine' y_eq _ _ _) | (with_reducible refine' y_ixT _ _ _) | with_reducible refine' y_ixL _ _ _ | with_reducible exact ya_nilD | with_reducible exact y_bl | with_reducible exact y_non | with_reducible exact yo_none | with_reducible exact yt_yes | with_reducible refine' yt_test _ | with_reducible refine' yt_B _ | with_reducible refine' yt_not _ | with_reducible refine' yt_and _ (fun _ => _) | with_reducible refine' yt_or _ (fun _ => _) | with_reducible refine' y_I0 _ _ | with_reducible refine' y_B0 _ _ | with_reducible refine' y_IC _ _ _ | with_reducible refine' y_parts (by assumption) _ | with_reducible refine' y_rows (by assumption) _ | with_reducible refine' ya_consD _ _ | with_reducible refine' y_tup _ (by simp) | with_reducible refine' y_lst _ (by simp) | (with_reducible show Y _ (tCB (rLen _) _) _ _; first | exact y_lenOwn rfl | exact y_lenSc (y_var rfl)) | with_reducible refine' y_len _ _ | with_reducible refine' y_ne _ _ _ | with_reducible refine' y_chain _ _ _ | with_reducible refine' y_andV _ (fun _ => _) | with_reducible refine' y_orV _ (fun _ => _) | with_reducible refine' y_isN _ | with_reducible refine' y_notN _ | exact rfl | (show _ = _; assumption) | exact atI_nat (by assumption) | (show CPow _ _; exact ⟨by decide, by decide, by decide⟩) | (show (0 : Int) < _; first | decide | omega) | (show CDiv _ _; exact ⟨by first | decide | omega, by first | decide | omega⟩) | (show CMul _ _; first | exact .inl ⟨by omega, by omega⟩ | exact .inr ⟨by omega, by omega⟩) ))) rfl) k
    | crush t =>
      refine z_no (by assumption) (yt_is (by (repeat' (first | with_reducible exact y_int | with_reducible exact y_str | (with_reducible show Y _ (tVar _) _ _; exact y_var rfl) | (with_reducible refine' y_eq _ _ _) | (with_reducible refine' y_ixT _ _ _) | with_reducible refine' y_ixL _ _ _ | with_reducible exact ya_nilD | with_reducible exact y_bl | with_reducible exact y_non | with_reducible exact yo_none | with_reducible exact yt_yes | with_reducible refine' yt_test _ | with_reducible refine' yt_B _ | with_reducible refine' yt_not _ | with_reducible refine' yt_and _ (fun _ => _) | with_reducible refine' yt_or _ (fun _ => _) | with_reducible refine' y_I0 _ _ | with_reducible refine' y_B0 _ _ | with_reducible refine' y_IC _ _ _ | with_reducible refine' y_parts (by assumption) _ | with_reducible refine' y_rows (by assumption) _ | with_reducible refine' ya_consD _ _ | with_reducible refine' y_tup _ (by simp) | with_reducible refine' y_lst _ (by simp) | (with_reducible show Y _ (tCB (rLen _) _) _ _; first | exact y_lenOwn rfl | exact y_lenSc (y_var rfl)) | with_reducible refine' y_len _ _ | with_reducible refine' y_ne _ _ _ | with_reducible refine' y_chain _ _ _ | with_reducible refine' y_andV _ (fun _ => _) | with_reducible refine' y_orV _ (fun _ => _) | with_reducible refine' y_isN _ | with_reducible refine' y_notN _ | exact rfl | (show _ = _; assumption) | exact atI_nat (by assumption) | (show CPow _ _; exact ⟨by decide, by decide, by decide⟩) | (show (0 : Int) < _; first | decide | omega) | (show CDiv _ _; exact ⟨by first | decide | omega, by first | decide | omega⟩) | (show CMul _ _; first | exact .inl ⟨by omega, by omega⟩ | exact .inr ⟨by omega, by omega⟩) ))) (by (first | rfl | (simp; done) | (simp only [sx_mc, sx_mb, sx_cm, sx_cb, sx_bm, sx_bc, decide_true, decide_false, Bool.and_true, Bool.true_and, Bool.not_true, Bool.not_false, Bool.and_false, Bool.false_and, Bool.or_false, Bool.or_true, decide_eq_true_eq, Bool.and_eq_true, decide_eq_false_iff_not]; first | done | omega) | (simp [sx_mc, sx_mb, sx_cm, sx_cb, sx_bm, sx_bc]; first | done | omega) | omega))) (fun _ _ => ?_)
      refine z_yes (by assumption) (yt_is (by (repeat' (first | with_reducible exact y_int | with_reducible exact y_str | (with_reducible show Y _ (tVar _) _ _; exact y_var rfl) | (with_reducible refine' y_eq _ _ _) | (with_reducible refine' y_ixT _ _ _) | with_reducible refine' y_ixL _ _ _ | with_reducible exact ya_nilD | with_reducible exact y_bl | with_reducible exact y_non | with_reducible exact yo_none | with_reducible exact yt_yes | with_reducible refine' yt_test _ | with_reducible refine' yt_B _ | with_reducible refine' yt_not _ | with_reducible refine' yt_and _ (fun _ => _) | with_reducible refine' yt_or _ (fun _ => _) | with_reducible refine' y_I0 _ _ | with_reducible refine' y_B0 _ _ | with_reducible refine' y_IC _ _ _ | with_reducible refine' y_parts (by assumption) _ | with_reducible refine' y_rows (by assumption) _ | with_reducible refine' ya_consD _ _ | with_reducible refine' y_tup _ (by simp) | with_reducible refine' y_lst _ (by simp) | (with_reducible show Y _ (tCB (rLen _) _) _ _; first | exact y_lenOwn rfl | exact y_lenSc (y_var rfl)) | with_reducible refine' y_len _ _ | with_reducible refine' y_ne _ _ _ | with_reducible refine' y_chain _ _ _ | with_reducible refine' y_andV _ (fun _ => _) | with_reducible refine' y_orV _ (fun _ => _) | with_reducible refine' y_isN _ | with_reducible refine' y_notN _ | exact rfl | (show _ = _; assumption) | exact atI_nat (by assumption) | (show CPow _ _; exact ⟨by decide, by decide, by decide⟩) | (show (0 : Int) < _; first | decide | omega) | (show CDiv _ _; exact ⟨by first | decide | omega, by first | decide | omega⟩) | (show CMul _ _; first | exact .inl ⟨by omega, by omega⟩ | exact .inr ⟨by omega, by omega⟩) ))) (by (first | rfl | (simp; done) | (simp only [sx_mc, sx_mb, sx_cm, sx_cb, sx_bm, sx_bc, decide_true, decide_false, Bool.and_true, Bool.true_and, Bool.not_true, Bool.not_false, Bool.and_false, Bool.false_and, Bool.or_false, Bool.or_true, decide_eq_true_eq, Bool.and_eq_true, decide_eq_false_iff_not]; first | done | omega) | (simp [sx_mc, sx_mb, sx_cm, sx_cb, sx_bm, sx_bc]; first | done | omega) | omega))) (fun _ _ => ?_)
      refine z_ret (by assumption) (y_is (y_lcL (xs := pieces s p) (enc := pairD) (e := fun q => tripD (t, q.1, q.2)) (b := fun _ => true) (fun q => [.p (Ws K p rows), .p (D (.int r)), .p (D (.int s)), .p (D (rowD (.crush t))), .p (D (.int q.1)), .p (D (.int q.2))]) (y_call (As := [D (.int s), D (.int p)]) (ya_cons (y_var rfl) (mono_D _) (ya_cons (y_parts T (y_var rfl)) (mono_D _) ya_nil)) fun vs H Q h => ⟨s, p, ⟨hp1, hp2⟩, h⟩) ?_ (fun x _ => yg_two (i := 4) (j := 5) (by decide)) (fun x hx => yt_yes) (fun x _ _ => (by (repeat' (first | with_reducible exact y_int | with_reducible exact y_str | (with_reducible show Y _ (tVar _) _ _; exact y_var rfl) | (with_reducible refine' y_eq _ _ _) | (with_reducible refine' y_ixT _ _ _) | with_reducible refine' y_ixL _ _ _ | with_reducible exact ya_nilD | with_reducible exact y_bl | with_reducible exact y_non | with_reducible exact yo_none | with_reducible exact yt_yes | with_reducible refine' yt_test _ | with_reducible refine' yt_B _ | with_reducible refine' yt_not _ | with_reducible refine' yt_and _ (fun _ => _) | with_reducible refine' yt_or _ (fun _ => _) | with_reducible refine' y_I0 _ _ | with_reducible refine' y_B0 _ _ | with_reducible refine' y_IC _ _ _ | with_reducible refine' y_parts (by assumption) _ | with_reducible refine' y_rows (by assumption) _ | with_reducible refine' ya_consD _ _ | with_reducible refine' y_tup _ (by simp) | with_reducible refine' y_lst _ (by simp) | (with_reducible show Y _ (tCB (rLen _) _) _ _; first | exact y_lenOwn rfl | exact y_lenSc (y_var rfl)) | with_reducible refine' y_len _ _ | with_reducible refine' y_ne _ _ _ | with_reducible refine' y_chain _ _ _ | with_reducible refine' y_andV _ (fun _ => _) | with_reducible refine' y_orV _ (fun _ => _) | with_reducible refine' y_isN _ | with_reducible refine' y_notN _ | exact rfl | (show _ = _; assumption) | exact atI_nat (by assumption) | (show CPow _ _; exact ⟨by decide, by decide, by decide⟩) | (show (0 : Int) < _; first | decide | omega) | (show CDiv _ _; exact ⟨by first | decide | omega, by first | decide | omega⟩) | (show CMul _ _; first | exact .inl ⟨by omega, by omega⟩ | exact .inr ⟨by omega, by omega⟩) ))))) ?_) k
      · exact Nat.le_trans (List.length_filter_le _ _) (by simp)
      · congr 1
        rw [List.filter_eq_self.mpr (fun _ _ => rfl)]
        unfold goesR
        simp [List.map_map, Function.comp_def]
    | mesh c0 u o =>
      refine z_no (by assumption) (yt_is (by (repeat' (first | with_reducible exact y_int | with_reducible exact y_str | (with_reducible show Y _ (tVar _) _ _; exact y_var rfl) | (with_reducible refine' y_eq _ _ _) | (with_reducible refine' y_ixT _ _ _) | with_reducible refine' y_ixL _ _ _ | with_reducible exact ya_nilD | with_reducible exact y_bl | with_reducible exact y_non | with_reducible exact yo_none | with_reducible exact yt_yes | with_reducible refine' yt_test _ | with_reducible refine' yt_B _ | with_reducible refine' yt_not _ | with_reducible refine' yt_and _ (fun _ => _) | with_reducible refine' yt_or _ (fun _ => _) | with_reducible refine' y_I0 _ _ | with_reducible refine' y_B0 _ _ | with_reducible refine' y_IC _ _ _ | with_reducible refine' y_parts (by assumption) _ | with_reducible refine' y_rows (by assumption) _ | with_reducible refine' ya_consD _ _ | with_reducible refine' y_tup _ (by simp) | with_reducible refine' y_lst _ (by simp) | (with_reducible show Y _ (tCB (rLen _) _) _ _; first | exact y_lenOwn rfl | exact y_lenSc (y_var rfl)) | with_reducible refine' y_len _ _ | with_reducible refine' y_ne _ _ _ | with_reducible refine' y_chain _ _ _ | with_reducible refine' y_andV _ (fun _ => _) | with_reducible refine' y_orV _ (fun _ => _) | with_reducible refine' y_isN _ | with_reducible refine' y_notN _ | exact rfl | (show _ = _; assumption) | exact atI_nat (by assumption) | (show CPow _ _; exact ⟨by decide, by decide, by decide⟩) | (show (0 : Int) < _; first | decide | omega) | (show CDiv _ _; exact ⟨by first | decide | omega, by first | decide | omega⟩) | (show CMul _ _; first | exact .inl ⟨by omega, by omega⟩ | exact .inr ⟨by omega, by omega⟩) ))) (by (first | rfl | (simp; done) | (simp only [sx_mc, sx_mb, sx_cm, sx_cb, sx_bm, sx_bc, decide_true, decide_false, Bool.and_true, Bool.true_and, Bool.not_true, Bool.not_false, Bool.and_false, Bool.false_and, Bool.or_false, Bool.or_true, decide_eq_true_eq, Bool.and_eq_true, decide_eq_false_iff_not]; first | done | omega) | (simp [sx_mc, sx_mb, sx_cm, sx_cb, sx_bm, sx_bc]; first | done | omega) | omega))) (fun _ _ => ?_)
      refine z_no (by assumption) (yt_is (by (repeat' (first | with_reducible exact y_int | with_reducible exact y_str | (with_reducible show Y _ (tVar _) _ _; exact y_var rfl) | (with_reducible refine' y_eq _ _ _) | (with_reducible refine' y_ixT _ _ _) | with_reducible refine' y_ixL _ _ _ | with_reducible exact ya_nilD | with_reducible exact y_bl | with_reducible exact y_non | with_reducible exact yo_none | with_reducible exact yt_yes | with_reducible refine' yt_test _ | with_reducible refine' yt_B _ | with_reducible refine' yt_not _ | with_reducible refine' yt_and _ (fun _ => _) | with_reducible refine' yt_or _ (fun _ => _) | with_reducible refine' y_I0 _ _ | with_reducible refine' y_B0 _ _ | with_reducible refine' y_IC _ _ _ | with_reducible refine' y_parts (by assumption) _ | with_reducible refine' y_rows (by assumption) _ | with_reducible refine' ya_consD _ _ | with_reducible refine' y_tup _ (by simp) | with_reducible refine' y_lst _ (by simp) | (with_reducible show Y _ (tCB (rLen _) _) _ _; first | exact y_lenOwn rfl | exact y_lenSc (y_var rfl)) | with_reducible refine' y_len _ _ | with_reducible refine' y_ne _ _ _ | with_reducible refine' y_chain _ _ _ | with_reducible refine' y_andV _ (fun _ => _) | with_reducible refine' y_orV _ (fun _ => _) | with_reducible refine' y_isN _ | with_reducible refine' y_notN _ | exact rfl | (show _ = _; assumption) | exact atI_nat (by assumption) | (show CPow _ _; exact ⟨by decide, by decide, by decide⟩) | (show (0 : Int) < _; first | decide | omega) | (show CDiv _ _; exact ⟨by first | decide | omega, by first | decide | omega⟩) | (show CMul _ _; first | exact .inl ⟨by omega, by omega⟩ | exact .inr ⟨by omega, by omega⟩) ))) (by (first | rfl | (simp; done) | (simp only [sx_mc, sx_mb, sx_cm, sx_cb, sx_bm, sx_bc, decide_true, decide_false, Bool.and_true, Bool.true_and, Bool.not_true, Bool.not_false, Bool.and_false, Bool.false_and, Bool.or_false, Bool.or_true, decide_eq_true_eq, Bool.and_eq_true, decide_eq_false_iff_not]; first | done | omega) | (simp [sx_mc, sx_mb, sx_cm, sx_cb, sx_bm, sx_bc]; first | done | omega) | omega))) (fun _ _ => ?_)
      refine z_when (b := decide (s ≤ c0)) (by assumption) (by (repeat' (first | with_reducible exact y_int | with_reducible exact y_str | (with_reducible show Y _ (tVar _) _ _; exact y_var rfl) | (with_reducible refine' y_eq _ _ _) | (with_reducible refine' y_ixT _ _ _) | with_reducible refine' y_ixL _ _ _ | with_reducible exact ya_nilD | with_reducible exact y_bl | with_reducible exact y_non | with_reducible exact yo_none | with_reducible exact yt_yes | with_reducible refine' yt_test _ | with_reducible refine' yt_B _ | with_reducible refine' yt_not _ | with_reducible refine' yt_and _ (fun _ => _) | with_reducible refine' yt_or _ (fun _ => _) | with_reducible refine' y_I0 _ _ | with_reducible refine' y_B0 _ _ | with_reducible refine' y_IC _ _ _ | with_reducible refine' y_parts (by assumption) _ | with_reducible refine' y_rows (by assumption) _ | with_reducible refine' ya_consD _ _ | with_reducible refine' y_tup _ (by simp) | with_reducible refine' y_lst _ (by simp) | (with_reducible show Y _ (tCB (rLen _) _) _ _; first | exact y_lenOwn rfl | exact y_lenSc (y_var rfl)) | with_reducible refine' y_len _ _ | with_reducible refine' y_ne _ _ _ | with_reducible refine' y_chain _ _ _ | with_reducible refine' y_andV _ (fun _ => _) | with_reducible refine' y_orV _ (fun _ => _) | with_reducible refine' y_isN _ | with_reducible refine' y_notN _ | exact rfl | (show _ = _; assumption) | exact atI_nat (by assumption) | (show CPow _ _; exact ⟨by decide, by decide, by decide⟩) | (show (0 : Int) < _; first | decide | omega) | (show CDiv _ _; exact ⟨by first | decide | omega, by first | decide | omega⟩) | (show CMul _ _; first | exact .inl ⟨by omega, by omega⟩ | exact .inr ⟨by omega, by omega⟩) ))) (fun hb H2 c2 => ?_) (fun hb H2 c2 => ?_)
      · refine z_ret c2 (y_is (d := .list [tripD (u, s, 1)]) (by (repeat' (first | with_reducible exact y_int | with_reducible exact y_str | (with_reducible show Y _ (tVar _) _ _; exact y_var rfl) | (with_reducible refine' y_eq _ _ _) | (with_reducible refine' y_ixT _ _ _) | with_reducible refine' y_ixL _ _ _ | with_reducible exact ya_nilD | with_reducible exact y_bl | with_reducible exact y_non | with_reducible exact yo_none | with_reducible exact yt_yes | with_reducible refine' yt_test _ | with_reducible refine' yt_B _ | with_reducible refine' yt_not _ | with_reducible refine' yt_and _ (fun _ => _) | with_reducible refine' yt_or _ (fun _ => _) | with_reducible refine' y_I0 _ _ | with_reducible refine' y_B0 _ _ | with_reducible refine' y_IC _ _ _ | with_reducible refine' y_parts (by assumption) _ | with_reducible refine' y_rows (by assumption) _ | with_reducible refine' ya_consD _ _ | with_reducible refine' y_tup _ (by simp) | with_reducible refine' y_lst _ (by simp) | (with_reducible show Y _ (tCB (rLen _) _) _ _; first | exact y_lenOwn rfl | exact y_lenSc (y_var rfl)) | with_reducible refine' y_len _ _ | with_reducible refine' y_ne _ _ _ | with_reducible refine' y_chain _ _ _ | with_reducible refine' y_andV _ (fun _ => _) | with_reducible refine' y_orV _ (fun _ => _) | with_reducible refine' y_isN _ | with_reducible refine' y_notN _ | exact rfl | (show _ = _; assumption) | exact atI_nat (by assumption) | (show CPow _ _; exact ⟨by decide, by decide, by decide⟩) | (show (0 : Int) < _; first | decide | omega) | (show CDiv _ _; exact ⟨by first | decide | omega, by first | decide | omega⟩) | (show CMul _ _; first | exact .inl ⟨by omega, by omega⟩ | exact .inr ⟨by omega, by omega⟩) ))) ?_) k
        simp [goesR, of_decide_eq_true hb]
      · refine z_ret c2 (y_is (d := .list [tripD (o, s, 1)]) (by (repeat' (first | with_reducible exact y_int | with_reducible exact y_str | (with_reducible show Y _ (tVar _) _ _; exact y_var rfl) | (with_reducible refine' y_eq _ _ _) | (with_reducible refine' y_ixT _ _ _) | with_reducible refine' y_ixL _ _ _ | with_reducible exact ya_nilD | with_reducible exact y_bl | with_reducible exact y_non | with_reducible exact yo_none | with_reducible exact yt_yes | with_reducible refine' yt_test _ | with_reducible refine' yt_B _ | with_reducible refine' yt_not _ | with_reducible refine' yt_and _ (fun _ => _) | with_reducible refine' yt_or _ (fun _ => _) | with_reducible refine' y_I0 _ _ | with_reducible refine' y_B0 _ _ | with_reducible refine' y_IC _ _ _ | with_reducible refine' y_parts (by assumption) _ | with_reducible refine' y_rows (by assumption) _ | with_reducible refine' ya_consD _ _ | with_reducible refine' y_tup _ (by simp) | with_reducible refine' y_lst _ (by simp) | (with_reducible show Y _ (tCB (rLen _) _) _ _; first | exact y_lenOwn rfl | exact y_lenSc (y_var rfl)) | with_reducible refine' y_len _ _ | with_reducible refine' y_ne _ _ _ | with_reducible refine' y_chain _ _ _ | with_reducible refine' y_andV _ (fun _ => _) | with_reducible refine' y_orV _ (fun _ => _) | with_reducible refine' y_isN _ | with_reducible refine' y_notN _ | exact rfl | (show _ = _; assumption) | exact atI_nat (by assumption) | (show CPow _ _; exact ⟨by decide, by decide, by decide⟩) | (show (0 : Int) < _; first | decide | omega) | (show CDiv _ _; exact ⟨by first | decide | omega, by first | decide | omega⟩) | (show CMul _ _; first | exact .inl ⟨by omega, by omega⟩ | exact .inr ⟨by omega, by omega⟩) ))) ?_) k
        simp [goesR, of_decide_eq_false hb]
end
end MW

/-! F2d -/
set_option Elab.async false
set_option linter.all false
set_option maxRecDepth 100000
set_option maxHeartbeats 400000
namespace MW
open PySem PySem.Spec L2

section
variable {P : Program} {w : World} {K : PySem.W.Frag} {mg : Str → Option Value} {base : Heap}
def sp_whole_to (K : PySem.W.Frag) : Sp := fun vs H Q E => ∃ (p : Int) (rows : List Rw) (r : Nat) (s : Int) (row : Rw), (2 ≤ p ∧ p ≤ 9 ∧ 1 ≤ s ∧ rows[r]? = some row) ∧ spP [Ws K p rows, D (.int r), D (.int s)] (D (optD (wholeR row s))) vs H Q E
theorem ok_whole_to (T : Tx K mg) : Cal P w K mg base 3 "whole_to" ["works", "row", "size"] (sp_whole_to K) := by
  have C_goes_on := ok_goes_on (P := P) (w := w) (base := base) T
  obtain ⟨fd, F⟩ := T.c.def_ 4 (d := d_whole_to) rfl
  refine ⟨_, fd, T.g_whole_to, F.kp, FunD.bindsN (ps := ["works", "row", "size"]) F fun _ _ _ _ _ _ us hl => match us, hl with | [_, _, _], _ => rfl, def_ok F sc_whole_to ?_ fun cdv A outer s H vs Q E hr h => ?_⟩
  · intro vs H Q E h
    obtain ⟨_, _, _, _, _, _, h⟩ := h
    exact h.len
  · obtain ⟨p, rows, r, s, row, hp, Hb, sm, ha, k⟩ := h
    have c := start_cur (N := N_whole_to) (k := 1) sm ha (by repeat' (first | exact trivial | exact mono_D _ | exact mono_Ws | exact mono_Sc | refine ⟨?_, ?_⟩)) rfl
    refine ⟨_, (pss_cons (ps_set (i := 3) sc_whole_to.nd rfl (Or.inl rfl) (pe_cal C_goes_on (hr.mono (by decide)) (by rfl) (pa_cons (pv 0) (pa_cons (pv 1) (pa_cons (pv 2) pa_nil)))))
  (pss_cons (ps_if ((pw_and (pt_cmpR op_eq (pe_callB (kLen (K := K) rfl) (by rfl) T.len bb_len (pa_cons (pv 3) pa_nil)) pe_int (nomark _)) (pw_and (pt_cmpR op_eq (pe_ix (kxT (K := K) rfl) (pe_ix (kxL (K := K) rfl) (pv 3) pe_int (fun _ _ => rfl)) pe_int (fun _ _ => rfl)) (pv 2) (nomark _)) (pw_and1 (pt_cmpR op_eq (pe_ix (kxT (K := K) rfl) (pe_ix (kxL (K := K) rfl) (pv 3) pe_int (fun _ _ => rfl)) pe_int (fun _ _ => rfl)) pe_int (nomark _)))))).pt
    (pss_one (ps_ret (pe_ix (kxT (K := K) rfl) (pe_ix (kxL (K := K) rfl) (pv 3) pe_int (fun _ _ => rfl)) pe_int (fun _ _ => rfl))))
    pss_nil)
  (pss_one (ps_ret pe_non)))), ?_⟩
    obtain ⟨hp1, hp2, hs, hr0⟩ := hp
    refine q_asgD c (d := .list ((goesR p row s).map tripD)) (y_call (As := [Ws K p rows, D (.int r), D (.int s)]) (ya_cons (y_var rfl) mono_Ws (ya_cons (y_var rfl) (mono_D _) (ya_cons (y_var rfl) (mono_D _) ya_nil))) fun vs H Q h => ⟨p, rows, r, s, row, ⟨hp1, hp2, hr0⟩, h⟩) fun σ1 H1 c1 => ?_
    cases row with
    | bin b =>
      simp only [goesR, List.map_nil] at c1
      refine z_no (by assumption) (yt_andF (yt_is (by (repeat' (first | with_reducible exact y_int | with_reducible exact y_str | (with_reducible show Y _ (tVar _) _ _; exact y_var rfl) | (with_reducible refine' y_eq _ _ _) | (with_reducible refine' y_ixT _ _ _) | with_reducible refine' y_ixL _ _ _ | with_reducible exact ya_nilD | with_reducible exact y_bl | with_reducible exact y_non | with_reducible exact yo_none | with_reducible exact yt_yes | with_reducible refine' yt_test _ | with_reducible refine' yt_B _ | with_reducible refine' yt_not _ | with_reducible refine' yt_and _ (fun _ => _) | with_reducible refine' yt_or _ (fun _ => _) | with_reducible refine' y_I0 _ _ | with_reducible refine' y_B0 _ _ | with_reducible refine' y_IC _ _ _ | with_reducible refine' y_parts (by assumption) _ | with_reducible refine' y_rows (by assumption) _ | with_reducible refine' ya_consD _ _ | with_reducible refine' y_tup _ (by simp) | with_reducible refine' y_lst _ (by simp) | (with_reducible show Y _ (tCB (rLen _) _) _ _; first | exact y_lenOwn rfl | exact y_lenSc (y_var rfl)) | with_reducible refine' y_len _ _ | with_reducible refine' y_ne _ _ _ | with_reducible refine' y_chain _ _ _ | with_reducible refine' y_andV _ (fun _ => _) | with_reducible refine' y_orV _ (fun _ => _) | with_reducible refine' y_isN _ | with_reducible refine' y_notN _ | exact rfl | (show _ = _; assumption) | exact atI_nat (by assumption) | (show CPow _ _; exact ⟨by decide, by decide, by decide⟩) | (show (0 : Int) < _; first | decide | omega) | (show CDiv _ _; exact ⟨by first | decide | omega, by first | decide | omega⟩) | (show CMul _ _; first | exact .inl ⟨by omega, by omega⟩ | exact .inr ⟨by omega, by omega⟩) ))) (by (first | rfl | (simp; done) | (simp only [sx_mc, sx_mb, sx_cm, sx_cb, sx_bm, sx_bc, decide_true, decide_false, Bool.and_true, Bool.true_and, Bool.not_true, Bool.not_false, Bool.and_false, Bool.false_and, Bool.or_false, Bool.or_true, decide_eq_true_eq, Bool.and_eq_true, decide_eq_false_iff_not]; first | done | omega) | (simp [sx_mc, sx_mb, sx_cm, sx_cb, sx_bm, sx_bc]; first | done | omega) | omega)))) fun _ _ => ?_
      exact z_ret (by assumption) (y_is (by (repeat' (first | with_reducible exact y_int | with_reducible exact y_str | (with_reducible show Y _ (tVar _) _ _; exact y_var rfl) | (with_reducible refine' y_eq _ _ _) | (with_reducible refine' y_ixT _ _ _) | with_reducible refine' y_ixL _ _ _ | with_reducible exact ya_nilD | with_reducible exact y_bl | with_reducible exact y_non | with_reducible exact yo_none | with_reducible exact yt_yes | with_reducible refine' yt_test _ | with_reducible refine' yt_B _ | with_reducible refine' yt_not _ | with_reducible refine' yt_and _ (fun _ => _) | with_reducible refine' yt_or _ (fun _ => _) | with_reducible refine' y_I0 _ _ | with_reducible refine' y_B0 _ _ | with_reducible refine' y_IC _ _ _ | with_reducible refine' y_parts (by assumption) _ | with_reducible refine' y_rows (by assumption) _ | with_reducible refine' ya_consD _ _ | with_reducible refine' y_tup _ (by simp) | with_reducible refine' y_lst _ (by simp) | (with_reducible show Y _ (tCB (rLen _) _) _ _; first | exact y_lenOwn rfl | exact y_lenSc (y_var rfl)) | with_reducible refine' y_len _ _ | with_reducible refine' y_ne _ _ _ | with_reducible refine' y_chain _ _ _ | with_reducible refine' y_andV _ (fun _ => _) | with_reducible refine' y_orV _ (fun _ => _) | with_reducible refine' y_isN _ | with_reducible refine' y_notN _ | exact rfl | (show _ = _; assumption) | exact atI_nat (by assumption) | (show CPow _ _; exact ⟨by decide, by decide, by decide⟩) | (show (0 : Int) < _; first | decide | omega) | (show CDiv _ _; exact ⟨by first | decide | omega, by first | decide | omega⟩) | (show CMul _ _; first | exact .inl ⟨by omega, by omega⟩ | exact .inr ⟨by omega, by omega⟩) ))) (by first | rfl | (simp; done) | (congr 1; (first | rfl | (simp; done) | (simp only [sx_mc, sx_mb, sx_cm, sx_cb, sx_bm, sx_bc, decide_true, decide_false, Bool.and_true, Bool.true_and, Bool.not_true, Bool.not_false, Bool.and_false, Bool.false_and, Bool.or_false, Bool.or_true, decide_eq_true_eq, Bool.and_eq_true, decide_eq_false_iff_not]; first | done | omega) | (simp [sx_mc, sx_mb, sx_cm, sx_cb, sx_bm, sx_bc]; first | done | omega) | omega)))) k
    | mesh c0 u o =>
      by_cases hc : s ≤ c0
      · simp only [goesR, wholeR, if_pos hc, List.map_cons, List.map_nil] at c1 k
        refine z_yes (by assumption) (yt_is (by (repeat' (first | with_reducible exact y_int | with_reducible exact y_str | (with_reducible show Y _ (tVar _) _ _; exact y_var rfl) | (with_reducible refine' y_eq _ _ _) | (with_reducible refine' y_ixT _ _ _) | with_reducible refine' y_ixL _ _ _ | with_reducible exact ya_nilD | with_reducible exact y_bl | with_reducible exact y_non | with_reducible exact yo_none | with_reducible exact yt_yes | with_reducible refine' yt_test _ | with_reducible refine' yt_B _ | with_reducible refine' yt_not _ | with_reducible refine' yt_and _ (fun _ => _) | with_reducible refine' yt_or _ (fun _ => _) | with_reducible refine' y_I0 _ _ | with_reducible refine' y_B0 _ _ | with_reducible refine' y_IC _ _ _ | with_reducible refine' y_parts (by assumption) _ | with_reducible refine' y_rows (by assumption) _ | with_reducible refine' ya_consD _ _ | with_reducible refine' y_tup _ (by simp) | with_reducible refine' y_lst _ (by simp) | (with_reducible show Y _ (tCB (rLen _) _) _ _; first | exact y_lenOwn rfl | exact y_lenSc (y_var rfl)) | with_reducible refine' y_len _ _ | with_reducible refine' y_ne _ _ _ | with_reducible refine' y_chain _ _ _ | with_reducible refine' y_andV _ (fun _ => _) | with_reducible refine' y_orV _ (fun _ => _) | with_reducible refine' y_isN _ | with_reducible refine' y_notN _ | exact rfl | (show _ = _; assumption) | exact atI_nat (by assumption) | (show CPow _ _; exact ⟨by decide, by decide, by decide⟩) | (show (0 : Int) < _; first | decide | omega) | (show CDiv _ _; exact ⟨by first | decide | omega, by first | decide | omega⟩) | (show CMul _ _; first | exact .inl ⟨by omega, by omega⟩ | exact .inr ⟨by omega, by omega⟩) ))) (by (first | rfl | (simp; done) | (simp only [sx_mc, sx_mb, sx_cm, sx_cb, sx_bm, sx_bc, decide_true, decide_false, Bool.and_true, Bool.true_and, Bool.not_true, Bool.not_false, Bool.and_false, Bool.false_and, Bool.or_false, Bool.or_true, decide_eq_true_eq, Bool.and_eq_true, decide_eq_false_iff_not]; first | done | omega) | (simp [sx_mc, sx_mb, sx_cm, sx_cb, sx_bm, sx_bc]; first | done | omega) | omega))) (fun _ _ => ?_)
        exact z_ret (by assumption) (y_is (by (repeat' (first | with_reducible exact y_int | with_reducible exact y_str | (with_reducible show Y _ (tVar _) _ _; exact y_var rfl) | (with_reducible refine' y_eq _ _ _) | (with_reducible refine' y_ixT _ _ _) | with_reducible refine' y_ixL _ _ _ | with_reducible exact ya_nilD | with_reducible exact y_bl | with_reducible exact y_non | with_reducible exact yo_none | with_reducible exact yt_yes | with_reducible refine' yt_test _ | with_reducible refine' yt_B _ | with_reducible refine' yt_not _ | with_reducible refine' yt_and _ (fun _ => _) | with_reducible refine' yt_or _ (fun _ => _) | with_reducible refine' y_I0 _ _ | with_reducible refine' y_B0 _ _ | with_reducible refine' y_IC _ _ _ | with_reducible refine' y_parts (by assumption) _ | with_reducible refine' y_rows (by assumption) _ | with_reducible refine' ya_consD _ _ | with_reducible refine' y_tup _ (by simp) | with_reducible refine' y_lst _ (by simp) | (with_reducible show Y _ (tCB (rLen _) _) _ _; first | exact y_lenOwn rfl | exact y_lenSc (y_var rfl)) | with_reducible refine' y_len _ _ | with_reducible refine' y_ne _ _ _ | with_reducible refine' y_chain _ _ _ | with_reducible refine' y_andV _ (fun _ => _) | with_reducible refine' y_orV _ (fun _ => _) | with_reducible refine' y_isN _ | with_reducible refine' y_notN _ | exact rfl | (show _ = _; assumption) | exact atI_nat (by assumption) | (show CPow _ _; exact ⟨by decide, by decide, by decide⟩) | (show (0 : Int) < _; first | decide | omega) | (show CDiv _ _; exact ⟨by first | decide | omega, by first | decide | omega⟩) | (show CMul _ _; first | exact .inl ⟨by omega, by omega⟩ | exact .inr ⟨by omega, by omega⟩) ))) (by first | rfl | (simp; done) | (congr 1; (first | rfl | (simp; done) | (simp only [sx_mc, sx_mb, sx_cm, sx_cb, sx_bm, sx_bc, decide_true, decide_false, Bool.and_true, Bool.true_and, Bool.not_true, Bool.not_false, Bool.and_false, Bool.false_and, Bool.or_false, Bool.or_true, decide_eq_true_eq, Bool.and_eq_true, decide_eq_false_iff_not]; first | done | omega) | (simp [sx_mc, sx_mb, sx_cm, sx_cb, sx_bm, sx_bc]; first | done | omega) | omega)))) k
      · simp only [goesR, wholeR, if_neg hc, List.map_cons, List.map_nil] at c1 k
        refine z_yes (by assumption) (yt_is (by (repeat' (first | with_reducible exact y_int | with_reducible exact y_str | (with_reducible show Y _ (tVar _) _ _; exact y_var rfl) | (with_reducible refine' y_eq _ _ _) | (with_reducible refine' y_ixT _ _ _) | with_reducible refine' y_ixL _ _ _ | with_reducible exact ya_nilD | with_reducible exact y_bl | with_reducible exact y_non | with_reducible exact yo_none | with_reducible exact yt_yes | with_reducible refine' yt_test _ | with_reducible refine' yt_B _ | with_reducible refine' yt_not _ | with_reducible refine' yt_and _ (fun _ => _) | with_reducible refine' yt_or _ (fun _ => _) | with_reducible refine' y_I0 _ _ | with_reducible refine' y_B0 _ _ | with_reducible refine' y_IC _ _ _ | with_reducible refine' y_parts (by assumption) _ | with_reducible refine' y_rows (by assumption) _ | with_reducible refine' ya_consD _ _ | with_reducible refine' y_tup _ (by simp) | with_reducible refine' y_lst _ (by simp) | (with_reducible show Y _ (tCB (rLen _) _) _ _; first | exact y_lenOwn rfl | exact y_lenSc (y_var rfl)) | with_reducible refine' y_len _ _ | with_reducible refine' y_ne _ _ _ | with_reducible refine' y_chain _ _ _ | with_reducible refine' y_andV _ (fun _ => _) | with_reducible refine' y_orV _ (fun _ => _) | with_reducible refine' y_isN _ | with_reducible refine' y_notN _ | exact rfl | (show _ = _; assumption) | exact atI_nat (by assumption) | (show CPow _ _; exact ⟨by decide, by decide, by decide⟩) | (show (0 : Int) < _; first | decide | omega) | (show CDiv _ _; exact ⟨by first | decide | omega, by first | decide | omega⟩) | (show CMul _ _; first | exact .inl ⟨by omega, by omega⟩ | exact .inr ⟨by omega, by omega⟩) ))) (by (first | rfl | (simp; done) | (simp only [sx_mc, sx_mb, sx_cm, sx_cb, sx_bm, sx_bc, decide_true, decide_false, Bool.and_true, Bool.true_and, Bool.not_true, Bool.not_false, Bool.and_false, Bool.false_and, Bool.or_false, Bool.or_true, decide_eq_true_eq, Bool.and_eq_true, decide_eq_false_iff_not]; first | done | omega) | (simp [sx_mc, sx_mb, sx_cm, sx_cb, sx_bm, sx_bc]; first | done | omega) | omega))) (fun _ _ => ?_)
        exact z_ret (by assumption) (y_is (by (repeat' (first | with_reducible exact y_int | with_reducible exact y_str | (with_reducible show Y _ (tVar _) _ _; exact y_var rfl) | (with_reducible refine' y_eq _ _ _) | (with_reducible refine' y_ixT _ _ _) | with_reducible refine' y_ixL _ _ _ | with_reducible exact ya_nilD | with_reducible exact y_bl | with_reducible exact y_non | with_reducible exact yo_none | with_reducible exact yt_yes | with_reducible refine' yt_test _ | with_reducible refine' yt_B _ | with_reducible refine' yt_not _ | with_reducible refine' yt_and _ (fun _ => _) | with_reducible refine' yt_or _ (fun _ => _) | with_reducible refine' y_I0 _ _ | with_reducible refine' y_B0 _ _ | with_reducible refine' y_IC _ _ _ | with_reducible refine' y_parts (by assumption) _ | with_reducible refine' y_rows (by assumption) _ | with_reducible refine' ya_consD _ _ | with_reducible refine' y_tup _ (by simp) | with_reducible refine' y_lst _ (by simp) | (with_reducible show Y _ (tCB (rLen _) _) _ _; first | exact y_lenOwn rfl | exact y_lenSc (y_var rfl)) | with_reducible refine' y_len _ _ | with_reducible refine' y_ne _ _ _ | with_reducible refine' y_chain _ _ _ | with_reducible refine' y_andV _ (fun _ => _) | with_reducible refine' y_orV _ (fun _ => _) | with_reducible refine' y_isN _ | with_reducible refine' y_notN _ | exact rfl | (show _ = _; assumption) | exact atI_nat (by assumption) | (show CPow _ _; exact ⟨by decide, by decide, by decide⟩) | (show (0 : Int) < _; first | decide | omega) | (show CDiv _ _; exact ⟨by first | decide | omega, by first | decide | omega⟩) | (show CMul _ _; first | exact .inl ⟨by omega, by omega⟩ | exact .inr ⟨by omega, by omega⟩) ))) (by first | rfl | (simp; done) | (congr 1; (first | rfl | (simp; done) | (simp only [sx_mc, sx_mb, sx_cm, sx_cb, sx_bm, sx_bc, decide_true, decide_false, Bool.and_true, Bool.true_and, Bool.not_true, Bool.not_false, Bool.and_false, Bool.false_and, Bool.or_false, Bool.or_true, decide_eq_true_eq, Bool.and_eq_true, decide_eq_false_iff_not]; first | done | omega) | (simp [sx_mc, sx_mb, sx_cm, sx_cb, sx_bm, sx_bc]; first | done | omega) | omega)))) k
    | crush t =>
      by_cases h1 : s = 1
      · subst h1
        have e : pieces 1 p = [(1, 1)] := by
          rcases pieces_cases hs hp1 hp2 with ⟨a, b, c, _⟩ | ⟨_, _, a⟩ | ⟨a, b, _⟩
          · omega
          · exact a
          · omega
        simp only [goesR, e, List.map_cons, List.map_nil] at c1
        simp only [wholeR, if_true] at k
        refine z_yes (by assumption) (yt_is (by (repeat' (first | with_reducible exact y_int | with_reducible exact y_str | (with_reducible show Y _ (tVar _) _ _; exact y_var rfl) | (with_reducible refine' y_eq _ _ _) | (with_reducible refine' y_ixT _ _ _) | with_reducible refine' y_ixL _ _ _ | with_reducible exact ya_nilD | with_reducible exact y_bl | with_reducible exact y_non | with_reducible exact yo_none | with_reducible exact yt_yes | with_reducible refine' yt_test _ | with_reducible refine' yt_B _ | with_reducible refine' yt_not _ | with_reducible refine' yt_and _ (fun _ => _) | with_reducible refine' yt_or _ (fun _ => _) | with_reducible refine' y_I0 _ _ | with_reducible refine' y_B0 _ _ | with_reducible refine' y_IC _ _ _ | with_reducible refine' y_parts (by assumption) _ | with_reducible refine' y_rows (by assumption) _ | with_reducible refine' ya_consD _ _ | with_reducible refine' y_tup _ (by simp) | with_reducible refine' y_lst _ (by simp) | (with_reducible show Y _ (tCB (rLen _) _) _ _; first | exact y_lenOwn rfl | exact y_lenSc (y_var rfl)) | with_reducible refine' y_len _ _ | with_reducible refine' y_ne _ _ _ | with_reducible refine' y_chain _ _ _ | with_reducible refine' y_andV _ (fun _ => _) | with_reducible refine' y_orV _ (fun _ => _) | with_reducible refine' y_isN _ | with_reducible refine' y_notN _ | exact rfl | (show _ = _; assumption) | exact atI_nat (by assumption) | (show CPow _ _; exact ⟨by decide, by decide, by decide⟩) | (show (0 : Int) < _; first | decide | omega) | (show CDiv _ _; exact ⟨by first | decide | omega, by first | decide | omega⟩) | (show CMul _ _; first | exact .inl ⟨by omega, by omega⟩ | exact .inr ⟨by omega, by omega⟩) ))) (by (first | rfl | (simp; done) | (simp only [sx_mc, sx_mb, sx_cm, sx_cb, sx_bm, sx_bc, decide_true, decide_false, Bool.and_true, Bool.true_and, Bool.not_true, Bool.not_false, Bool.and_false, Bool.false_and, Bool.or_false, Bool.or_true, decide_eq_true_eq, Bool.and_eq_true, decide_eq_false_iff_not]; first | done | omega) | (simp [sx_mc, sx_mb, sx_cm, sx_cb, sx_bm, sx_bc]; first | done | omega) | omega))) (fun _ _ => ?_)
        exact z_ret (by assumption) (y_is (by (repeat' (first | with_reducible exact y_int | with_reducible exact y_str | (with_reducible show Y _ (tVar _) _ _; exact y_var rfl) | (with_reducible refine' y_eq _ _ _) | (with_reducible refine' y_ixT _ _ _) | with_reducible refine' y_ixL _ _ _ | with_reducible exact ya_nilD | with_reducible exact y_bl | with_reducible exact y_non | with_reducible exact yo_none | with_reducible exact yt_yes | with_reducible refine' yt_test _ | with_reducible refine' yt_B _ | with_reducible refine' yt_not _ | with_reducible refine' yt_and _ (fun _ => _) | with_reducible refine' yt_or _ (fun _ => _) | with_reducible refine' y_I0 _ _ | with_reducible refine' y_B0 _ _ | with_reducible refine' y_IC _ _ _ | with_reducible refine' y_parts (by assumption) _ | with_reducible refine' y_rows (by assumption) _ | with_reducible refine' ya_consD _ _ | with_reducible refine' y_tup _ (by simp) | with_reducible refine' y_lst _ (by simp) | (with_reducible show Y _ (tCB (rLen _) _) _ _; first | exact y_lenOwn rfl | exact y_lenSc (y_var rfl)) | with_reducible refine' y_len _ _ | with_reducible refine' y_ne _ _ _ | with_reducible refine' y_chain _ _ _ | with_reducible refine' y_andV _ (fun _ => _) | with_reducible refine' y_orV _ (fun _ => _) | with_reducible refine' y_isN _ | with_reducible refine' y_notN _ | exact rfl | (show _ = _; assumption) | exact atI_nat (by assumption) | (show CPow _ _; exact ⟨by decide, by decide, by decide⟩) | (show (0 : Int) < _; first | decide | omega) | (show CDiv _ _; exact ⟨by first | decide | omega, by first | decide | omega⟩) | (show CMul _ _; first | exact .inl ⟨by omega, by omega⟩ | exact .inr ⟨by omega, by omega⟩) ))) (by first | rfl | (simp; done) | (congr 1; (first | rfl | (simp; done) | (simp only [sx_mc, sx_mb, sx_cm, sx_cb, sx_bm, sx_bc, decide_true, decide_false, Bool.and_true, Bool.true_and, Bool.not_true, Bool.not_false, Bool.and_false, Bool.false_and, Bool.or_false, Bool.or_true, decide_eq_true_eq, Bool.and_eq_true, decide_eq_false_iff_not]; first | done | omega) | (simp [sx_mc, sx_mb, sx_cm, sx_cb, sx_bm, sx_bc]; first | done | omega) | omega)))) k
      · simp only [wholeR, if_neg h1] at k
        rcases pieces_cases hs hp1 hp2 with ⟨a, b, c, e⟩ | ⟨_, _, e⟩ | ⟨a, b, _, _, e⟩ <;> simp only [goesR, e, List.map_cons, List.map_nil] at c1
        · refine z_no (by assumption) (yt_and (a := true) (b := false) (yt_is (by (repeat' (first | with_reducible exact y_int | with_reducible exact y_str | (with_reducible show Y _ (tVar _) _ _; exact y_var rfl) | (with_reducible refine' y_eq _ _ _) | (with_reducible refine' y_ixT _ _ _) | with_reducible refine' y_ixL _ _ _ | with_reducible exact ya_nilD | with_reducible exact y_bl | with_reducible exact y_non | with_reducible exact yo_none | with_reducible exact yt_yes | with_reducible refine' yt_test _ | with_reducible refine' yt_B _ | with_reducible refine' yt_not _ | with_reducible refine' yt_and _ (fun _ => _) | with_reducible refine' yt_or _ (fun _ => _) | with_reducible refine' y_I0 _ _ | with_reducible refine' y_B0 _ _ | with_reducible refine' y_IC _ _ _ | with_reducible refine' y_parts (by assumption) _ | with_reducible refine' y_rows (by assumption) _ | with_reducible refine' ya_consD _ _ | with_reducible refine' y_tup _ (by simp) | with_reducible refine' y_lst _ (by simp) | (with_reducible show Y _ (tCB (rLen _) _) _ _; first | exact y_lenOwn rfl | exact y_lenSc (y_var rfl)) | with_reducible refine' y_len _ _ | with_reducible refine' y_ne _ _ _ | with_reducible refine' y_chain _ _ _ | with_reducible refine' y_andV _ (fun _ => _) | with_reducible refine' y_orV _ (fun _ => _) | with_reducible refine' y_isN _ | with_reducible refine' y_notN _ | exact rfl | (show _ = _; assumption) | exact atI_nat (by assumption) | (show CPow _ _; exact ⟨by decide, by decide, by decide⟩) | (show (0 : Int) < _; first | decide | omega) | (show CDiv _ _; exact ⟨by first | decide | omega, by first | decide | omega⟩) | (show CMul _ _; first | exact .inl ⟨by omega, by omega⟩ | exact .inr ⟨by omega, by omega⟩) ))) (by (first | rfl | (simp; done) | (simp only [sx_mc, sx_mb, sx_cm, sx_cb, sx_bm, sx_bc, decide_true, decide_false, Bool.and_true, Bool.true_and, Bool.not_true, Bool.not_false, Bool.and_false, Bool.false_and, Bool.or_false, Bool.or_true, decide_eq_true_eq, Bool.and_eq_true, decide_eq_false_iff_not]; first | done | omega) | (simp [sx_mc, sx_mb, sx_cm, sx_cb, sx_bm, sx_bc]; first | done | omega) | omega))) fun _ => yt_andF (yt_is (b := false) (by (repeat' (first | with_reducible exact y_int | with_reducible exact y_str | (with_reducible show Y _ (tVar _) _ _; exact y_var rfl) | (with_reducible refine' y_eq _ _ _) | (with_reducible refine' y_ixT _ _ _) | with_reducible refine' y_ixL _ _ _ | with_reducible exact ya_nilD | with_reducible exact y_bl | with_reducible exact y_non | with_reducible exact yo_none | with_reducible exact yt_yes | with_reducible refine' yt_test _ | with_reducible refine' yt_B _ | with_reducible refine' yt_not _ | with_reducible refine' yt_and _ (fun _ => _) | with_reducible refine' yt_or _ (fun _ => _) | with_reducible refine' y_I0 _ _ | with_reducible refine' y_B0 _ _ | with_reducible refine' y_IC _ _ _ | with_reducible refine' y_parts (by assumption) _ | with_reducible refine' y_rows (by assumption) _ | with_reducible refine' ya_consD _ _ | with_reducible refine' y_tup _ (by simp) | with_reducible refine' y_lst _ (by simp) | (with_reducible show Y _ (tCB (rLen _) _) _ _; first | exact y_lenOwn rfl | exact y_lenSc (y_var rfl)) | with_reducible refine' y_len _ _ | with_reducible refine' y_ne _ _ _ | with_reducible refine' y_chain _ _ _ | with_reducible refine' y_andV _ (fun _ => _) | with_reducible refine' y_orV _ (fun _ => _) | with_reducible refine' y_isN _ | with_reducible refine' y_notN _ | exact rfl | (show _ = _; assumption) | exact atI_nat (by assumption) | (show CPow _ _; exact ⟨by decide, by decide, by decide⟩) | (show (0 : Int) < _; first | decide | omega) | (show CDiv _ _; exact ⟨by first | decide | omega, by first | decide | omega⟩) | (show CMul _ _; first | exact .inl ⟨by omega, by omega⟩ | exact .inr ⟨by omega, by omega⟩) ))) (by show decide (s / p = s) = false; exact decide_eq_false (by omega)))) fun _ _ => ?_
          exact z_ret (by assumption) (y_is (by (repeat' (first | with_reducible exact y_int | with_reducible exact y_str | (with_reducible show Y _ (tVar _) _ _; exact y_var rfl) | (with_reducible refine' y_eq _ _ _) | (with_reducible refine' y_ixT _ _ _) | with_reducible refine' y_ixL _ _ _ | with_reducible exact ya_nilD | with_reducible exact y_bl | with_reducible exact y_non | with_reducible exact yo_none | with_reducible exact yt_yes | with_reducible refine' yt_test _ | with_reducible refine' yt_B _ | with_reducible refine' yt_not _ | with_reducible refine' yt_and _ (fun _ => _) | with_reducible refine' yt_or _ (fun _ => _) | with_reducible refine' y_I0 _ _ | with_reducible refine' y_B0 _ _ | with_reducible refine' y_IC _ _ _ | with_reducible refine' y_parts (by assumption) _ | with_reducible refine' y_rows (by assumption) _ | with_reducible refine' ya_consD _ _ | with_reducible refine' y_tup _ (by simp) | with_reducible refine' y_lst _ (by simp) | (with_reducible show Y _ (tCB (rLen _) _) _ _; first | exact y_lenOwn rfl | exact y_lenSc (y_var rfl)) | with_reducible refine' y_len _ _ | with_reducible refine' y_ne _ _ _ | with_reducible refine' y_chain _ _ _ | with_reducible refine' y_andV _ (fun _ => _) | with_reducible refine' y_orV _ (fun _ => _) | with_reducible refine' y_isN _ | with_reducible refine' y_notN _ | exact rfl | (show _ = _; assumption) | exact atI_nat (by assumption) | (show CPow _ _; exact ⟨by decide, by decide, by decide⟩) | (show (0 : Int) < _; first | decide | omega) | (show CDiv _ _; exact ⟨by first | decide | omega, by first | decide | omega⟩) | (show CMul _ _; first | exact .inl ⟨by omega, by omega⟩ | exact .inr ⟨by omega, by omega⟩) ))) (by first | rfl | (simp; done) | (congr 1; (first | rfl | (simp; done) | (simp only [sx_mc, sx_mb, sx_cm, sx_cb, sx_bm, sx_bc, decide_true, decide_false, Bool.and_true, Bool.true_and, Bool.not_true, Bool.not_false, Bool.and_false, Bool.false_and, Bool.or_false, Bool.or_true, decide_eq_true_eq, Bool.and_eq_true, decide_eq_false_iff_not]; first | done | omega) | (simp [sx_mc, sx_mb, sx_cm, sx_cb, sx_bm, sx_bc]; first | done | omega) | omega)))) k
        · refine z_no (by assumption) (yt_and (a := true) (b := false) (yt_is (by (repeat' (first | with_reducible exact y_int | with_reducible exact y_str | (with_reducible show Y _ (tVar _) _ _; exact y_var rfl) | (with_reducible refine' y_eq _ _ _) | (with_reducible refine' y_ixT _ _ _) | with_reducible refine' y_ixL _ _ _ | with_reducible exact ya_nilD | with_reducible exact y_bl | with_reducible exact y_non | with_reducible exact yo_none | with_reducible exact yt_yes | with_reducible refine' yt_test _ | with_reducible refine' yt_B _ | with_reducible refine' yt_not _ | with_reducible refine' yt_and _ (fun _ => _) | with_reducible refine' yt_or _ (fun _ => _) | with_reducible refine' y_I0 _ _ | with_reducible refine' y_B0 _ _ | with_reducible refine' y_IC _ _ _ | with_reducible refine' y_parts (by assumption) _ | with_reducible refine' y_rows (by assumption) _ | with_reducible refine' ya_consD _ _ | with_reducible refine' y_tup _ (by simp) | with_reducible refine' y_lst _ (by simp) | (with_reducible show Y _ (tCB (rLen _) _) _ _; first | exact y_lenOwn rfl | exact y_lenSc (y_var rfl)) | with_reducible refine' y_len _ _ | with_reducible refine' y_ne _ _ _ | with_reducible refine' y_chain _ _ _ | with_reducible refine' y_andV _ (fun _ => _) | with_reducible refine' y_orV _ (fun _ => _) | with_reducible refine' y_isN _ | with_reducible refine' y_notN _ | exact rfl | (show _ = _; assumption) | exact atI_nat (by assumption) | (show CPow _ _; exact ⟨by decide, by decide, by decide⟩) | (show (0 : Int) < _; first | decide | omega) | (show CDiv _ _; exact ⟨by first | decide | omega, by first | decide | omega⟩) | (show CMul _ _; first | exact .inl ⟨by omega, by omega⟩ | exact .inr ⟨by omega, by omega⟩) ))) (by (first | rfl | (simp; done) | (simp only [sx_mc, sx_mb, sx_cm, sx_cb, sx_bm, sx_bc, decide_true, decide_false, Bool.and_true, Bool.true_and, Bool.not_true, Bool.not_false, Bool.and_false, Bool.false_and, Bool.or_false, Bool.or_true, decide_eq_true_eq, Bool.and_eq_true, decide_eq_false_iff_not]; first | done | omega) | (simp [sx_mc, sx_mb, sx_cm, sx_cb, sx_bm, sx_bc]; first | done | omega) | omega))) fun _ => yt_andF (yt_is (b := false) (by (repeat' (first | with_reducible exact y_int | with_reducible exact y_str | (with_reducible show Y _ (tVar _) _ _; exact y_var rfl) | (with_reducible refine' y_eq _ _ _) | (with_reducible refine' y_ixT _ _ _) | with_reducible refine' y_ixL _ _ _ | with_reducible exact ya_nilD | with_reducible exact y_bl | with_reducible exact y_non | with_reducible exact yo_none | with_reducible exact yt_yes | with_reducible refine' yt_test _ | with_reducible refine' yt_B _ | with_reducible refine' yt_not _ | with_reducible refine' yt_and _ (fun _ => _) | with_reducible refine' yt_or _ (fun _ => _) | with_reducible refine' y_I0 _ _ | with_reducible refine' y_B0 _ _ | with_reducible refine' y_IC _ _ _ | with_reducible refine' y_parts (by assumption) _ | with_reducible refine' y_rows (by assumption) _ | with_reducible refine' ya_consD _ _ | with_reducible refine' y_tup _ (by simp) | with_reducible refine' y_lst _ (by simp) | (with_reducible show Y _ (tCB (rLen _) _) _ _; first | exact y_lenOwn rfl | exact y_lenSc (y_var rfl)) | with_reducible refine' y_len _ _ | with_reducible refine' y_ne _ _ _ | with_reducible refine' y_chain _ _ _ | with_reducible refine' y_andV _ (fun _ => _) | with_reducible refine' y_orV _ (fun _ => _) | with_reducible refine' y_isN _ | with_reducible refine' y_notN _ | exact rfl | (show _ = _; assumption) | exact atI_nat (by assumption) | (show CPow _ _; exact ⟨by decide, by decide, by decide⟩) | (show (0 : Int) < _; first | decide | omega) | (show CDiv _ _; exact ⟨by first | decide | omega, by first | decide | omega⟩) | (show CMul _ _; first | exact .inl ⟨by omega, by omega⟩ | exact .inr ⟨by omega, by omega⟩) ))) (by show decide (1 = s) = false; exact decide_eq_false (by omega)))) fun _ _ => ?_
          exact z_ret (by assumption) (y_is (by (repeat' (first | with_reducible exact y_int | with_reducible exact y_str | (with_reducible show Y _ (tVar _) _ _; exact y_var rfl) | (with_reducible refine' y_eq _ _ _) | (with_reducible refine' y_ixT _ _ _) | with_reducible refine' y_ixL _ _ _ | with_reducible exact ya_nilD | with_reducible exact y_bl | with_reducible exact y_non | with_reducible exact yo_none | with_reducible exact yt_yes | with_reducible refine' yt_test _ | with_reducible refine' yt_B _ | with_reducible refine' yt_not _ | with_reducible refine' yt_and _ (fun _ => _) | with_reducible refine' yt_or _ (fun _ => _) | with_reducible refine' y_I0 _ _ | with_reducible refine' y_B0 _ _ | with_reducible refine' y_IC _ _ _ | with_reducible refine' y_parts (by assumption) _ | with_reducible refine' y_rows (by assumption) _ | with_reducible refine' ya_consD _ _ | with_reducible refine' y_tup _ (by simp) | with_reducible refine' y_lst _ (by simp) | (with_reducible show Y _ (tCB (rLen _) _) _ _; first | exact y_lenOwn rfl | exact y_lenSc (y_var rfl)) | with_reducible refine' y_len _ _ | with_reducible refine' y_ne _ _ _ | with_reducible refine' y_chain _ _ _ | with_reducible refine' y_andV _ (fun _ => _) | with_reducible refine' y_orV _ (fun _ => _) | with_reducible refine' y_isN _ | with_reducible refine' y_notN _ | exact rfl | (show _ = _; assumption) | exact atI_nat (by assumption) | (show CPow _ _; exact ⟨by decide, by decide, by decide⟩) | (show (0 : Int) < _; first | decide | omega) | (show CDiv _ _; exact ⟨by first | decide | omega, by first | decide | omega⟩) | (show CMul _ _; first | exact .inl ⟨by omega, by omega⟩ | exact .inr ⟨by omega, by omega⟩) ))) (by first | rfl | (simp; done) | (congr 1; (first | rfl | (simp; done) | (simp only [sx_mc, sx_mb, sx_cm, sx_cb, sx_bm, sx_bc, decide_true, decide_false, Bool.and_true, Bool.true_and, Bool.not_true, Bool.not_false, Bool.and_false, Bool.false_and, Bool.or_false, Bool.or_true, decide_eq_true_eq, Bool.and_eq_true, decide_eq_false_iff_not]; first | done | omega) | (simp [sx_mc, sx_mb, sx_cm, sx_cb, sx_bm, sx_bc]; first | done | omega) | omega)))) k
        · refine z_no (by assumption) (yt_andF (yt_is (by (repeat' (first | with_reducible exact y_int | with_reducible exact y_str | (with_reducible show Y _ (tVar _) _ _; exact y_var rfl) | (with_reducible refine' y_eq _ _ _) | (with_reducible refine' y_ixT _ _ _) | with_reducible refine' y_ixL _ _ _ | with_reducible exact ya_nilD | with_reducible exact y_bl | with_reducible exact y_non | with_reducible exact yo_none | with_reducible exact yt_yes | with_reducible refine' yt_test _ | with_reducible refine' yt_B _ | with_reducible refine' yt_not _ | with_reducible refine' yt_and _ (fun _ => _) | with_reducible refine' yt_or _ (fun _ => _) | with_reducible refine' y_I0 _ _ | with_reducible refine' y_B0 _ _ | with_reducible refine' y_IC _ _ _ | with_reducible refine' y_parts (by assumption) _ | with_reducible refine' y_rows (by assumption) _ | with_reducible refine' ya_consD _ _ | with_reducible refine' y_tup _ (by simp) | with_reducible refine' y_lst _ (by simp) | (with_reducible show Y _ (tCB (rLen _) _) _ _; first | exact y_lenOwn rfl | exact y_lenSc (y_var rfl)) | with_reducible refine' y_len _ _ | with_reducible refine' y_ne _ _ _ | with_reducible refine' y_chain _ _ _ | with_reducible refine' y_andV _ (fun _ => _) | with_reducible refine' y_orV _ (fun _ => _) | with_reducible refine' y_isN _ | with_reducible refine' y_notN _ | exact rfl | (show _ = _; assumption) | exact atI_nat (by assumption) | (show CPow _ _; exact ⟨by decide, by decide, by decide⟩) | (show (0 : Int) < _; first | decide | omega) | (show CDiv _ _; exact ⟨by first | decide | omega, by first | decide | omega⟩) | (show CMul _ _; first | exact .inl ⟨by omega, by omega⟩ | exact .inr ⟨by omega, by omega⟩) ))) (by (first | rfl | (simp; done) | (simp only [sx_mc, sx_mb, sx_cm, sx_cb, sx_bm, sx_bc, decide_true, decide_false, Bool.and_true, Bool.true_and, Bool.not_true, Bool.not_false, Bool.and_false, Bool.false_and, Bool.or_false, Bool.or_true, decide_eq_true_eq, Bool.and_eq_true, decide_eq_false_iff_not]; first | done | omega) | (simp [sx_mc, sx_mb, sx_cm, sx_cb, sx_bm, sx_bc]; first | done | omega) | omega)))) fun _ _ => ?_
          exact z_ret (by assumption) (y_is (by (repeat' (first | with_reducible exact y_int | with_reducible exact y_str | (with_reducible show Y _ (tVar _) _ _; exact y_var rfl) | (with_reducible refine' y_eq _ _ _) | (with_reducible refine' y_ixT _ _ _) | with_reducible refine' y_ixL _ _ _ | with_reducible exact ya_nilD | with_reducible exact y_bl | with_reducible exact y_non | with_reducible exact yo_none | with_reducible exact yt_yes | with_reducible refine' yt_test _ | with_reducible refine' yt_B _ | with_reducible refine' yt_not _ | with_reducible refine' yt_and _ (fun _ => _) | with_reducible refine' yt_or _ (fun _ => _) | with_reducible refine' y_I0 _ _ | with_reducible refine' y_B0 _ _ | with_reducible refine' y_IC _ _ _ | with_reducible refine' y_parts (by assumption) _ | with_reducible refine' y_rows (by assumption) _ | with_reducible refine' ya_consD _ _ | with_reducible refine' y_tup _ (by simp) | with_reducible refine' y_lst _ (by simp) | (with_reducible show Y _ (tCB (rLen _) _) _ _; first | exact y_lenOwn rfl | exact y_lenSc (y_var rfl)) | with_reducible refine' y_len _ _ | with_reducible refine' y_ne _ _ _ | with_reducible refine' y_chain _ _ _ | with_reducible refine' y_andV _ (fun _ => _) | with_reducible refine' y_orV _ (fun _ => _) | with_reducible refine' y_isN _ | with_reducible refine' y_notN _ | exact rfl | (show _ = _; assumption) | exact atI_nat (by assumption) | (show CPow _ _; exact ⟨by decide, by decide, by decide⟩) | (show (0 : Int) < _; first | decide | omega) | (show CDiv _ _; exact ⟨by first | decide | omega, by first | decide | omega⟩) | (show CMul _ _; first | exact .inl ⟨by omega, by omega⟩ | exact .inr ⟨by omega, by omega⟩) ))) (by first | rfl | (simp; done) | (congr 1; (first | rfl | (simp; done) | (simp only [sx_mc, sx_mb, sx_cm, sx_cb, sx_bm, sx_bc, decide_true, decide_false, Bool.and_true, Bool.true_and, Bool.not_true, Bool.not_false, Bool.and_false, Bool.false_and, Bool.or_false, Bool.or_true, decide_eq_true_eq, Bool.and_eq_true, decide_eq_false_iff_not]; first | done | omega) | (simp [sx_mc, sx_mb, sx_cm, sx_cb, sx_bm, sx_bc]; first | done | omega) | omega)))) k
end
end MW

/-! F3 -/
set_option Elab.async false
set_option linter.all false
set_option maxRecDepth 100000
set_option maxHeartbeats 400000
namespace MW
open PySem PySem.Spec L2

/-! ### the law's cells -/
def cellAt (ns : List Int) (k : Nat) : Int := ns.getD k 0
def lawSize (c : Int) : Int := if c % 4 = 0 then 1 + c / 4 % 10 ^ 60 else if c % 4 = 1 then 10 ^ 60 - c / 4 % 9 else 1 + c / 4 % 40
theorem lawSize_ok (c : Int) : 1 ≤ lawSize c ∧ lawSize c ≤ 10 ^ 60 := by
  unfold lawSize
  split
  · have h1 := Int.emod_nonneg (c / 4) (show (10 : Int) ^ 60 ≠ 0 by decide)
    have h2 := Int.emod_lt_of_pos (c / 4) (show (0 : Int) < 10 ^ 60 by decide)
    omega
  · split <;> omega
def lawRow (cell many : Int) : Rw := if cell % 8 < 4 then .mesh (lawSize (cell / 8 / many / many)) (cell / 8 % many).toNat (cell / 8 / many % many).toNat else if cell % 8 < 6 then .crush (cell / 8 % many).toNat else .bin (cell / 8 % 6)
section
variable {P : Program} {w : World} {K : PySem.W.Frag} {mg : Str → Option Value} {base : Heap}
theorem sc_of {ns : List Int} {H : Hp} {v : V} (h : Dv H (.list (ns.map .int)) v) : Sc K ns H v := by
  obtain ⟨a, vs, rfl, h1, h2⟩ := h
  rw [DvAll.ints.mp h2] at h1
  exact ⟨a, rfl, .inl (.inl h1)⟩
def sp__law_cell_at (K : PySem.W.Frag) : Sp := fun vs H Q E => ∃ (ns : List Int) (k : Nat), spP [Sc K ns, D (.int k)] (D (.int (cellAt ns k))) vs H Q E
theorem ok__law_cell_at (T : Tx K mg) : Cal P w K mg base 1 "_law_cell_at" ["script", "k"] (sp__law_cell_at K) := by
  obtain ⟨fd, F⟩ := T.c.def_ 24 (d := d__law_cell_at) rfl
  refine ⟨_, fd, T.g__law_cell_at, F.kp, FunD.bindsN (ps := ["script", "k"]) F fun _ _ _ _ _ _ us hl => match us, hl with | [_, _], _ => rfl, def_ok F sc__law_cell_at ?_ fun cdv A outer s H vs Q E hr h => ?_⟩
  · intro vs H Q E h
    obtain ⟨_, _, h⟩ := h
    exact h.len
  · obtain ⟨ns, i, Hb, sm, ha, k⟩ := h
    have c := start_cur (N := N__law_cell_at) (k := 0) sm ha (by repeat' (first | exact trivial | exact mono_D _ | exact mono_Ws | exact mono_Sc | refine ⟨?_, ?_⟩)) rfl
    refine ⟨_, (pss_cons (ps_if (pt_cmpR op_lt (pv 1) (pe_callB (kLen (K := K) rfl) (by rfl) T.len bb_len (pa_cons (pv 0) pa_nil)) (nomark _))
    (pss_one (ps_ret (pe_ix (kxL (K := K) rfl) (pv 0) (pv 1) (fun _ _ => rfl))))
    pss_nil)
  (pss_one (ps_ret pe_int))), ?_⟩
    refine z_when (b := decide ((i : Int) < (ns.length : Int))) c (by (repeat' (first | with_reducible exact y_int | with_reducible exact y_str | (with_reducible show Y _ (tVar _) _ _; exact y_var rfl) | (with_reducible refine' y_eq _ _ _) | (with_reducible refine' y_ixT _ _ _) | with_reducible refine' y_ixL _ _ _ | with_reducible exact ya_nilD | with_reducible exact y_bl | with_reducible exact y_non | with_reducible exact yo_none | with_reducible exact yt_yes | with_reducible refine' yt_test _ | with_reducible refine' yt_B _ | with_reducible refine' yt_not _ | with_reducible refine' yt_and _ (fun _ => _) | with_reducible refine' yt_or _ (fun _ => _) | with_reducible refine' y_I0 _ _ | with_reducible refine' y_B0 _ _ | with_reducible refine' y_IC _ _ _ | with_reducible refine' y_parts (by assumption) _ | with_reducible refine' y_rows (by assumption) _ | with_reducible refine' ya_consD _ _ | with_reducible refine' y_tup _ (by simp) | with_reducible refine' y_lst _ (by simp) | (with_reducible show Y _ (tCB (rLen _) _) _ _; first | exact y_lenOwn rfl | exact y_lenSc (y_var rfl)) | with_reducible refine' y_len _ _ | with_reducible refine' y_ne _ _ _ | with_reducible refine' y_chain _ _ _ | with_reducible refine' y_andV _ (fun _ => _) | with_reducible refine' y_orV _ (fun _ => _) | with_reducible refine' y_isN _ | with_reducible refine' y_notN _ | exact rfl | (show _ = _; assumption) | exact atI_nat (by assumption) | (show CPow _ _; exact ⟨by decide, by decide, by decide⟩) | (show (0 : Int) < _; first | decide | omega) | (show CDiv _ _; exact ⟨by first | decide | omega, by first | decide | omega⟩) | (show CMul _ _; first | exact .inl ⟨by omega, by omega⟩ | exact .inr ⟨by omega, by omega⟩) ))) (fun hb H' c => ?_) (fun hb H' c => ?_)
    · have hi : i < ns.length := by have := of_decide_eq_true hb; omega
      refine z_ret c (y_ixSc (k := cellAt ns i) (y_var rfl) (y_var rfl) (atI_nat ?_)) k
      unfold cellAt
      simp [List.getD, List.getElem?_eq_getElem hi]
    · have hi : ns.length ≤ i := by have := of_decide_eq_false hb; omega
      refine z_ret c (y_is (d := .int 0) y_int ?_) k
      unfold cellAt
      simp [List.getD, List.getElem?_eq_none hi]
def sp__law_size : Sp := fun vs H Q E => ∃ (c : Int), spP [D (.int c)] (D (.int (lawSize c))) vs H Q E
theorem ok__law_size (T : Tx K mg) : Cal P w K mg base 1 "_law_size" ["cell"] sp__law_size := by
  obtain ⟨fd, F⟩ := T.c.def_ 25 (d := d__law_size) rfl
  refine ⟨_, fd, T.g__law_size, F.kp, FunD.bindsN (ps := ["cell"]) F fun _ _ _ _ _ _ us hl => match us, hl with | [_], _ => rfl, def_ok F sc__law_size ?_ fun cdv A outer s H vs Q E hr h => ?_⟩
  · intro vs H Q E h
    obtain ⟨_, h⟩ := h
    exact h.len
  · obtain ⟨cell, Hb, sm, ha, k⟩ := h
    have c := start_cur (N := N__law_size) (k := 1) sm ha (by repeat' (first | exact trivial | exact mono_D _ | exact mono_Ws | exact mono_Sc | refine ⟨?_, ?_⟩)) rfl
    refine ⟨_, (pss_cons (ps_set (i := 1) sc__law_size.nd rfl (Or.inl rfl) (pe_op op_fdiv (pv 0) pe_int))
  (pss_cons (ps_if (pt_cmpR op_eq (pe_op op_mod (pv 0) pe_int) pe_int (nomark _))
    (pss_one (ps_ret (pe_op op_add pe_int (pe_op op_mod (pv 1) (pe_op op_pow pe_int pe_int)))))
    pss_nil)
  (pss_cons (ps_if (pt_cmpR op_eq (pe_op op_mod (pv 0) pe_int) pe_int (nomark _))
    (pss_one (ps_ret (pe_op op_sub (pe_op op_pow pe_int pe_int) (pe_op op_mod (pv 1) pe_int))))
    pss_nil)
  (pss_one (ps_ret (pe_op op_add pe_int (pe_op op_mod (pv 1) pe_int))))))), ?_⟩
    refine q_asgD c (d := .int (cell / 4)) (by (repeat' (first | with_reducible exact y_int | with_reducible exact y_str | (with_reducible show Y _ (tVar _) _ _; exact y_var rfl) | (with_reducible refine' y_eq _ _ _) | (with_reducible refine' y_ixT _ _ _) | with_reducible refine' y_ixL _ _ _ | with_reducible exact ya_nilD | with_reducible exact y_bl | with_reducible exact y_non | with_reducible exact yo_none | with_reducible exact yt_yes | with_reducible refine' yt_test _ | with_reducible refine' yt_B _ | with_reducible refine' yt_not _ | with_reducible refine' yt_and _ (fun _ => _) | with_reducible refine' yt_or _ (fun _ => _) | with_reducible refine' y_I0 _ _ | with_reducible refine' y_B0 _ _ | with_reducible refine' y_IC _ _ _ | with_reducible refine' y_parts (by assumption) _ | with_reducible refine' y_rows (by assumption) _ | with_reducible refine' ya_consD _ _ | with_reducible refine' y_tup _ (by simp) | with_reducible refine' y_lst _ (by simp) | (with_reducible show Y _ (tCB (rLen _) _) _ _; first | exact y_lenOwn rfl | exact y_lenSc (y_var rfl)) | with_reducible refine' y_len _ _ | with_reducible refine' y_ne _ _ _ | with_reducible refine' y_chain _ _ _ | with_reducible refine' y_andV _ (fun _ => _) | with_reducible refine' y_orV _ (fun _ => _) | with_reducible refine' y_isN _ | with_reducible refine' y_notN _ | exact rfl | (show _ = _; assumption) | exact atI_nat (by assumption) | (show CPow _ _; exact ⟨by decide, by decide, by decide⟩) | (show (0 : Int) < _; first | decide | omega) | (show CDiv _ _; exact ⟨by first | decide | omega, by first | decide | omega⟩) | (show CMul _ _; first | exact .inl ⟨by omega, by omega⟩ | exact .inr ⟨by omega, by omega⟩) ))) fun σ1 H1 c => ?_
    unfold lawSize at k
    refine z_when (b := decide (cell % 4 = 0)) c (yt_is (by (repeat' (first | with_reducible exact y_int | with_reducible exact y_str | (with_reducible show Y _ (tVar _) _ _; exact y_var rfl) | (with_reducible refine' y_eq _ _ _) | (with_reducible refine' y_ixT _ _ _) | with_reducible refine' y_ixL _ _ _ | with_reducible exact ya_nilD | with_reducible exact y_bl | with_reducible exact y_non | with_reducible exact yo_none | with_reducible exact yt_yes | with_reducible refine' yt_test _ | with_reducible refine' yt_B _ | with_reducible refine' yt_not _ | with_reducible refine' yt_and _ (fun _ => _) | with_reducible refine' yt_or _ (fun _ => _) | with_reducible refine' y_I0 _ _ | with_reducible refine' y_B0 _ _ | with_reducible refine' y_IC _ _ _ | with_reducible refine' y_parts (by assumption) _ | with_reducible refine' y_rows (by assumption) _ | with_reducible refine' ya_consD _ _ | with_reducible refine' y_tup _ (by simp) | with_reducible refine' y_lst _ (by simp) | (with_reducible show Y _ (tCB (rLen _) _) _ _; first | exact y_lenOwn rfl | exact y_lenSc (y_var rfl)) | with_reducible refine' y_len _ _ | with_reducible refine' y_ne _ _ _ | with_reducible refine' y_chain _ _ _ | with_reducible refine' y_andV _ (fun _ => _) | with_reducible refine' y_orV _ (fun _ => _) | with_reducible refine' y_isN _ | with_reducible refine' y_notN _ | exact rfl | (show _ = _; assumption) | exact atI_nat (by assumption) | (show CPow _ _; exact ⟨by decide, by decide, by decide⟩) | (show (0 : Int) < _; first | decide | omega) | (show CDiv _ _; exact ⟨by first | decide | omega, by first | decide | omega⟩) | (show CMul _ _; first | exact .inl ⟨by omega, by omega⟩ | exact .inr ⟨by omega, by omega⟩) ))) (by (first | rfl | (simp; done) | (simp only [sx_mc, sx_mb, sx_cm, sx_cb, sx_bm, sx_bc, decide_true, decide_false, Bool.and_true, Bool.true_and, Bool.not_true, Bool.not_false, Bool.and_false, Bool.false_and, Bool.or_false, Bool.or_true, decide_eq_true_eq, Bool.and_eq_true, decide_eq_false_iff_not]; first | done | omega) | (simp [sx_mc, sx_mb, sx_cm, sx_cb, sx_bm, sx_bc]; first | done | omega) | omega))) (fun hb H' c => ?_) (fun hb H' c => ?_)
    · rw [if_pos (of_decide_eq_true hb)] at k
      exact z_ret c (y_is (d := .int (1 + cell / 4 % 10 ^ (60 : Int).toNat)) (y_I0 y_int (y_IC (y_var rfl) (y_IC y_int y_int ⟨by decide, by decide, by decide⟩) (by decide))) rfl) k
    · rw [if_neg (of_decide_eq_false hb)] at k
      refine z_when (b := decide (cell % 4 = 1)) c (yt_is (by (repeat' (first | with_reducible exact y_int | with_reducible exact y_str | (with_reducible show Y _ (tVar _) _ _; exact y_var rfl) | (with_reducible refine' y_eq _ _ _) | (with_reducible refine' y_ixT _ _ _) | with_reducible refine' y_ixL _ _ _ | with_reducible exact ya_nilD | with_reducible exact y_bl | with_reducible exact y_non | with_reducible exact yo_none | with_reducible exact yt_yes | with_reducible refine' yt_test _ | with_reducible refine' yt_B _ | with_reducible refine' yt_not _ | with_reducible refine' yt_and _ (fun _ => _) | with_reducible refine' yt_or _ (fun _ => _) | with_reducible refine' y_I0 _ _ | with_reducible refine' y_B0 _ _ | with_reducible refine' y_IC _ _ _ | with_reducible refine' y_parts (by assumption) _ | with_reducible refine' y_rows (by assumption) _ | with_reducible refine' ya_consD _ _ | with_reducible refine' y_tup _ (by simp) | with_reducible refine' y_lst _ (by simp) | (with_reducible show Y _ (tCB (rLen _) _) _ _; first | exact y_lenOwn rfl | exact y_lenSc (y_var rfl)) | with_reducible refine' y_len _ _ | with_reducible refine' y_ne _ _ _ | with_reducible refine' y_chain _ _ _ | with_reducible refine' y_andV _ (fun _ => _) | with_reducible refine' y_orV _ (fun _ => _) | with_reducible refine' y_isN _ | with_reducible refine' y_notN _ | exact rfl | (show _ = _; assumption) | exact atI_nat (by assumption) | (show CPow _ _; exact ⟨by decide, by decide, by decide⟩) | (show (0 : Int) < _; first | decide | omega) | (show CDiv _ _; exact ⟨by first | decide | omega, by first | decide | omega⟩) | (show CMul _ _; first | exact .inl ⟨by omega, by omega⟩ | exact .inr ⟨by omega, by omega⟩) ))) (by (first | rfl | (simp; done) | (simp only [sx_mc, sx_mb, sx_cm, sx_cb, sx_bm, sx_bc, decide_true, decide_false, Bool.and_true, Bool.true_and, Bool.not_true, Bool.not_false, Bool.and_false, Bool.false_and, Bool.or_false, Bool.or_true, decide_eq_true_eq, Bool.and_eq_true, decide_eq_false_iff_not]; first | done | omega) | (simp [sx_mc, sx_mb, sx_cm, sx_cb, sx_bm, sx_bc]; first | done | omega) | omega))) (fun hb H' c => ?_) (fun hb H' c => ?_)
      · rw [if_pos (of_decide_eq_true hb)] at k
        exact z_ret c (y_is (d := .int (10 ^ (60 : Int).toNat - cell / 4 % 9)) (y_I0 (y_IC y_int y_int ⟨by decide, by decide, by decide⟩) (by (repeat' (first | with_reducible exact y_int | with_reducible exact y_str | (with_reducible show Y _ (tVar _) _ _; exact y_var rfl) | (with_reducible refine' y_eq _ _ _) | (with_reducible refine' y_ixT _ _ _) | with_reducible refine' y_ixL _ _ _ | with_reducible exact ya_nilD | with_reducible exact y_bl | with_reducible exact y_non | with_reducible exact yo_none | with_reducible exact yt_yes | with_reducible refine' yt_test _ | with_reducible refine' yt_B _ | with_reducible refine' yt_not _ | with_reducible refine' yt_and _ (fun _ => _) | with_reducible refine' yt_or _ (fun _ => _) | with_reducible refine' y_I0 _ _ | with_reducible refine' y_B0 _ _ | with_reducible refine' y_IC _ _ _ | with_reducible refine' y_parts (by assumption) _ | with_reducible refine' y_rows (by assumption) _ | with_reducible refine' ya_consD _ _ | with_reducible refine' y_tup _ (by simp) | with_reducible refine' y_lst _ (by simp) | (with_reducible show Y _ (tCB (rLen _) _) _ _; first | exact y_lenOwn rfl | exact y_lenSc (y_var rfl)) | with_reducible refine' y_len _ _ | with_reducible refine' y_ne _ _ _ | with_reducible refine' y_chain _ _ _ | with_reducible refine' y_andV _ (fun _ => _) | with_reducible refine' y_orV _ (fun _ => _) | with_reducible refine' y_isN _ | with_reducible refine' y_notN _ | exact rfl | (show _ = _; assumption) | exact atI_nat (by assumption) | (show CPow _ _; exact ⟨by decide, by decide, by decide⟩) | (show (0 : Int) < _; first | decide | omega) | (show CDiv _ _; exact ⟨by first | decide | omega, by first | decide | omega⟩) | (show CMul _ _; first | exact .inl ⟨by omega, by omega⟩ | exact .inr ⟨by omega, by omega⟩) )))) rfl) k
      · rw [if_neg (of_decide_eq_false hb)] at k
        exact z_ret c (by (repeat' (first | with_reducible exact y_int | with_reducible exact y_str | (with_reducible show Y _ (tVar _) _ _; exact y_var rfl) | (with_reducible refine' y_eq _ _ _) | (with_reducible refine' y_ixT _ _ _) | with_reducible refine' y_ixL _ _ _ | with_reducible exact ya_nilD | with_reducible exact y_bl | with_reducible exact y_non | with_reducible exact yo_none | with_reducible exact yt_yes | with_reducible refine' yt_test _ | with_reducible refine' yt_B _ | with_reducible refine' yt_not _ | with_reducible refine' yt_and _ (fun _ => _) | with_reducible refine' yt_or _ (fun _ => _) | with_reducible refine' y_I0 _ _ | with_reducible refine' y_B0 _ _ | with_reducible refine' y_IC _ _ _ | with_reducible refine' y_parts (by assumption) _ | with_reducible refine' y_rows (by assumption) _ | with_reducible refine' ya_consD _ _ | with_reducible refine' y_tup _ (by simp) | with_reducible refine' y_lst _ (by simp) | (with_reducible show Y _ (tCB (rLen _) _) _ _; first | exact y_lenOwn rfl | exact y_lenSc (y_var rfl)) | with_reducible refine' y_len _ _ | with_reducible refine' y_ne _ _ _ | with_reducible refine' y_chain _ _ _ | with_reducible refine' y_andV _ (fun _ => _) | with_reducible refine' y_orV _ (fun _ => _) | with_reducible refine' y_isN _ | with_reducible refine' y_notN _ | exact rfl | (show _ = _; assumption) | exact atI_nat (by assumption) | (show CPow _ _; exact ⟨by decide, by decide, by decide⟩) | (show (0 : Int) < _; first | decide | omega) | (show CDiv _ _; exact ⟨by first | decide | omega, by first | decide | omega⟩) | (show CMul _ _; first | exact .inl ⟨by omega, by omega⟩ | exact .inr ⟨by omega, by omega⟩) ))) k
def sp__law_row : Sp := fun vs H Q E => ∃ (cell many : Int), (1 ≤ many ∧ many ≤ 8) ∧ spP [D (.int cell), D (.int many)] (D (rowD (lawRow cell many))) vs H Q E
theorem ok__law_row (T : Tx K mg) : Cal P w K mg base 2 "_law_row" ["cell", "many"] sp__law_row := by
  have C__law_size := ok__law_size (P := P) (w := w) (base := base) T
  obtain ⟨fd, F⟩ := T.c.def_ 28 (d := d__law_row) rfl
  refine ⟨_, fd, T.g__law_row, F.kp, FunD.bindsN (ps := ["cell", "many"]) F fun _ _ _ _ _ _ us hl => match us, hl with | [_, _], _ => rfl, def_ok F sc__law_row ?_ fun cdv A outer s H vs Q E hr h => ?_⟩
  · intro vs H Q E h
    obtain ⟨_, _, _, h⟩ := h
    exact h.len
  · obtain ⟨cell, many, hm, Hb, sm, ha, k⟩ := h
    have c := start_cur (N := N__law_row) (k := 1) sm ha (by repeat' (first | exact trivial | exact mono_D _ | exact mono_Ws | exact mono_Sc | refine ⟨?_, ?_⟩)) rfl
    refine ⟨_, (pss_cons (ps_set (i := 2) sc__law_row.nd rfl (Or.inl rfl) (pe_op op_fdiv (pv 0) pe_int))
  (pss_cons (ps_if (pt_cmpR op_lt (pe_op op_mod (pv 0) pe_int) pe_int (nomark _))
    (pss_one (ps_ret (pe_tup (pa_cons pe_str (pa_cons (pe_cal C__law_size (hr.mono (by decide)) (by rfl) (pa_cons (pe_op op_fdiv (pe_op op_fdiv (pv 2) (pv 1)) (pv 1)) pa_nil)) (pa_cons (pe_op op_mod (pv 2) (pv 1)) (pa_cons (pe_op op_mod (pe_op op_fdiv (pv 2) (pv 1)) (pv 1)) pa_nil)))))))
    pss_nil)
  (pss_cons (ps_if (pt_cmpR op_lt (pe_op op_mod (pv 0) pe_int) pe_int (nomark _))
    (pss_one (ps_ret (pe_tup (pa_cons pe_str (pa_cons (pe_op op_mod (pv 2) (pv 1)) pa_nil)))))
    pss_nil)
  (pss_one (ps_ret (pe_tup (pa_cons pe_str (pa_cons (pe_op op_mod (pv 2) pe_int) pa_nil)))))))), ?_⟩
    obtain ⟨hm1, hm2⟩ := hm
    have n1 := Int.emod_nonneg (cell / 8) (show many ≠ 0 by omega)
    have n2 := Int.emod_nonneg (cell / 8 / many) (show many ≠ 0 by omega)
    refine q_asgD c (d := .int (cell / 8)) (by (repeat' (first | with_reducible exact y_int | with_reducible exact y_str | (with_reducible show Y _ (tVar _) _ _; exact y_var rfl) | (with_reducible refine' y_eq _ _ _) | (with_reducible refine' y_ixT _ _ _) | with_reducible refine' y_ixL _ _ _ | with_reducible exact ya_nilD | with_reducible exact y_bl | with_reducible exact y_non | with_reducible exact yo_none | with_reducible exact yt_yes | with_reducible refine' yt_test _ | with_reducible refine' yt_B _ | with_reducible refine' yt_not _ | with_reducible refine' yt_and _ (fun _ => _) | with_reducible refine' yt_or _ (fun _ => _) | with_reducible refine' y_I0 _ _ | with_reducible refine' y_B0 _ _ | with_reducible refine' y_IC _ _ _ | with_reducible refine' y_parts (by assumption) _ | with_reducible refine' y_rows (by assumption) _ | with_reducible refine' ya_consD _ _ | with_reducible refine' y_tup _ (by simp) | with_reducible refine' y_lst _ (by simp) | (with_reducible show Y _ (tCB (rLen _) _) _ _; first | exact y_lenOwn rfl | exact y_lenSc (y_var rfl)) | with_reducible refine' y_len _ _ | with_reducible refine' y_ne _ _ _ | with_reducible refine' y_chain _ _ _ | with_reducible refine' y_andV _ (fun _ => _) | with_reducible refine' y_orV _ (fun _ => _) | with_reducible refine' y_isN _ | with_reducible refine' y_notN _ | exact rfl | (show _ = _; assumption) | exact atI_nat (by assumption) | (show CPow _ _; exact ⟨by decide, by decide, by decide⟩) | (show (0 : Int) < _; first | decide | omega) | (show CDiv _ _; exact ⟨by first | decide | omega, by first | decide | omega⟩) | (show CMul _ _; first | exact .inl ⟨by omega, by omega⟩ | exact .inr ⟨by omega, by omega⟩) ))) fun σ1 H1 c => ?_
    unfold lawRow at k
    refine z_when (b := decide (cell % 8 < 4)) c (yt_is (by (repeat' (first | with_reducible exact y_int | with_reducible exact y_str | (with_reducible show Y _ (tVar _) _ _; exact y_var rfl) | (with_reducible refine' y_eq _ _ _) | (with_reducible refine' y_ixT _ _ _) | with_reducible refine' y_ixL _ _ _ | with_reducible exact ya_nilD | with_reducible exact y_bl | with_reducible exact y_non | with_reducible exact yo_none | with_reducible exact yt_yes | with_reducible refine' yt_test _ | with_reducible refine' yt_B _ | with_reducible refine' yt_not _ | with_reducible refine' yt_and _ (fun _ => _) | with_reducible refine' yt_or _ (fun _ => _) | with_reducible refine' y_I0 _ _ | with_reducible refine' y_B0 _ _ | with_reducible refine' y_IC _ _ _ | with_reducible refine' y_parts (by assumption) _ | with_reducible refine' y_rows (by assumption) _ | with_reducible refine' ya_consD _ _ | with_reducible refine' y_tup _ (by simp) | with_reducible refine' y_lst _ (by simp) | (with_reducible show Y _ (tCB (rLen _) _) _ _; first | exact y_lenOwn rfl | exact y_lenSc (y_var rfl)) | with_reducible refine' y_len _ _ | with_reducible refine' y_ne _ _ _ | with_reducible refine' y_chain _ _ _ | with_reducible refine' y_andV _ (fun _ => _) | with_reducible refine' y_orV _ (fun _ => _) | with_reducible refine' y_isN _ | with_reducible refine' y_notN _ | exact rfl | (show _ = _; assumption) | exact atI_nat (by assumption) | (show CPow _ _; exact ⟨by decide, by decide, by decide⟩) | (show (0 : Int) < _; first | decide | omega) | (show CDiv _ _; exact ⟨by first | decide | omega, by first | decide | omega⟩) | (show CMul _ _; first | exact .inl ⟨by omega, by omega⟩ | exact .inr ⟨by omega, by omega⟩) ))) (by (first | rfl | (simp; done) | (simp only [sx_mc, sx_mb, sx_cm, sx_cb, sx_bm, sx_bc, decide_true, decide_false, Bool.and_true, Bool.true_and, Bool.not_true, Bool.not_false, Bool.and_false, Bool.false_and, Bool.or_false, Bool.or_true, decide_eq_true_eq, Bool.and_eq_true, decide_eq_false_iff_not]; first | done | omega) | (simp [sx_mc, sx_mb, sx_cm, sx_cb, sx_bm, sx_bc]; first | done | omega) | omega))) (fun hb H' c => ?_) (fun hb H' c => ?_)
    · rw [if_pos (of_decide_eq_true hb)] at k
      refine z_ret c (y_is (d := .tuple [.str "mesh", .int (lawSize (cell / 8 / many / many)), .int (cell / 8 % many), .int (cell / 8 / many % many)]) (y_tup (ya_consD y_str (ya_consD (y_call (As := [D (.int (cell / 8 / many / many))]) (ya_cons (by (repeat' (first | with_reducible exact y_int | with_reducible exact y_str | (with_reducible show Y _ (tVar _) _ _; exact y_var rfl) | (with_reducible refine' y_eq _ _ _) | (with_reducible refine' y_ixT _ _ _) | with_reducible refine' y_ixL _ _ _ | with_reducible exact ya_nilD | with_reducible exact y_bl | with_reducible exact y_non | with_reducible exact yo_none | with_reducible exact yt_yes | with_reducible refine' yt_test _ | with_reducible refine' yt_B _ | with_reducible refine' yt_not _ | with_reducible refine' yt_and _ (fun _ => _) | with_reducible refine' yt_or _ (fun _ => _) | with_reducible refine' y_I0 _ _ | with_reducible refine' y_B0 _ _ | with_reducible refine' y_IC _ _ _ | with_reducible refine' y_parts (by assumption) _ | with_reducible refine' y_rows (by assumption) _ | with_reducible refine' ya_consD _ _ | with_reducible refine' y_tup _ (by simp) | with_reducible refine' y_lst _ (by simp) | (with_reducible show Y _ (tCB (rLen _) _) _ _; first | exact y_lenOwn rfl | exact y_lenSc (y_var rfl)) | with_reducible refine' y_len _ _ | with_reducible refine' y_ne _ _ _ | with_reducible refine' y_chain _ _ _ | with_reducible refine' y_andV _ (fun _ => _) | with_reducible refine' y_orV _ (fun _ => _) | with_reducible refine' y_isN _ | with_reducible refine' y_notN _ | exact rfl | (show _ = _; assumption) | exact atI_nat (by assumption) | (show CPow _ _; exact ⟨by decide, by decide, by decide⟩) | (show (0 : Int) < _; first | decide | omega) | (show CDiv _ _; exact ⟨by first | decide | omega, by first | decide | omega⟩) | (show CMul _ _; first | exact .inl ⟨by omega, by omega⟩ | exact .inr ⟨by omega, by omega⟩) ))) (mono_D _) ya_nil) fun vs H Q h => ⟨_, h⟩) (ya_consD (by (repeat' (first | with_reducible exact y_int | with_reducible exact y_str | (with_reducible show Y _ (tVar _) _ _; exact y_var rfl) | (with_reducible refine' y_eq _ _ _) | (with_reducible refine' y_ixT _ _ _) | with_reducible refine' y_ixL _ _ _ | with_reducible exact ya_nilD | with_reducible exact y_bl | with_reducible exact y_non | with_reducible exact yo_none | with_reducible exact yt_yes | with_reducible refine' yt_test _ | with_reducible refine' yt_B _ | with_reducible refine' yt_not _ | with_reducible refine' yt_and _ (fun _ => _) | with_reducible refine' yt_or _ (fun _ => _) | with_reducible refine' y_I0 _ _ | with_reducible refine' y_B0 _ _ | with_reducible refine' y_IC _ _ _ | with_reducible refine' y_parts (by assumption) _ | with_reducible refine' y_rows (by assumption) _ | with_reducible refine' ya_consD _ _ | with_reducible refine' y_tup _ (by simp) | with_reducible refine' y_lst _ (by simp) | (with_reducible show Y _ (tCB (rLen _) _) _ _; first | exact y_lenOwn rfl | exact y_lenSc (y_var rfl)) | with_reducible refine' y_len _ _ | with_reducible refine' y_ne _ _ _ | with_reducible refine' y_chain _ _ _ | with_reducible refine' y_andV _ (fun _ => _) | with_reducible refine' y_orV _ (fun _ => _) | with_reducible refine' y_isN _ | with_reducible refine' y_notN _ | exact rfl | (show _ = _; assumption) | exact atI_nat (by assumption) | (show CPow _ _; exact ⟨by decide, by decide, by decide⟩) | (show (0 : Int) < _; first | decide | omega) | (show CDiv _ _; exact ⟨by first | decide | omega, by first | decide | omega⟩) | (show CMul _ _; first | exact .inl ⟨by omega, by omega⟩ | exact .inr ⟨by omega, by omega⟩) ))) (ya_consD (by (repeat' (first | with_reducible exact y_int | with_reducible exact y_str | (with_reducible show Y _ (tVar _) _ _; exact y_var rfl) | (with_reducible refine' y_eq _ _ _) | (with_reducible refine' y_ixT _ _ _) | with_reducible refine' y_ixL _ _ _ | with_reducible exact ya_nilD | with_reducible exact y_bl | with_reducible exact y_non | with_reducible exact yo_none | with_reducible exact yt_yes | with_reducible refine' yt_test _ | with_reducible refine' yt_B _ | with_reducible refine' yt_not _ | with_reducible refine' yt_and _ (fun _ => _) | with_reducible refine' yt_or _ (fun _ => _) | with_reducible refine' y_I0 _ _ | with_reducible refine' y_B0 _ _ | with_reducible refine' y_IC _ _ _ | with_reducible refine' y_parts (by assumption) _ | with_reducible refine' y_rows (by assumption) _ | with_reducible refine' ya_consD _ _ | with_reducible refine' y_tup _ (by simp) | with_reducible refine' y_lst _ (by simp) | (with_reducible show Y _ (tCB (rLen _) _) _ _; first | exact y_lenOwn rfl | exact y_lenSc (y_var rfl)) | with_reducible refine' y_len _ _ | with_reducible refine' y_ne _ _ _ | with_reducible refine' y_chain _ _ _ | with_reducible refine' y_andV _ (fun _ => _) | with_reducible refine' y_orV _ (fun _ => _) | with_reducible refine' y_isN _ | with_reducible refine' y_notN _ | exact rfl | (show _ = _; assumption) | exact atI_nat (by assumption) | (show CPow _ _; exact ⟨by decide, by decide, by decide⟩) | (show (0 : Int) < _; first | decide | omega) | (show CDiv _ _; exact ⟨by first | decide | omega, by first | decide | omega⟩) | (show CMul _ _; first | exact .inl ⟨by omega, by omega⟩ | exact .inr ⟨by omega, by omega⟩) ))) ya_nilD)))) (by simp)) ?_) k
      simp only [rowD, Int.toNat_of_nonneg n1, Int.toNat_of_nonneg n2]
    · rw [if_neg (of_decide_eq_false hb)] at k
      refine z_when (b := decide (cell % 8 < 6)) c (yt_is (by (repeat' (first | with_reducible exact y_int | with_reducible exact y_str | (with_reducible show Y _ (tVar _) _ _; exact y_var rfl) | (with_reducible refine' y_eq _ _ _) | (with_reducible refine' y_ixT _ _ _) | with_reducible refine' y_ixL _ _ _ | with_reducible exact ya_nilD | with_reducible exact y_bl | with_reducible exact y_non | with_reducible exact yo_none | with_reducible exact yt_yes | with_reducible refine' yt_test _ | with_reducible refine' yt_B _ | with_reducible refine' yt_not _ | with_reducible refine' yt_and _ (fun _ => _) | with_reducible refine' yt_or _ (fun _ => _) | with_reducible refine' y_I0 _ _ | with_reducible refine' y_B0 _ _ | with_reducible refine' y_IC _ _ _ | with_reducible refine' y_parts (by assumption) _ | with_reducible refine' y_rows (by assumption) _ | with_reducible refine' ya_consD _ _ | with_reducible refine' y_tup _ (by simp) | with_reducible refine' y_lst _ (by simp) | (with_reducible show Y _ (tCB (rLen _) _) _ _; first | exact y_lenOwn rfl | exact y_lenSc (y_var rfl)) | with_reducible refine' y_len _ _ | with_reducible refine' y_ne _ _ _ | with_reducible refine' y_chain _ _ _ | with_reducible refine' y_andV _ (fun _ => _) | with_reducible refine' y_orV _ (fun _ => _) | with_reducible refine' y_isN _ | with_reducible refine' y_notN _ | exact rfl | (show _ = _; assumption) | exact atI_nat (by assumption) | (show CPow _ _; exact ⟨by decide, by decide, by decide⟩) | (show (0 : Int) < _; first | decide | omega) | (show CDiv _ _; exact ⟨by first | decide | omega, by first | decide | omega⟩) | (show CMul _ _; first | exact .inl ⟨by omega, by omega⟩ | exact .inr ⟨by omega, by omega⟩) ))) (by (first | rfl | (simp; done) | (simp only [sx_mc, sx_mb, sx_cm, sx_cb, sx_bm, sx_bc, decide_true, decide_false, Bool.and_true, Bool.true_and, Bool.not_true, Bool.not_false, Bool.and_false, Bool.false_and, Bool.or_false, Bool.or_true, decide_eq_true_eq, Bool.and_eq_true, decide_eq_false_iff_not]; first | done | omega) | (simp [sx_mc, sx_mb, sx_cm, sx_cb, sx_bm, sx_bc]; first | done | omega) | omega))) (fun hb H' c => ?_) (fun hb H' c => ?_)
      · rw [if_pos (of_decide_eq_true hb)] at k
        refine z_ret c (y_is (d := .tuple [.str "crush", .int (cell / 8 % many)]) (by (repeat' (first | with_reducible exact y_int | with_reducible exact y_str | (with_reducible show Y _ (tVar _) _ _; exact y_var rfl) | (with_reducible refine' y_eq _ _ _) | (with_reducible refine' y_ixT _ _ _) | with_reducible refine' y_ixL _ _ _ | with_reducible exact ya_nilD | with_reducible exact y_bl | with_reducible exact y_non | with_reducible exact yo_none | with_reducible exact yt_yes | with_reducible refine' yt_test _ | with_reducible refine' yt_B _ | with_reducible refine' yt_not _ | with_reducible refine' yt_and _ (fun _ => _) | with_reducible refine' yt_or _ (fun _ => _) | with_reducible refine' y_I0 _ _ | with_reducible refine' y_B0 _ _ | with_reducible refine' y_IC _ _ _ | with_reducible refine' y_parts (by assumption) _ | with_reducible refine' y_rows (by assumption) _ | with_reducible refine' ya_consD _ _ | with_reducible refine' y_tup _ (by simp) | with_reducible refine' y_lst _ (by simp) | (with_reducible show Y _ (tCB (rLen _) _) _ _; first | exact y_lenOwn rfl | exact y_lenSc (y_var rfl)) | with_reducible refine' y_len _ _ | with_reducible refine' y_ne _ _ _ | with_reducible refine' y_chain _ _ _ | with_reducible refine' y_andV _ (fun _ => _) | with_reducible refine' y_orV _ (fun _ => _) | with_reducible refine' y_isN _ | with_reducible refine' y_notN _ | exact rfl | (show _ = _; assumption) | exact atI_nat (by assumption) | (show CPow _ _; exact ⟨by decide, by decide, by decide⟩) | (show (0 : Int) < _; first | decide | omega) | (show CDiv _ _; exact ⟨by first | decide | omega, by first | decide | omega⟩) | (show CMul _ _; first | exact .inl ⟨by omega, by omega⟩ | exact .inr ⟨by omega, by omega⟩) ))) ?_) k
        simp only [rowD, Int.toNat_of_nonneg n1]
      · rw [if_neg (of_decide_eq_false hb)] at k
        exact z_ret c (by (repeat' (first | with_reducible exact y_int | with_reducible exact y_str | (with_reducible show Y _ (tVar _) _ _; exact y_var rfl) | (with_reducible refine' y_eq _ _ _) | (with_reducible refine' y_ixT _ _ _) | with_reducible refine' y_ixL _ _ _ | with_reducible exact ya_nilD | with_reducible exact y_bl | with_reducible exact y_non | with_reducible exact yo_none | with_reducible exact yt_yes | with_reducible refine' yt_test _ | with_reducible refine' yt_B _ | with_reducible refine' yt_not _ | with_reducible refine' yt_and _ (fun _ => _) | with_reducible refine' yt_or _ (fun _ => _) | with_reducible refine' y_I0 _ _ | with_reducible refine' y_B0 _ _ | with_reducible refine' y_IC _ _ _ | with_reducible refine' y_parts (by assumption) _ | with_reducible refine' y_rows (by assumption) _ | with_reducible refine' ya_consD _ _ | with_reducible refine' y_tup _ (by simp) | with_reducible refine' y_lst _ (by simp) | (with_reducible show Y _ (tCB (rLen _) _) _ _; first | exact y_lenOwn rfl | exact y_lenSc (y_var rfl)) | with_reducible refine' y_len _ _ | with_reducible refine' y_ne _ _ _ | with_reducible refine' y_chain _ _ _ | with_reducible refine' y_andV _ (fun _ => _) | with_reducible refine' y_orV _ (fun _ => _) | with_reducible refine' y_isN _ | with_reducible refine' y_notN _ | exact rfl | (show _ = _; assumption) | exact atI_nat (by assumption) | (show CPow _ _; exact ⟨by decide, by decide, by decide⟩) | (show (0 : Int) < _; first | decide | omega) | (show CDiv _ _; exact ⟨by first | decide | omega, by first | decide | omega⟩) | (show CMul _ _; first | exact .inl ⟨by omega, by omega⟩ | exact .inr ⟨by omega, by omega⟩) ))) k
def sp__law_whole_to : Sp := fun vs H Q E => ∃ (rows : List Rw) (r : Nat) (s : Int) (row : Rw), (rows[r]? = some row) ∧ spP [D (rowsD rows), D (.int r), D (.int s)] (D (optD (wholeR row s))) vs H Q E
theorem ok__law_whole_to (T : Tx K mg) : Cal P w K mg base 1 "_law_whole_to" ["rows", "row", "size"] sp__law_whole_to := by
  obtain ⟨fd, F⟩ := T.c.def_ 29 (d := d__law_whole_to) rfl
  refine ⟨_, fd, T.g__law_whole_to, F.kp, FunD.bindsN (ps := ["rows", "row", "size"]) F fun _ _ _ _ _ _ us hl => match us, hl with | [_, _, _], _ => rfl, def_ok F sc__law_whole_to ?_ fun cdv A outer s H vs Q E hr h => ?_⟩
  · intro vs H Q E h
    obtain ⟨_, _, _, _, _, h⟩ := h
    exact h.len
  · obtain ⟨rows, r, s, row, hr0, Hb, sm, ha, k⟩ := h
    have c := start_cur (N := N__law_whole_to) (k := 1) sm ha (by repeat' (first | exact trivial | exact mono_D _ | exact mono_Ws | exact mono_Sc | refine ⟨?_, ?_⟩)) rfl
    refine ⟨_, (pss_cons (ps_set (i := 3) sc__law_whole_to.nd rfl (Or.inl rfl) (pe_ix (kxL (K := K) rfl) (pv 0) (pv 1) (fun _ _ => rfl)))
  (pss_cons (ps_if (pt_cmpR op_eq (pe_ix (kxT (K := K) rfl) (pv 3) pe_int (fun _ _ => rfl)) pe_str (nomark _))
    (pss_one (ps_ret (pe_ix (kxL (K := K) rfl) (pe_lst (pa_cons (pe_ix (kxT (K := K) rfl) (pv 3) pe_int (fun _ _ => rfl)) (pa_cons (pe_ix (kxT (K := K) rfl) (pv 3) pe_int (fun _ _ => rfl)) pa_nil))) (pe_callTy c_int1 (by rfl) T.int bb_int (pa_cons (pe_cmpR op_le (pv 2) (pe_ix (kxT (K := K) rfl) (pv 3) pe_int (fun _ _ => rfl)) (nomark _)) pa_nil)) (fun _ _ => rfl))))
    pss_nil)
  (pss_cons (ps_if ((pw_and (pt_cmpR op_eq (pe_ix (kxT (K := K) rfl) (pv 3) pe_int (fun _ _ => rfl)) pe_str (nomark _)) (pw_and1 (pt_cmpR op_eq (pv 2) pe_int (nomark _))))).pt
    (pss_one (ps_ret (pe_ix (kxT (K := K) rfl) (pv 3) pe_int (fun _ _ => rfl))))
    pss_nil)
  (pss_one (ps_ret pe_non))))), ?_⟩
    refine q_asgD c (d := rowD row) (y_ixL (y_var rfl) (y_var rfl) (atI_nat (by rw [List.getElem?_map, hr0]; rfl))) fun σ1 H1 c1 => ?_
    cases row with
    | bin b =>
      refine z_no (by assumption) (yt_is (by (repeat' (first | with_reducible exact y_int | with_reducible exact y_str | (with_reducible show Y _ (tVar _) _ _; exact y_var rfl) | (with_reducible refine' y_eq _ _ _) | (with_reducible refine' y_ixT _ _ _) | with_reducible refine' y_ixL _ _ _ | with_reducible exact ya_nilD | with_reducible exact y_bl | with_reducible exact y_non | with_reducible exact yo_none | with_reducible exact yt_yes | with_reducible refine' yt_test _ | with_reducible refine' yt_B _ | with_reducible refine' yt_not _ | with_reducible refine' yt_and _ (fun _ => _) | with_reducible refine' yt_or _ (fun _ => _) | with_reducible refine' y_I0 _ _ | with_reducible refine' y_B0 _ _ | with_reducible refine' y_IC _ _ _ | with_reducible refine' y_parts (by assumption) _ | with_reducible refine' y_rows (by assumption) _ | with_reducible refine' ya_consD _ _ | with_reducible refine' y_tup _ (by simp) | with_reducible refine' y_lst _ (by simp) | (with_reducible show Y _ (tCB (rLen _) _) _ _; first | exact y_lenOwn rfl | exact y_lenSc (y_var rfl)) | with_reducible refine' y_len _ _ | with_reducible refine' y_ne _ _ _ | with_reducible refine' y_chain _ _ _ | with_reducible refine' y_andV _ (fun _ => _) | with_reducible refine' y_orV _ (fun _ => _) | with_reducible refine' y_isN _ | with_reducible refine' y_notN _ | exact rfl | (show _ = _; assumption) | exact atI_nat (by assumption) | (show CPow _ _; exact ⟨by decide, by decide, by decide⟩) | (show (0 : Int) < _; first | decide | omega) | (show CDiv _ _; exact ⟨by first | decide | omega, by first | decide | omega⟩) | (show CMul _ _; first | exact .inl ⟨by omega, by omega⟩ | exact .inr ⟨by omega, by omega⟩) ))) (by (first | rfl | (simp; done) | (simp only [sx_mc, sx_mb, sx_cm, sx_cb, sx_bm, sx_bc, decide_true, decide_false, Bool.and_true, Bool.true_and, Bool.not_true, Bool.not_false, Bool.and_false, Bool.false_and, Bool.or_false, Bool.or_true, decide_eq_true_eq, Bool.and_eq_true, decide_eq_false_iff_not]; first | done | omega) | (simp [sx_mc, sx_mb, sx_cm, sx_cb, sx_bm, sx_bc]; first | done | omega) | omega))) (fun _ _ => ?_)
      refine z_no (by assumption) (yt_andF (yt_is (by (repeat' (first | with_reducible exact y_int | with_reducible exact y_str | (with_reducible show Y _ (tVar _) _ _; exact y_var rfl) | (with_reducible refine' y_eq _ _ _) | (with_reducible refine' y_ixT _ _ _) | with_reducible refine' y_ixL _ _ _ | with_reducible exact ya_nilD | with_reducible exact y_bl | with_reducible exact y_non | with_reducible exact yo_none | with_reducible exact yt_yes | with_reducible refine' yt_test _ | with_reducible refine' yt_B _ | with_reducible refine' yt_not _ | with_reducible refine' yt_and _ (fun _ => _) | with_reducible refine' yt_or _ (fun _ => _) | with_reducible refine' y_I0 _ _ | with_reducible refine' y_B0 _ _ | with_reducible refine' y_IC _ _ _ | with_reducible refine' y_parts (by assumption) _ | with_reducible refine' y_rows (by assumption) _ | with_reducible refine' ya_consD _ _ | with_reducible refine' y_tup _ (by simp) | with_reducible refine' y_lst _ (by simp) | (with_reducible show Y _ (tCB (rLen _) _) _ _; first | exact y_lenOwn rfl | exact y_lenSc (y_var rfl)) | with_reducible refine' y_len _ _ | with_reducible refine' y_ne _ _ _ | with_reducible refine' y_chain _ _ _ | with_reducible refine' y_andV _ (fun _ => _) | with_reducible refine' y_orV _ (fun _ => _) | with_reducible refine' y_isN _ | with_reducible refine' y_notN _ | exact rfl | (show _ = _; assumption) | exact atI_nat (by assumption) | (show CPow _ _; exact ⟨by decide, by decide, by decide⟩) | (show (0 : Int) < _; first | decide | omega) | (show CDiv _ _; exact ⟨by first | decide | omega, by first | decide | omega⟩) | (show CMul _ _; first | exact .inl ⟨by omega, by omega⟩ | exact .inr ⟨by omega, by omega⟩) ))) (by (first | rfl | (simp; done) | (simp only [sx_mc, sx_mb, sx_cm, sx_cb, sx_bm, sx_bc, decide_true, decide_false, Bool.and_true, Bool.true_and, Bool.not_true, Bool.not_false, Bool.and_false, Bool.false_and, Bool.or_false, Bool.or_true, decide_eq_true_eq, Bool.and_eq_true, decide_eq_false_iff_not]; first | done | omega) | (simp [sx_mc, sx_mb, sx_cm, sx_cb, sx_bm, sx_bc]; first | done | omega) | omega)))) fun _ _ => ?_
      exact z_ret (by assumption) (y_is (by (repeat' (first | with_reducible exact y_int | with_reducible exact y_str | (with_reducible show Y _ (tVar _) _ _; exact y_var rfl) | (with_reducible refine' y_eq _ _ _) | (with_reducible refine' y_ixT _ _ _) | with_reducible refine' y_ixL _ _ _ | with_reducible exact ya_nilD | with_reducible exact y_bl | with_reducible exact y_non | with_reducible exact yo_none | with_reducible exact yt_yes | with_reducible refine' yt_test _ | with_reducible refine' yt_B _ | with_reducible refine' yt_not _ | with_reducible refine' yt_and _ (fun _ => _) | with_reducible refine' yt_or _ (fun _ => _) | with_reducible refine' y_I0 _ _ | with_reducible refine' y_B0 _ _ | with_reducible refine' y_IC _ _ _ | with_reducible refine' y_parts (by assumption) _ | with_reducible refine' y_rows (by assumption) _ | with_reducible refine' ya_consD _ _ | with_reducible refine' y_tup _ (by simp) | with_reducible refine' y_lst _ (by simp) | (with_reducible show Y _ (tCB (rLen _) _) _ _; first | exact y_lenOwn rfl | exact y_lenSc (y_var rfl)) | with_reducible refine' y_len _ _ | with_reducible refine' y_ne _ _ _ | with_reducible refine' y_chain _ _ _ | with_reducible refine' y_andV _ (fun _ => _) | with_reducible refine' y_orV _ (fun _ => _) | with_reducible refine' y_isN _ | with_reducible refine' y_notN _ | exact rfl | (show _ = _; assumption) | exact atI_nat (by assumption) | (show CPow _ _; exact ⟨by decide, by decide, by decide⟩) | (show (0 : Int) < _; first | decide | omega) | (show CDiv _ _; exact ⟨by first | decide | omega, by first | decide | omega⟩) | (show CMul _ _; first | exact .inl ⟨by omega, by omega⟩ | exact .inr ⟨by omega, by omega⟩) ))) (by first | rfl | (simp; done) | (congr 1; (first | rfl | (simp; done) | (simp only [sx_mc, sx_mb, sx_cm, sx_cb, sx_bm, sx_bc, decide_true, decide_false, Bool.and_true, Bool.true_and, Bool.not_true, Bool.not_false, Bool.and_false, Bool.false_and, Bool.or_false, Bool.or_true, decide_eq_true_eq, Bool.and_eq_true, decide_eq_false_iff_not]; first | done | omega) | (simp [sx_mc, sx_mb, sx_cm, sx_cb, sx_bm, sx_bc]; first | done | omega) | omega)))) k
    | crush t =>
      refine z_no (by assumption) (yt_is (by (repeat' (first | with_reducible exact y_int | with_reducible exact y_str | (with_reducible show Y _ (tVar _) _ _; exact y_var rfl) | (with_reducible refine' y_eq _ _ _) | (with_reducible refine' y_ixT _ _ _) | with_reducible refine' y_ixL _ _ _ | with_reducible exact ya_nilD | with_reducible exact y_bl | with_reducible exact y_non | with_reducible exact yo_none | with_reducible exact yt_yes | with_reducible refine' yt_test _ | with_reducible refine' yt_B _ | with_reducible refine' yt_not _ | with_reducible refine' yt_and _ (fun _ => _) | with_reducible refine' yt_or _ (fun _ => _) | with_reducible refine' y_I0 _ _ | with_reducible refine' y_B0 _ _ | with_reducible refine' y_IC _ _ _ | with_reducible refine' y_parts (by assumption) _ | with_reducible refine' y_rows (by assumption) _ | with_reducible refine' ya_consD _ _ | with_reducible refine' y_tup _ (by simp) | with_reducible refine' y_lst _ (by simp) | (with_reducible show Y _ (tCB (rLen _) _) _ _; first | exact y_lenOwn rfl | exact y_lenSc (y_var rfl)) | with_reducible refine' y_len _ _ | with_reducible refine' y_ne _ _ _ | with_reducible refine' y_chain _ _ _ | with_reducible refine' y_andV _ (fun _ => _) | with_reducible refine' y_orV _ (fun _ => _) | with_reducible refine' y_isN _ | with_reducible refine' y_notN _ | exact rfl | (show _ = _; assumption) | exact atI_nat (by assumption) | (show CPow _ _; exact ⟨by decide, by decide, by decide⟩) | (show (0 : Int) < _; first | decide | omega) | (show CDiv _ _; exact ⟨by first | decide | omega, by first | decide | omega⟩) | (show CMul _ _; first | exact .inl ⟨by omega, by omega⟩ | exact .inr ⟨by omega, by omega⟩) ))) (by (first | rfl | (simp; done) | (simp only [sx_mc, sx_mb, sx_cm, sx_cb, sx_bm, sx_bc, decide_true, decide_false, Bool.and_true, Bool.true_and, Bool.not_true, Bool.not_false, Bool.and_false, Bool.false_and, Bool.or_false, Bool.or_true, decide_eq_true_eq, Bool.and_eq_true, decide_eq_false_iff_not]; first | done | omega) | (simp [sx_mc, sx_mb, sx_cm, sx_cb, sx_bm, sx_bc]; first | done | omega) | omega))) (fun _ _ => ?_)
      by_cases h1 : s = 1
      · simp only [wholeR, if_pos h1] at k
        refine z_yes (by assumption) (yt_is (by (repeat' (first | with_reducible exact y_int | with_reducible exact y_str | (with_reducible show Y _ (tVar _) _ _; exact y_var rfl) | (with_reducible refine' y_eq _ _ _) | (with_reducible refine' y_ixT _ _ _) | with_reducible refine' y_ixL _ _ _ | with_reducible exact ya_nilD | with_reducible exact y_bl | with_reducible exact y_non | with_reducible exact yo_none | with_reducible exact yt_yes | with_reducible refine' yt_test _ | with_reducible refine' yt_B _ | with_reducible refine' yt_not _ | with_reducible refine' yt_and _ (fun _ => _) | with_reducible refine' yt_or _ (fun _ => _) | with_reducible refine' y_I0 _ _ | with_reducible refine' y_B0 _ _ | with_reducible refine' y_IC _ _ _ | with_reducible refine' y_parts (by assumption) _ | with_reducible refine' y_rows (by assumption) _ | with_reducible refine' ya_consD _ _ | with_reducible refine' y_tup _ (by simp) | with_reducible refine' y_lst _ (by simp) | (with_reducible show Y _ (tCB (rLen _) _) _ _; first | exact y_lenOwn rfl | exact y_lenSc (y_var rfl)) | with_reducible refine' y_len _ _ | with_reducible refine' y_ne _ _ _ | with_reducible refine' y_chain _ _ _ | with_reducible refine' y_andV _ (fun _ => _) | with_reducible refine' y_orV _ (fun _ => _) | with_reducible refine' y_isN _ | with_reducible refine' y_notN _ | exact rfl | (show _ = _; assumption) | exact atI_nat (by assumption) | (show CPow _ _; exact ⟨by decide, by decide, by decide⟩) | (show (0 : Int) < _; first | decide | omega) | (show CDiv _ _; exact ⟨by first | decide | omega, by first | decide | omega⟩) | (show CMul _ _; first | exact .inl ⟨by omega, by omega⟩ | exact .inr ⟨by omega, by omega⟩) ))) (by (first | rfl | (simp; done) | (simp only [sx_mc, sx_mb, sx_cm, sx_cb, sx_bm, sx_bc, decide_true, decide_false, Bool.and_true, Bool.true_and, Bool.not_true, Bool.not_false, Bool.and_false, Bool.false_and, Bool.or_false, Bool.or_true, decide_eq_true_eq, Bool.and_eq_true, decide_eq_false_iff_not]; first | done | omega) | (simp [sx_mc, sx_mb, sx_cm, sx_cb, sx_bm, sx_bc]; first | done | omega) | omega))) (fun _ _ => ?_)
        exact z_ret (by assumption) (y_is (by (repeat' (first | with_reducible exact y_int | with_reducible exact y_str | (with_reducible show Y _ (tVar _) _ _; exact y_var rfl) | (with_reducible refine' y_eq _ _ _) | (with_reducible refine' y_ixT _ _ _) | with_reducible refine' y_ixL _ _ _ | with_reducible exact ya_nilD | with_reducible exact y_bl | with_reducible exact y_non | with_reducible exact yo_none | with_reducible exact yt_yes | with_reducible refine' yt_test _ | with_reducible refine' yt_B _ | with_reducible refine' yt_not _ | with_reducible refine' yt_and _ (fun _ => _) | with_reducible refine' yt_or _ (fun _ => _) | with_reducible refine' y_I0 _ _ | with_reducible refine' y_B0 _ _ | with_reducible refine' y_IC _ _ _ | with_reducible refine' y_parts (by assumption) _ | with_reducible refine' y_rows (by assumption) _ | with_reducible refine' ya_consD _ _ | with_reducible refine' y_tup _ (by simp) | with_reducible refine' y_lst _ (by simp) | (with_reducible show Y _ (tCB (rLen _) _) _ _; first | exact y_lenOwn rfl | exact y_lenSc (y_var rfl)) | with_reducible refine' y_len _ _ | with_reducible refine' y_ne _ _ _ | with_reducible refine' y_chain _ _ _ | with_reducible refine' y_andV _ (fun _ => _) | with_reducible refine' y_orV _ (fun _ => _) | with_reducible refine' y_isN _ | with_reducible refine' y_notN _ | exact rfl | (show _ = _; assumption) | exact atI_nat (by assumption) | (show CPow _ _; exact ⟨by decide, by decide, by decide⟩) | (show (0 : Int) < _; first | decide | omega) | (show CDiv _ _; exact ⟨by first | decide | omega, by first | decide | omega⟩) | (show CMul _ _; first | exact .inl ⟨by omega, by omega⟩ | exact .inr ⟨by omega, by omega⟩) ))) (by first | rfl | (simp; done) | (congr 1; (first | rfl | (simp; done) | (simp only [sx_mc, sx_mb, sx_cm, sx_cb, sx_bm, sx_bc, decide_true, decide_false, Bool.and_true, Bool.true_and, Bool.not_true, Bool.not_false, Bool.and_false, Bool.false_and, Bool.or_false, Bool.or_true, decide_eq_true_eq, Bool.and_eq_true, decide_eq_false_iff_not]; first | done | omega) | (simp [sx_mc, sx_mb, sx_cm, sx_cb, sx_bm, sx_bc]; first | done | omega) | omega)))) k
      · simp only [wholeR, if_neg h1] at k
        refine z_no (by assumption) (yt_is (by (repeat' (first | with_reducible exact y_int | with_reducible exact y_str | (with_reducible show Y _ (tVar _) _ _; exact y_var rfl) | (with_reducible refine' y_eq _ _ _) | (with_reducible refine' y_ixT _ _ _) | with_reducible refine' y_ixL _ _ _ | with_reducible exact ya_nilD | with_reducible exact y_bl | with_reducible exact y_non | with_reducible exact yo_none | with_reducible exact yt_yes | with_reducible refine' yt_test _ | with_reducible refine' yt_B _ | with_reducible refine' yt_not _ | with_reducible refine' yt_and _ (fun _ => _) | with_reducible refine' yt_or _ (fun _ => _) | with_reducible refine' y_I0 _ _ | with_reducible refine' y_B0 _ _ | with_reducible refine' y_IC _ _ _ | with_reducible refine' y_parts (by assumption) _ | with_reducible refine' y_rows (by assumption) _ | with_reducible refine' ya_consD _ _ | with_reducible refine' y_tup _ (by simp) | with_reducible refine' y_lst _ (by simp) | (with_reducible show Y _ (tCB (rLen _) _) _ _; first | exact y_lenOwn rfl | exact y_lenSc (y_var rfl)) | with_reducible refine' y_len _ _ | with_reducible refine' y_ne _ _ _ | with_reducible refine' y_chain _ _ _ | with_reducible refine' y_andV _ (fun _ => _) | with_reducible refine' y_orV _ (fun _ => _) | with_reducible refine' y_isN _ | with_reducible refine' y_notN _ | exact rfl | (show _ = _; assumption) | exact atI_nat (by assumption) | (show CPow _ _; exact ⟨by decide, by decide, by decide⟩) | (show (0 : Int) < _; first | decide | omega) | (show CDiv _ _; exact ⟨by first | decide | omega, by first | decide | omega⟩) | (show CMul _ _; first | exact .inl ⟨by omega, by omega⟩ | exact .inr ⟨by omega, by omega⟩) ))) (by (first | rfl | (simp; done) | (simp only [sx_mc, sx_mb, sx_cm, sx_cb, sx_bm, sx_bc, decide_true, decide_false, Bool.and_true, Bool.true_and, Bool.not_true, Bool.not_false, Bool.and_false, Bool.false_and, Bool.or_false, Bool.or_true, decide_eq_true_eq, Bool.and_eq_true, decide_eq_false_iff_not]; first | done | omega) | (simp [sx_mc, sx_mb, sx_cm, sx_cb, sx_bm, sx_bc]; first | done | omega) | omega))) (fun _ _ => ?_)
        exact z_ret (by assumption) (y_is (by (repeat' (first | with_reducible exact y_int | with_reducible exact y_str | (with_reducible show Y _ (tVar _) _ _; exact y_var rfl) | (with_reducible refine' y_eq _ _ _) | (with_reducible refine' y_ixT _ _ _) | with_reducible refine' y_ixL _ _ _ | with_reducible exact ya_nilD | with_reducible exact y_bl | with_reducible exact y_non | with_reducible exact yo_none | with_reducible exact yt_yes | with_reducible refine' yt_test _ | with_reducible refine' yt_B _ | with_reducible refine' yt_not _ | with_reducible refine' yt_and _ (fun _ => _) | with_reducible refine' yt_or _ (fun _ => _) | with_reducible refine' y_I0 _ _ | with_reducible refine' y_B0 _ _ | with_reducible refine' y_IC _ _ _ | with_reducible refine' y_parts (by assumption) _ | with_reducible refine' y_rows (by assumption) _ | with_reducible refine' ya_consD _ _ | with_reducible refine' y_tup _ (by simp) | with_reducible refine' y_lst _ (by simp) | (with_reducible show Y _ (tCB (rLen _) _) _ _; first | exact y_lenOwn rfl | exact y_lenSc (y_var rfl)) | with_reducible refine' y_len _ _ | with_reducible refine' y_ne _ _ _ | with_reducible refine' y_chain _ _ _ | with_reducible refine' y_andV _ (fun _ => _) | with_reducible refine' y_orV _ (fun _ => _) | with_reducible refine' y_isN _ | with_reducible refine' y_notN _ | exact rfl | (show _ = _; assumption) | exact atI_nat (by assumption) | (show CPow _ _; exact ⟨by decide, by decide, by decide⟩) | (show (0 : Int) < _; first | decide | omega) | (show CDiv _ _; exact ⟨by first | decide | omega, by first | decide | omega⟩) | (show CMul _ _; first | exact .inl ⟨by omega, by omega⟩ | exact .inr ⟨by omega, by omega⟩) ))) (by first | rfl | (simp; done) | (congr 1; (first | rfl | (simp; done) | (simp only [sx_mc, sx_mb, sx_cm, sx_cb, sx_bm, sx_bc, decide_true, decide_false, Bool.and_true, Bool.true_and, Bool.not_true, Bool.not_false, Bool.and_false, Bool.false_and, Bool.or_false, Bool.or_true, decide_eq_true_eq, Bool.and_eq_true, decide_eq_false_iff_not]; first | done | omega) | (simp [sx_mc, sx_mb, sx_cm, sx_cb, sx_bm, sx_bc]; first | done | omega) | omega)))) k
    | mesh c0 u o =>
      refine z_yes (by assumption) (yt_is (by (repeat' (first | with_reducible exact y_int | with_reducible exact y_str | (with_reducible show Y _ (tVar _) _ _; exact y_var rfl) | (with_reducible refine' y_eq _ _ _) | (with_reducible refine' y_ixT _ _ _) | with_reducible refine' y_ixL _ _ _ | with_reducible exact ya_nilD | with_reducible exact y_bl | with_reducible exact y_non | with_reducible exact yo_none | with_reducible exact yt_yes | with_reducible refine' yt_test _ | with_reducible refine' yt_B _ | with_reducible refine' yt_not _ | with_reducible refine' yt_and _ (fun _ => _) | with_reducible refine' yt_or _ (fun _ => _) | with_reducible refine' y_I0 _ _ | with_reducible refine' y_B0 _ _ | with_reducible refine' y_IC _ _ _ | with_reducible refine' y_parts (by assumption) _ | with_reducible refine' y_rows (by assumption) _ | with_reducible refine' ya_consD _ _ | with_reducible refine' y_tup _ (by simp) | with_reducible refine' y_lst _ (by simp) | (with_reducible show Y _ (tCB (rLen _) _) _ _; first | exact y_lenOwn rfl | exact y_lenSc (y_var rfl)) | with_reducible refine' y_len _ _ | with_reducible refine' y_ne _ _ _ | with_reducible refine' y_chain _ _ _ | with_reducible refine' y_andV _ (fun _ => _) | with_reducible refine' y_orV _ (fun _ => _) | with_reducible refine' y_isN _ | with_reducible refine' y_notN _ | exact rfl | (show _ = _; assumption) | exact atI_nat (by assumption) | (show CPow _ _; exact ⟨by decide, by decide, by decide⟩) | (show (0 : Int) < _; first | decide | omega) | (show CDiv _ _; exact ⟨by first | decide | omega, by first | decide | omega⟩) | (show CMul _ _; first | exact .inl ⟨by omega, by omega⟩ | exact .inr ⟨by omega, by omega⟩) ))) (by (first | rfl | (simp; done) | (simp only [sx_mc, sx_mb, sx_cm, sx_cb, sx_bm, sx_bc, decide_true, decide_false, Bool.and_true, Bool.true_and, Bool.not_true, Bool.not_false, Bool.and_false, Bool.false_and, Bool.or_false, Bool.or_true, decide_eq_true_eq, Bool.and_eq_true, decide_eq_false_iff_not]; first | done | omega) | (simp [sx_mc, sx_mb, sx_cm, sx_cb, sx_bm, sx_bc]; first | done | omega) | omega))) (fun _ _ => ?_)
      by_cases h1 : s ≤ c0
      · simp only [wholeR, if_pos h1] at k
        refine z_ret (by assumption) (y_ixL (ds := [.int o, .int u]) (i := 1) (by (repeat' (first | with_reducible exact y_int | with_reducible exact y_str | (with_reducible show Y _ (tVar _) _ _; exact y_var rfl) | (with_reducible refine' y_eq _ _ _) | (with_reducible refine' y_ixT _ _ _) | with_reducible refine' y_ixL _ _ _ | with_reducible exact ya_nilD | with_reducible exact y_bl | with_reducible exact y_non | with_reducible exact yo_none | with_reducible exact yt_yes | with_reducible refine' yt_test _ | with_reducible refine' yt_B _ | with_reducible refine' yt_not _ | with_reducible refine' yt_and _ (fun _ => _) | with_reducible refine' yt_or _ (fun _ => _) | with_reducible refine' y_I0 _ _ | with_reducible refine' y_B0 _ _ | with_reducible refine' y_IC _ _ _ | with_reducible refine' y_parts (by assumption) _ | with_reducible refine' y_rows (by assumption) _ | with_reducible refine' ya_consD _ _ | with_reducible refine' y_tup _ (by simp) | with_reducible refine' y_lst _ (by simp) | (with_reducible show Y _ (tCB (rLen _) _) _ _; first | exact y_lenOwn rfl | exact y_lenSc (y_var rfl)) | with_reducible refine' y_len _ _ | with_reducible refine' y_ne _ _ _ | with_reducible refine' y_chain _ _ _ | with_reducible refine' y_andV _ (fun _ => _) | with_reducible refine' y_orV _ (fun _ => _) | with_reducible refine' y_isN _ | with_reducible refine' y_notN _ | exact rfl | (show _ = _; assumption) | exact atI_nat (by assumption) | (show CPow _ _; exact ⟨by decide, by decide, by decide⟩) | (show (0 : Int) < _; first | decide | omega) | (show CDiv _ _; exact ⟨by first | decide | omega, by first | decide | omega⟩) | (show CMul _ _; first | exact .inl ⟨by omega, by omega⟩ | exact .inr ⟨by omega, by omega⟩) ))) (y_is (d := .int (if decide (s ≤ c0) then 1 else 0)) (y_intB (by (repeat' (first | with_reducible exact y_int | with_reducible exact y_str | (with_reducible show Y _ (tVar _) _ _; exact y_var rfl) | (with_reducible refine' y_eq _ _ _) | (with_reducible refine' y_ixT _ _ _) | with_reducible refine' y_ixL _ _ _ | with_reducible exact ya_nilD | with_reducible exact y_bl | with_reducible exact y_non | with_reducible exact yo_none | with_reducible exact yt_yes | with_reducible refine' yt_test _ | with_reducible refine' yt_B _ | with_reducible refine' yt_not _ | with_reducible refine' yt_and _ (fun _ => _) | with_reducible refine' yt_or _ (fun _ => _) | with_reducible refine' y_I0 _ _ | with_reducible refine' y_B0 _ _ | with_reducible refine' y_IC _ _ _ | with_reducible refine' y_parts (by assumption) _ | with_reducible refine' y_rows (by assumption) _ | with_reducible refine' ya_consD _ _ | with_reducible refine' y_tup _ (by simp) | with_reducible refine' y_lst _ (by simp) | (with_reducible show Y _ (tCB (rLen _) _) _ _; first | exact y_lenOwn rfl | exact y_lenSc (y_var rfl)) | with_reducible refine' y_len _ _ | with_reducible refine' y_ne _ _ _ | with_reducible refine' y_chain _ _ _ | with_reducible refine' y_andV _ (fun _ => _) | with_reducible refine' y_orV _ (fun _ => _) | with_reducible refine' y_isN _ | with_reducible refine' y_notN _ | exact rfl | (show _ = _; assumption) | exact atI_nat (by assumption) | (show CPow _ _; exact ⟨by decide, by decide, by decide⟩) | (show (0 : Int) < _; first | decide | omega) | (show CDiv _ _; exact ⟨by first | decide | omega, by first | decide | omega⟩) | (show CMul _ _; first | exact .inl ⟨by omega, by omega⟩ | exact .inr ⟨by omega, by omega⟩) )))) (by rw [decide_eq_true h1]; rfl)) rfl) k
      · simp only [wholeR, if_neg h1] at k
        refine z_ret (by assumption) (y_ixL (ds := [.int o, .int u]) (i := 0) (by (repeat' (first | with_reducible exact y_int | with_reducible exact y_str | (with_reducible show Y _ (tVar _) _ _; exact y_var rfl) | (with_reducible refine' y_eq _ _ _) | (with_reducible refine' y_ixT _ _ _) | with_reducible refine' y_ixL _ _ _ | with_reducible exact ya_nilD | with_reducible exact y_bl | with_reducible exact y_non | with_reducible exact yo_none | with_reducible exact yt_yes | with_reducible refine' yt_test _ | with_reducible refine' yt_B _ | with_reducible refine' yt_not _ | with_reducible refine' yt_and _ (fun _ => _) | with_reducible refine' yt_or _ (fun _ => _) | with_reducible refine' y_I0 _ _ | with_reducible refine' y_B0 _ _ | with_reducible refine' y_IC _ _ _ | with_reducible refine' y_parts (by assumption) _ | with_reducible refine' y_rows (by assumption) _ | with_reducible refine' ya_consD _ _ | with_reducible refine' y_tup _ (by simp) | with_reducible refine' y_lst _ (by simp) | (with_reducible show Y _ (tCB (rLen _) _) _ _; first | exact y_lenOwn rfl | exact y_lenSc (y_var rfl)) | with_reducible refine' y_len _ _ | with_reducible refine' y_ne _ _ _ | with_reducible refine' y_chain _ _ _ | with_reducible refine' y_andV _ (fun _ => _) | with_reducible refine' y_orV _ (fun _ => _) | with_reducible refine' y_isN _ | with_reducible refine' y_notN _ | exact rfl | (show _ = _; assumption) | exact atI_nat (by assumption) | (show CPow _ _; exact ⟨by decide, by decide, by decide⟩) | (show (0 : Int) < _; first | decide | omega) | (show CDiv _ _; exact ⟨by first | decide | omega, by first | decide | omega⟩) | (show CMul _ _; first | exact .inl ⟨by omega, by omega⟩ | exact .inr ⟨by omega, by omega⟩) ))) (y_is (d := .int (if decide (s ≤ c0) then 1 else 0)) (y_intB (by (repeat' (first | with_reducible exact y_int | with_reducible exact y_str | (with_reducible show Y _ (tVar _) _ _; exact y_var rfl) | (with_reducible refine' y_eq _ _ _) | (with_reducible refine' y_ixT _ _ _) | with_reducible refine' y_ixL _ _ _ | with_reducible exact ya_nilD | with_reducible exact y_bl | with_reducible exact y_non | with_reducible exact yo_none | with_reducible exact yt_yes | with_reducible refine' yt_test _ | with_reducible refine' yt_B _ | with_reducible refine' yt_not _ | with_reducible refine' yt_and _ (fun _ => _) | with_reducible refine' yt_or _ (fun _ => _) | with_reducible refine' y_I0 _ _ | with_reducible refine' y_B0 _ _ | with_reducible refine' y_IC _ _ _ | with_reducible refine' y_parts (by assumption) _ | with_reducible refine' y_rows (by assumption) _ | with_reducible refine' ya_consD _ _ | with_reducible refine' y_tup _ (by simp) | with_reducible refine' y_lst _ (by simp) | (with_reducible show Y _ (tCB (rLen _) _) _ _; first | exact y_lenOwn rfl | exact y_lenSc (y_var rfl)) | with_reducible refine' y_len _ _ | with_reducible refine' y_ne _ _ _ | with_reducible refine' y_chain _ _ _ | with_reducible refine' y_andV _ (fun _ => _) | with_reducible refine' y_orV _ (fun _ => _) | with_reducible refine' y_isN _ | with_reducible refine' y_notN _ | exact rfl | (show _ = _; assumption) | exact atI_nat (by assumption) | (show CPow _ _; exact ⟨by decide, by decide, by decide⟩) | (show (0 : Int) < _; first | decide | omega) | (show CDiv _ _; exact ⟨by first | decide | omega, by first | decide | omega⟩) | (show CMul _ _; first | exact .inl ⟨by omega, by omega⟩ | exact .inr ⟨by omega, by omega⟩) )))) (by rw [decide_eq_false h1]; rfl)) rfl) k
end
end MW

/-! F4 -/
set_option Elab.async false
set_option linter.all false
set_option maxRecDepth 100000
set_option maxHeartbeats 400000
namespace MW
open PySem PySem.Spec L2

/-! ### whole moves -/
def wholeAt (rows : List Rw) (s : Int) (r : Nat) : Option Nat := rows[r]?.bind fun row => wholeR row s
def itW (rows : List Rw) (s : Int) (o : Option Nat) : Nat → Option Nat
  | 0 => o
  | k + 1 => (itW rows s o k).bind (wholeAt rows s)
def RowsOk (rows : List Rw) : Prop := ∀ row ∈ rows, row.ok rows.length
theorem wholeR_lt {n : Nat} {row : Rw} {s : Int} {r : Nat} (h : row.ok n) (e : wholeR row s = some r) : r < n := by
  cases row with
  | mesh c u o =>
    obtain ⟨_, _, h1, h2⟩ := h
    simp only [wholeR] at e
    split at e
    · cases e; exact h1
    · cases e; exact h2
  | crush t =>
    simp only [wholeR] at e
    split at e
    · cases e; exact h
    · cases e
  | bin b => cases e
theorem wholeAt_lt {rows : List Rw} {s : Int} {r r' : Nat} (h : RowsOk rows) (e : wholeAt rows s r = some r') : r' < rows.length := by
  unfold wholeAt at e
  cases q : rows[r]? with
  | none => rw [q] at e; cases e
  | some row => rw [q] at e; exact wholeR_lt (h row (List.mem_of_getElem? q)) e
theorem itW_lt {rows : List Rw} {s : Int} {r : Nat} (h : RowsOk rows) (hr : r < rows.length) : ∀ (k : Nat) (r' : Nat), itW rows s (some r) k = some r' → r' < rows.length
  | 0, r', e => by cases e; exact hr
  | k + 1, r', e => by
    unfold itW at e
    cases q : itW rows s (some r) k with
    | none => rw [q] at e; cases e
    | some r1 => rw [q] at e; exact wholeAt_lt h e
def goesRound (rows : List Rw) (s : Int) : Bool := (List.range rows.length).any fun r => (itW rows s (some r) rows.length).isSome
def rowSizes : Rw → List Int
  | .mesh c _ _ => [c, c + 1]
  | _ => []
def lawSizes (rows : List Rw) : List Int := 1 :: rows.flatMap rowSizes
def lawStuck (rows : List Rw) : Bool := decide (0 < (((lawSizes rows).filter (goesRound rows)).length : Int))
def isCrush : Rw → Bool
  | .crush _ => true
  | _ => false
def lawAhead (rows : List Rw) : List Nat := (List.range rows.length).filter fun k => (rows[k]?.map isCrush).getD false
def lawOver (rows : List Rw) (cell later : Int) : Nat := if cell % 3 = 1 ∧ 0 < (lawAhead rows).length then (lawAhead rows).getD (cell / 3 % (lawAhead rows).length).toNat 0 else ((rows.length : Int) + 1 + cell / 3 % later).toNat
theorem Cur.forget {Hb0 H0 H : Hp} {G : Ctx} {σ : L2.St} (c : Cur Hb0 H0 G σ H) (i : Nat) : Cur Hb0 H0 (G.set i .no) σ H := c.weak (by simp) fun j e h => by
  by_cases z : i = j
  · subst z
    rw [List.getElem?_set_self'] at h
    cases q : G[i]? with
    | none => rw [q] at h; cases h
    | some x => rw [q] at h; cases h; exact .inl rfl
  · rw [List.getElem?_set_ne z] at h; exact .inr h
theorem y_B0_t {R : Res} {G : Ctx} {ta tb : TE} {i j : Int} {g : Int → Int → Bool} (ha : Y R ta G (D (.int i))) (hb : Y R tb G (D (.int j))) : YT R (tTest (tOp (rI0 fun i j => .bl (g i j)) ta tb)) G (g i j) := yt_test (y_B0 ha hb)
section
variable {P : Program} {w : World} {K : PySem.W.Frag} {mg : Str → Option Value} {base : Heap}
def sp__law_goes_round : Sp := fun vs H Q E => ∃ (rows : List Rw) (s : Int), (RowsOk rows ∧ rows.length ≤ 100) ∧ spP [D (rowsD rows), D (.int s)] (D (.bool (goesRound rows s))) vs H Q E
theorem y_lenRows {R : Res} {G : Ctx} {te : TE} {rows : List Rw} (h : Y R te G (D (rowsD rows))) : Y R (tCB (rLen K) (tCons te tNil)) G (D (.int rows.length)) := y_is (y_lenL h) (by rw [List.length_map])
theorem ok__law_goes_round (T : Tx K mg) : Cal P w K mg base 2 "_law_goes_round" ["rows", "size"] sp__law_goes_round := by
  have C__law_whole_to := ok__law_whole_to (P := P) (w := w) (base := base) T
  obtain ⟨fd, F⟩ := T.c.def_ 30 (d := d__law_goes_round) rfl
  refine ⟨_, fd, T.g__law_goes_round, F.kp, FunD.bindsN (ps := ["rows", "size"]) F fun _ _ _ _ _ _ us hl => match us, hl with | [_, _], _ => rfl, def_ok F sc__law_goes_round ?_ fun cdv A outer s H vs Q E hr h => ?_⟩
  · intro vs H Q E h
    obtain ⟨_, _, _, h⟩ := h
    exact h.len
  · obtain ⟨rows, s, ok, Hb, sm, ha, k⟩ := h
    have c := start_cur (N := N__law_goes_round) (k := 3) sm ha (by repeat' (first | exact trivial | exact mono_D _ | exact mono_Ws | exact mono_Sc | refine ⟨?_, ?_⟩)) rfl
    refine ⟨_, (pss_cons (ps_for PassesOwn.never rfl (pi_range1 (by rfl) T.range (pa_cons (pe_callB (kLen (K := K) rfl) (by rfl) T.len bb_len (pa_cons (pv 0) pa_nil)) pa_nil)) (pg_name (i := 2) sc__law_goes_round.nd rfl (Or.inl rfl))
    (pss_cons (ps_set (i := 3) sc__law_goes_round.nd rfl (Or.inl rfl) (pv 2))
  (pss_cons (ps_for PassesOwn.never rfl (pi_range1 (by rfl) T.range (pa_cons (pe_callB (kLen (K := K) rfl) (by rfl) T.len bb_len (pa_cons (pv 0) pa_nil)) pa_nil)) (pg_name (i := 4) sc__law_goes_round.nd rfl (Or.inl rfl))
    (pss_one (ps_if (pt_cmpR op_notN_ (pv 3) pe_non (nomark _))
    (pss_one (ps_set (i := 3) sc__law_goes_round.nd rfl (Or.inl rfl) (pe_cal C__law_whole_to (hr.mono (by decide)) (by rfl) (pa_cons (pv 0) (pa_cons (pv 3) (pa_cons (pv 1) pa_nil))))))
    pss_nil)))
  (pss_one (ps_if (pt_cmpR op_notN_ (pv 3) pe_non (nomark _))
    (pss_one (ps_ret pe_bl))
    pss_nil)))))
  (pss_one (ps_ret pe_bl))), ?_⟩
    obtain ⟨ok, hl⟩ := ok
    let G1 : Nat → Ctx := fun _ => [.p (D (rowsD rows)), .p (D (.int s)), .no, .no, .no]
    refine q_forRp (n := rows.length) c (y_lenRows (y_var rfl)) (by omega) G1 (fun i => ∀ j, j < i → itW rows s (some j) rows.length = none) (fun j hj => absurd hj (Nat.not_lt_zero j)) (fun H1 c => c) (fun i hi φ σ1 H1 c1 => ?_) (fun φ σ1 H1 c1 => ?_)
    · refine q_asgD c1 (d := optD (some i)) (y_var rfl) fun σ2 H2 c2 => ?_
      refine q_forR (n := rows.length) c2 (y_lenRows (y_var rfl)) (by omega) (fun k => [.p (D (rowsD rows)), .p (D (.int s)), .p (D (.int i)), .p (D (optD (itW rows s (some i) k))), .no]) (fun H1 c => c) (fun k hk σ3 H3 c3 => ?_) (fun σ3 H3 c3 => ?_)
      · cases q : itW rows s (some i) k with
        | none =>
          simp only [q] at c3
          refine z_else1 c3 (yt_is (by (repeat' (first | with_reducible exact y_int | with_reducible exact y_str | (with_reducible show Y _ (tVar _) _ _; exact y_var rfl) | (with_reducible refine' y_eq _ _ _) | (with_reducible refine' y_ixT _ _ _) | with_reducible refine' y_ixL _ _ _ | with_reducible exact ya_nilD | with_reducible exact y_bl | with_reducible exact y_non | with_reducible exact yo_none | with_reducible exact yt_yes | with_reducible refine' yt_test _ | with_reducible refine' yt_B _ | with_reducible refine' yt_not _ | with_reducible refine' yt_and _ (fun _ => _) | with_reducible refine' yt_or _ (fun _ => _) | with_reducible refine' y_I0 _ _ | with_reducible refine' y_B0 _ _ | with_reducible refine' y_IC _ _ _ | with_reducible refine' y_parts (by assumption) _ | with_reducible refine' y_rows (by assumption) _ | with_reducible refine' ya_consD _ _ | with_reducible refine' y_tup _ (by simp) | with_reducible refine' y_lst _ (by simp) | (with_reducible show Y _ (tCB (rLen _) _) _ _; first | exact y_lenOwn rfl | exact y_lenSc (y_var rfl)) | with_reducible refine' y_len _ _ | with_reducible refine' y_ne _ _ _ | with_reducible refine' y_chain _ _ _ | with_reducible refine' y_andV _ (fun _ => _) | with_reducible refine' y_orV _ (fun _ => _) | with_reducible refine' y_isN _ | with_reducible refine' y_notN _ | exact rfl | (show _ = _; assumption) | exact atI_nat (by assumption) | (show CPow _ _; exact ⟨by decide, by decide, by decide⟩) | (show (0 : Int) < _; first | decide | omega) | (show CDiv _ _; exact ⟨by first | decide | omega, by first | decide | omega⟩) | (show CMul _ _; first | exact .inl ⟨by omega, by omega⟩ | exact .inr ⟨by omega, by omega⟩) ))) (by (first | rfl | (simp; done) | (simp only [sx_mc, sx_mb, sx_cm, sx_cb, sx_bm, sx_bc, decide_true, decide_false, Bool.and_true, Bool.true_and, Bool.not_true, Bool.not_false, Bool.and_false, Bool.false_and, Bool.or_false, Bool.or_true, decide_eq_true_eq, Bool.and_eq_true, decide_eq_false_iff_not]; first | done | omega) | (simp [sx_mc, sx_mb, sx_cm, sx_cb, sx_bm, sx_bc]; first | done | omega) | omega))) fun H4 c4 => ?_
          have en : itW rows s (some i) (k + 1) = none := by unfold itW; rw [q]; rfl
          show Cur _ _ [.p (D (rowsD rows)), .p (D (.int s)), .p (D (.int i)), .p (D (optD (itW rows s (some i) (k + 1)))), .no] _ _
          rw [en]
          exact c4.forget 4
        | some r =>
          simp only [q] at c3
          have hr := itW_lt ok hi k r q
          refine z_yes1 c3 (yt_is (by (repeat' (first | with_reducible exact y_int | with_reducible exact y_str | (with_reducible show Y _ (tVar _) _ _; exact y_var rfl) | (with_reducible refine' y_eq _ _ _) | (with_reducible refine' y_ixT _ _ _) | with_reducible refine' y_ixL _ _ _ | with_reducible exact ya_nilD | with_reducible exact y_bl | with_reducible exact y_non | with_reducible exact yo_none | with_reducible exact yt_yes | with_reducible refine' yt_test _ | with_reducible refine' yt_B _ | with_reducible refine' yt_not _ | with_reducible refine' yt_and _ (fun _ => _) | with_reducible refine' yt_or _ (fun _ => _) | with_reducible refine' y_I0 _ _ | with_reducible refine' y_B0 _ _ | with_reducible refine' y_IC _ _ _ | with_reducible refine' y_parts (by assumption) _ | with_reducible refine' y_rows (by assumption) _ | with_reducible refine' ya_consD _ _ | with_reducible refine' y_tup _ (by simp) | with_reducible refine' y_lst _ (by simp) | (with_reducible show Y _ (tCB (rLen _) _) _ _; first | exact y_lenOwn rfl | exact y_lenSc (y_var rfl)) | with_reducible refine' y_len _ _ | with_reducible refine' y_ne _ _ _ | with_reducible refine' y_chain _ _ _ | with_reducible refine' y_andV _ (fun _ => _) | with_reducible refine' y_orV _ (fun _ => _) | with_reducible refine' y_isN _ | with_reducible refine' y_notN _ | exact rfl | (show _ = _; assumption) | exact atI_nat (by assumption) | (show CPow _ _; exact ⟨by decide, by decide, by decide⟩) | (show (0 : Int) < _; first | decide | omega) | (show CDiv _ _; exact ⟨by first | decide | omega, by first | decide | omega⟩) | (show CMul _ _; first | exact .inl ⟨by omega, by omega⟩ | exact .inr ⟨by omega, by omega⟩) ))) (by (first | rfl | (simp; done) | (simp only [sx_mc, sx_mb, sx_cm, sx_cb, sx_bm, sx_bc, decide_true, decide_false, Bool.and_true, Bool.true_and, Bool.not_true, Bool.not_false, Bool.and_false, Bool.false_and, Bool.or_false, Bool.or_true, decide_eq_true_eq, Bool.and_eq_true, decide_eq_false_iff_not]; first | done | omega) | (simp [sx_mc, sx_mb, sx_cm, sx_cb, sx_bm, sx_bc]; first | done | omega) | omega))) fun H4 c4 => ?_
          refine z_asgD c4 (y_call (As := [D (rowsD rows), D (.int r), D (.int s)]) (ya_cons (y_var rfl) (mono_D _) (ya_cons (y_var rfl) (mono_D _) (ya_cons (y_var rfl) (mono_D _) ya_nil))) fun vs H Q h => ⟨rows, r, s, rows[r], by simp [hr], h⟩) fun σ5 H5 c5 => ?_
          have en : itW rows s (some i) (k + 1) = wholeR rows[r] s := by
            unfold itW
            rw [q]
            show wholeAt rows s r = _
            unfold wholeAt
            simp [hr]
          show Cur _ _ [.p (D (rowsD rows)), .p (D (.int s)), .p (D (.int i)), .p (D (optD (itW rows s (some i) (k + 1)))), .no] _ _
          rw [en]
          exact c5.forget 4
      · cases q : itW rows s (some i) rows.length with
        | none =>
          simp only [q] at c3
          refine z_else1 c3 (yt_is (by (repeat' (first | with_reducible exact y_int | with_reducible exact y_str | (with_reducible show Y _ (tVar _) _ _; exact y_var rfl) | (with_reducible refine' y_eq _ _ _) | (with_reducible refine' y_ixT _ _ _) | with_reducible refine' y_ixL _ _ _ | with_reducible exact ya_nilD | with_reducible exact y_bl | with_reducible exact y_non | with_reducible exact yo_none | with_reducible exact yt_yes | with_reducible refine' yt_test _ | with_reducible refine' yt_B _ | with_reducible refine' yt_not _ | with_reducible refine' yt_and _ (fun _ => _) | with_reducible refine' yt_or _ (fun _ => _) | with_reducible refine' y_I0 _ _ | with_reducible refine' y_B0 _ _ | with_reducible refine' y_IC _ _ _ | with_reducible refine' y_parts (by assumption) _ | with_reducible refine' y_rows (by assumption) _ | with_reducible refine' ya_consD _ _ | with_reducible refine' y_tup _ (by simp) | with_reducible refine' y_lst _ (by simp) | (with_reducible show Y _ (tCB (rLen _) _) _ _; first | exact y_lenOwn rfl | exact y_lenSc (y_var rfl)) | with_reducible refine' y_len _ _ | with_reducible refine' y_ne _ _ _ | with_reducible refine' y_chain _ _ _ | with_reducible refine' y_andV _ (fun _ => _) | with_reducible refine' y_orV _ (fun _ => _) | with_reducible refine' y_isN _ | with_reducible refine' y_notN _ | exact rfl | (show _ = _; assumption) | exact atI_nat (by assumption) | (show CPow _ _; exact ⟨by decide, by decide, by decide⟩) | (show (0 : Int) < _; first | decide | omega) | (show CDiv _ _; exact ⟨by first | decide | omega, by first | decide | omega⟩) | (show CMul _ _; first | exact .inl ⟨by omega, by omega⟩ | exact .inr ⟨by omega, by omega⟩) ))) (by (first | rfl | (simp; done) | (simp only [sx_mc, sx_mb, sx_cm, sx_cb, sx_bm, sx_bc, decide_true, decide_false, Bool.and_true, Bool.true_and, Bool.not_true, Bool.not_false, Bool.and_false, Bool.false_and, Bool.or_false, Bool.or_true, decide_eq_true_eq, Bool.and_eq_true, decide_eq_false_iff_not]; first | done | omega) | (simp [sx_mc, sx_mb, sx_cm, sx_cb, sx_bm, sx_bc]; first | done | omega) | omega))) fun H4 c4 => ⟨?_, fun j hj => ?_⟩
          · exact ((c4.forget 2).forget 3).forget 4
          · by_cases e : j = i
            · subst e; exact q
            · exact φ j (by omega)
        | some r =>
          simp only [q] at c3
          refine z_yes1 c3 (yt_is (by (repeat' (first | with_reducible exact y_int | with_reducible exact y_str | (with_reducible show Y _ (tVar _) _ _; exact y_var rfl) | (with_reducible refine' y_eq _ _ _) | (with_reducible refine' y_ixT _ _ _) | with_reducible refine' y_ixL _ _ _ | with_reducible exact ya_nilD | with_reducible exact y_bl | with_reducible exact y_non | with_reducible exact yo_none | with_reducible exact yt_yes | with_reducible refine' yt_test _ | with_reducible refine' yt_B _ | with_reducible refine' yt_not _ | with_reducible refine' yt_and _ (fun _ => _) | with_reducible refine' yt_or _ (fun _ => _) | with_reducible refine' y_I0 _ _ | with_reducible refine' y_B0 _ _ | with_reducible refine' y_IC _ _ _ | with_reducible refine' y_parts (by assumption) _ | with_reducible refine' y_rows (by assumption) _ | with_reducible refine' ya_consD _ _ | with_reducible refine' y_tup _ (by simp) | with_reducible refine' y_lst _ (by simp) | (with_reducible show Y _ (tCB (rLen _) _) _ _; first | exact y_lenOwn rfl | exact y_lenSc (y_var rfl)) | with_reducible refine' y_len _ _ | with_reducible refine' y_ne _ _ _ | with_reducible refine' y_chain _ _ _ | with_reducible refine' y_andV _ (fun _ => _) | with_reducible refine' y_orV _ (fun _ => _) | with_reducible refine' y_isN _ | with_reducible refine' y_notN _ | exact rfl | (show _ = _; assumption) | exact atI_nat (by assumption) | (show CPow _ _; exact ⟨by decide, by decide, by decide⟩) | (show (0 : Int) < _; first | decide | omega) | (show CDiv _ _; exact ⟨by first | decide | omega, by first | decide | omega⟩) | (show CMul _ _; first | exact .inl ⟨by omega, by omega⟩ | exact .inr ⟨by omega, by omega⟩) ))) (by (first | rfl | (simp; done) | (simp only [sx_mc, sx_mb, sx_cm, sx_cb, sx_bm, sx_bc, decide_true, decide_false, Bool.and_true, Bool.true_and, Bool.not_true, Bool.not_false, Bool.and_false, Bool.false_and, Bool.or_false, Bool.or_true, decide_eq_true_eq, Bool.and_eq_true, decide_eq_false_iff_not]; first | done | omega) | (simp [sx_mc, sx_mb, sx_cm, sx_cb, sx_bm, sx_bc]; first | done | omega) | omega))) fun H4 c4 => ?_
          have eg : goesRound rows s = true := by
            unfold goesRound
            exact List.any_eq_true.mpr ⟨i, List.mem_range.mpr hi, by rw [q]; rfl⟩
          exact z_ret c4 (y_is (d := .bool true) y_bl (by rw [eg])) k
    · have eg : goesRound rows s = false := by
        unfold goesRound
        rw [List.any_eq_false]
        intro j hj
        rw [φ j (List.mem_range.mp hj)]
        simp
      exact z_ret c1 (y_is (d := .bool false) y_bl (by rw [eg])) k
def sp__law_stuck : Sp := fun vs H Q E => ∃ (rows : List Rw), (RowsOk rows ∧ rows.length ≤ 100) ∧ spP [D (rowsD rows)] (D (.bool (lawStuck rows))) vs H Q E
theorem flat_le {rows : List Rw} : (rows.flatMap rowSizes).length ≤ 2 * rows.length := by
  induction rows with
  | nil => simp
  | cons r rs ih =>
    rw [List.flatMap_cons, List.length_append, List.length_cons]
    cases r <;> simp only [rowSizes, List.length_cons, List.length_nil] <;> omega
theorem ok__law_stuck (T : Tx K mg) : Cal P w K mg base 3 "_law_stuck" ["rows"] sp__law_stuck := by
  have C__law_goes_round := ok__law_goes_round (P := P) (w := w) (base := base) T
  obtain ⟨fd, F⟩ := T.c.def_ 31 (d := d__law_stuck) rfl
  refine ⟨_, fd, T.g__law_stuck, F.kp, FunD.bindsN (ps := ["rows"]) F fun _ _ _ _ _ _ us hl => match us, hl with | [_], _ => rfl, def_ok F sc__law_stuck ?_ fun cdv A outer s H vs Q E hr h => ?_⟩
  · intro vs H Q E h
    obtain ⟨_, _, h⟩ := h
    exact h.len
  · obtain ⟨rows, ok, Hb, sm, ha, k⟩ := h
    have c := start_cur (N := N__law_stuck) (k := 3) sm ha (by repeat' (first | exact trivial | exact mono_D _ | exact mono_Ws | exact mono_Sc | refine ⟨?_, ?_⟩)) rfl
    refine ⟨_, (pss_cons (ps_set (i := 1) sc__law_stuck.nd rfl (Or.inl rfl) (pe_lst (pa_cons pe_int pa_nil)))
  (pss_cons (ps_for PassesOwn.never rfl (pi_listK (K := K) rfl (pv 0)) (pg_name (i := 2) sc__law_stuck.nd rfl (Or.inl rfl))
    (pss_one (ps_if (pt_cmpR op_eq (pe_ix (kxT (K := K) rfl) (pv 2) pe_int (fun _ _ => rfl)) pe_str (nomark _))
    (pss_one (ps_set (i := 1) sc__law_stuck.nd rfl (Or.inl rfl) (pe_op op_cat (pv 1) (pe_lst (pa_cons (pe_ix (kxT (K := K) rfl) (pv 2) pe_int (fun _ _ => rfl)) (pa_cons (pe_op op_add (pe_ix (kxT (K := K) rfl) (pv 2) pe_int (fun _ _ => rfl)) pe_int) pa_nil))))))
    pss_nil)))
  (pss_one (ps_ret (pe_cmpR op_gt (pe_callB (kLen (K := K) rfl) (by rfl) T.len bb_len (pa_cons (pe_lc (own := [("size", 3)]) (g := (gName 3)) rfl sc__law_stuck.nd (pi_listK (K := K) rfl (pv 1)) (blkOk_by (own := [("size", 3)]) (N := N__law_stuck) (sc := defScope s__law_stuck) (by decide +kernel)) (fun _ _ _ _ _ => (pg_name (i := 3) sc__law_stuck.nd rfl (Or.inl rfl))) (fun _ _ _ _ _ => (pts_one (pt_val (pe_cal C__law_goes_round (hr.mono (by decide)) (by rfl) (pa_cons (pv 0) (pa_cons (pv 3) pa_nil)))))) (fun _ _ _ _ _ => (pv 3))) pa_nil)) pe_int (nomark _)))))), ?_⟩
    obtain ⟨ok, hl⟩ := ok
    refine q_asgD c (d := .list [.int 1]) (by (repeat' (first | with_reducible exact y_int | with_reducible exact y_str | (with_reducible show Y _ (tVar _) _ _; exact y_var rfl) | (with_reducible refine' y_eq _ _ _) | (with_reducible refine' y_ixT _ _ _) | with_reducible refine' y_ixL _ _ _ | with_reducible exact ya_nilD | with_reducible exact y_bl | with_reducible exact y_non | with_reducible exact yo_none | with_reducible exact yt_yes | with_reducible refine' yt_test _ | with_reducible refine' yt_B _ | with_reducible refine' yt_not _ | with_reducible refine' yt_and _ (fun _ => _) | with_reducible refine' yt_or _ (fun _ => _) | with_reducible refine' y_I0 _ _ | with_reducible refine' y_B0 _ _ | with_reducible refine' y_IC _ _ _ | with_reducible refine' y_parts (by assumption) _ | with_reducible refine' y_rows (by assumption) _ | with_reducible refine' ya_consD _ _ | with_reducible refine' y_tup _ (by simp) | with_reducible refine' y_lst _ (by simp) | (with_reducible show Y _ (tCB (rLen _) _) _ _; first | exact y_lenOwn rfl | exact y_lenSc (y_var rfl)) | with_reducible refine' y_len _ _ | with_reducible refine' y_ne _ _ _ | with_reducible refine' y_chain _ _ _ | with_reducible refine' y_andV _ (fun _ => _) | with_reducible refine' y_orV _ (fun _ => _) | with_reducible refine' y_isN _ | with_reducible refine' y_notN _ | exact rfl | (show _ = _; assumption) | exact atI_nat (by assumption) | (show CPow _ _; exact ⟨by decide, by decide, by decide⟩) | (show (0 : Int) < _; first | decide | omega) | (show CDiv _ _; exact ⟨by first | decide | omega, by first | decide | omega⟩) | (show CMul _ _; first | exact .inl ⟨by omega, by omega⟩ | exact .inr ⟨by omega, by omega⟩) ))) fun σ1 H1 c1 => ?_
    refine q_forL (xs := rows) (enc := rowD) (vs := [2]) c1 (y_var rfl) (fun i => [.p (D (rowsD rows)), .p (D (.list ((1 :: (rows.take i).flatMap rowSizes).map .int))), .no, .no]) (fun i x => [.p (D (rowsD rows)), .p (D (.list ((1 :: (rows.take i).flatMap rowSizes).map .int))), .p (D (rowD x)), .no]) (fun _ _ c => c) (fun i x _ => yg_name) (fun Hb1 _ i x hx σ2 H2 c2 => ?_) (fun σ2 H2 c2 => ?_)
    · have le : ((1 :: (rows.take i).flatMap rowSizes).map PyData.int).length ≤ 300 := by
        have := flat_le (rows := rows.take i)
        rw [List.length_take] at this
        simp only [List.length_map, List.length_cons]
        omega
      rw [take_step rowSizes hx]
      cases x with
      | mesh c0 u o =>
        refine z_yes1 c2 (yt_is (by (repeat' (first | with_reducible exact y_int | with_reducible exact y_str | (with_reducible show Y _ (tVar _) _ _; exact y_var rfl) | (with_reducible refine' y_eq _ _ _) | (with_reducible refine' y_ixT _ _ _) | with_reducible refine' y_ixL _ _ _ | with_reducible exact ya_nilD | with_reducible exact y_bl | with_reducible exact y_non | with_reducible exact yo_none | with_reducible exact yt_yes | with_reducible refine' yt_test _ | with_reducible refine' yt_B _ | with_reducible refine' yt_not _ | with_reducible refine' yt_and _ (fun _ => _) | with_reducible refine' yt_or _ (fun _ => _) | with_reducible refine' y_I0 _ _ | with_reducible refine' y_B0 _ _ | with_reducible refine' y_IC _ _ _ | with_reducible refine' y_parts (by assumption) _ | with_reducible refine' y_rows (by assumption) _ | with_reducible refine' ya_consD _ _ | with_reducible refine' y_tup _ (by simp) | with_reducible refine' y_lst _ (by simp) | (with_reducible show Y _ (tCB (rLen _) _) _ _; first | exact y_lenOwn rfl | exact y_lenSc (y_var rfl)) | with_reducible refine' y_len _ _ | with_reducible refine' y_ne _ _ _ | with_reducible refine' y_chain _ _ _ | with_reducible refine' y_andV _ (fun _ => _) | with_reducible refine' y_orV _ (fun _ => _) | with_reducible refine' y_isN _ | with_reducible refine' y_notN _ | exact rfl | (show _ = _; assumption) | exact atI_nat (by assumption) | (show CPow _ _; exact ⟨by decide, by decide, by decide⟩) | (show (0 : Int) < _; first | decide | omega) | (show CDiv _ _; exact ⟨by first | decide | omega, by first | decide | omega⟩) | (show CMul _ _; first | exact .inl ⟨by omega, by omega⟩ | exact .inr ⟨by omega, by omega⟩) ))) (by (first | rfl | (simp; done) | (simp only [sx_mc, sx_mb, sx_cm, sx_cb, sx_bm, sx_bc, decide_true, decide_false, Bool.and_true, Bool.true_and, Bool.not_true, Bool.not_false, Bool.and_false, Bool.false_and, Bool.or_false, Bool.or_true, decide_eq_true_eq, Bool.and_eq_true, decide_eq_false_iff_not]; first | done | omega) | (simp [sx_mc, sx_mb, sx_cm, sx_cb, sx_bm, sx_bc]; first | done | omega) | omega))) fun H3 c3 => ?_
        refine z_asgD c3 (d := .list ((1 :: ((rows.take i).flatMap rowSizes ++ rowSizes (.mesh c0 u o))).map .int)) (y_is (y_cat (y_var rfl) (y_lst (ds := [.int c0, .int (c0 + 1)]) (by (repeat' (first | with_reducible exact y_int | with_reducible exact y_str | (with_reducible show Y _ (tVar _) _ _; exact y_var rfl) | (with_reducible refine' y_eq _ _ _) | (with_reducible refine' y_ixT _ _ _) | with_reducible refine' y_ixL _ _ _ | with_reducible exact ya_nilD | with_reducible exact y_bl | with_reducible exact y_non | with_reducible exact yo_none | with_reducible exact yt_yes | with_reducible refine' yt_test _ | with_reducible refine' yt_B _ | with_reducible refine' yt_not _ | with_reducible refine' yt_and _ (fun _ => _) | with_reducible refine' yt_or _ (fun _ => _) | with_reducible refine' y_I0 _ _ | with_reducible refine' y_B0 _ _ | with_reducible refine' y_IC _ _ _ | with_reducible refine' y_parts (by assumption) _ | with_reducible refine' y_rows (by assumption) _ | with_reducible refine' ya_consD _ _ | with_reducible refine' y_tup _ (by simp) | with_reducible refine' y_lst _ (by simp) | (with_reducible show Y _ (tCB (rLen _) _) _ _; first | exact y_lenOwn rfl | exact y_lenSc (y_var rfl)) | with_reducible refine' y_len _ _ | with_reducible refine' y_ne _ _ _ | with_reducible refine' y_chain _ _ _ | with_reducible refine' y_andV _ (fun _ => _) | with_reducible refine' y_orV _ (fun _ => _) | with_reducible refine' y_isN _ | with_reducible refine' y_notN _ | exact rfl | (show _ = _; assumption) | exact atI_nat (by assumption) | (show CPow _ _; exact ⟨by decide, by decide, by decide⟩) | (show (0 : Int) < _; first | decide | omega) | (show CDiv _ _; exact ⟨by first | decide | omega, by first | decide | omega⟩) | (show CMul _ _; first | exact .inl ⟨by omega, by omega⟩ | exact .inr ⟨by omega, by omega⟩) ))) (by simp)) (by simp at le ⊢; omega)) (by simp [rowSizes])) fun σ4 H4 c4 => ?_
        exact c4.forget 2
      | crush t =>
        refine z_else1 c2 (yt_is (by (repeat' (first | with_reducible exact y_int | with_reducible exact y_str | (with_reducible show Y _ (tVar _) _ _; exact y_var rfl) | (with_reducible refine' y_eq _ _ _) | (with_reducible refine' y_ixT _ _ _) | with_reducible refine' y_ixL _ _ _ | with_reducible exact ya_nilD | with_reducible exact y_bl | with_reducible exact y_non | with_reducible exact yo_none | with_reducible exact yt_yes | with_reducible refine' yt_test _ | with_reducible refine' yt_B _ | with_reducible refine' yt_not _ | with_reducible refine' yt_and _ (fun _ => _) | with_reducible refine' yt_or _ (fun _ => _) | with_reducible refine' y_I0 _ _ | with_reducible refine' y_B0 _ _ | with_reducible refine' y_IC _ _ _ | with_reducible refine' y_parts (by assumption) _ | with_reducible refine' y_rows (by assumption) _ | with_reducible refine' ya_consD _ _ | with_reducible refine' y_tup _ (by simp) | with_reducible refine' y_lst _ (by simp) | (with_reducible show Y _ (tCB (rLen _) _) _ _; first | exact y_lenOwn rfl | exact y_lenSc (y_var rfl)) | with_reducible refine' y_len _ _ | with_reducible refine' y_ne _ _ _ | with_reducible refine' y_chain _ _ _ | with_reducible refine' y_andV _ (fun _ => _) | with_reducible refine' y_orV _ (fun _ => _) | with_reducible refine' y_isN _ | with_reducible refine' y_notN _ | exact rfl | (show _ = _; assumption) | exact atI_nat (by assumption) | (show CPow _ _; exact ⟨by decide, by decide, by decide⟩) | (show (0 : Int) < _; first | decide | omega) | (show CDiv _ _; exact ⟨by first | decide | omega, by first | decide | omega⟩) | (show CMul _ _; first | exact .inl ⟨by omega, by omega⟩ | exact .inr ⟨by omega, by omega⟩) ))) (by (first | rfl | (simp; done) | (simp only [sx_mc, sx_mb, sx_cm, sx_cb, sx_bm, sx_bc, decide_true, decide_false, Bool.and_true, Bool.true_and, Bool.not_true, Bool.not_false, Bool.and_false, Bool.false_and, Bool.or_false, Bool.or_true, decide_eq_true_eq, Bool.and_eq_true, decide_eq_false_iff_not]; first | done | omega) | (simp [sx_mc, sx_mb, sx_cm, sx_cb, sx_bm, sx_bc]; first | done | omega) | omega))) fun H3 c3 => ?_
        show Cur _ _ [_, .p (D (.list ((1 :: ((rows.take i).flatMap rowSizes ++ [])).map .int))), _, _] _ _
        rw [List.append_nil]
        exact c3.forget 2
      | bin b =>
        refine z_else1 c2 (yt_is (by (repeat' (first | with_reducible exact y_int | with_reducible exact y_str | (with_reducible show Y _ (tVar _) _ _; exact y_var rfl) | (with_reducible refine' y_eq _ _ _) | (with_reducible refine' y_ixT _ _ _) | with_reducible refine' y_ixL _ _ _ | with_reducible exact ya_nilD | with_reducible exact y_bl | with_reducible exact y_non | with_reducible exact yo_none | with_reducible exact yt_yes | with_reducible refine' yt_test _ | with_reducible refine' yt_B _ | with_reducible refine' yt_not _ | with_reducible refine' yt_and _ (fun _ => _) | with_reducible refine' yt_or _ (fun _ => _) | with_reducible refine' y_I0 _ _ | with_reducible refine' y_B0 _ _ | with_reducible refine' y_IC _ _ _ | with_reducible refine' y_parts (by assumption) _ | with_reducible refine' y_rows (by assumption) _ | with_reducible refine' ya_consD _ _ | with_reducible refine' y_tup _ (by simp) | with_reducible refine' y_lst _ (by simp) | (with_reducible show Y _ (tCB (rLen _) _) _ _; first | exact y_lenOwn rfl | exact y_lenSc (y_var rfl)) | with_reducible refine' y_len _ _ | with_reducible refine' y_ne _ _ _ | with_reducible refine' y_chain _ _ _ | with_reducible refine' y_andV _ (fun _ => _) | with_reducible refine' y_orV _ (fun _ => _) | with_reducible refine' y_isN _ | with_reducible refine' y_notN _ | exact rfl | (show _ = _; assumption) | exact atI_nat (by assumption) | (show CPow _ _; exact ⟨by decide, by decide, by decide⟩) | (show (0 : Int) < _; first | decide | omega) | (show CDiv _ _; exact ⟨by first | decide | omega, by first | decide | omega⟩) | (show CMul _ _; first | exact .inl ⟨by omega, by omega⟩ | exact .inr ⟨by omega, by omega⟩) ))) (by (first | rfl | (simp; done) | (simp only [sx_mc, sx_mb, sx_cm, sx_cb, sx_bm, sx_bc, decide_true, decide_false, Bool.and_true, Bool.true_and, Bool.not_true, Bool.not_false, Bool.and_false, Bool.false_and, Bool.or_false, Bool.or_true, decide_eq_true_eq, Bool.and_eq_true, decide_eq_false_iff_not]; first | done | omega) | (simp [sx_mc, sx_mb, sx_cm, sx_cb, sx_bm, sx_bc]; first | done | omega) | omega))) fun H3 c3 => ?_
        show Cur _ _ [_, .p (D (.list ((1 :: ((rows.take i).flatMap rowSizes ++ [])).map .int))), _, _] _ _
        rw [List.append_nil]
        exact c3.forget 2
    · rw [List.take_length] at c2
      have le := flat_le (rows := rows)
      refine z_ret c2 (y_is (y_B0 (g := fun i j => decide (j < i)) (j := 0) (y_len (y_lcL (xs := lawSizes rows) (enc := .int) (e := .int) (b := goesRound rows) (fun x => [.p (D (rowsD rows)), .p (D (.list ((1 :: rows.flatMap rowSizes).map .int))), .no, .p (D (.int x))]) (y_var rfl) (by unfold lawSizes; simp only [List.length_cons]; omega) (fun x _ => yg_name) (fun x _ => yt_B (y_call (As := [D (rowsD rows), D (.int x)]) (ya_cons (y_var rfl) (mono_D _) (ya_cons (y_var rfl) (mono_D _) ya_nil)) fun vs H Q h => ⟨rows, x, ⟨ok, hl⟩, h⟩)) (fun x _ _ => y_var rfl)) rfl) y_int) ?_) k
      unfold lawStuck
      simp only [lenD, List.length_map]
def sp__law_over : Sp := fun vs H Q E => ∃ (rows : List Rw) (cell later : Int), (rows.length ≤ 100 ∧ 1 ≤ later) ∧ spP [D (rowsD rows), D (.int cell), D (.int later)] (D (.int (lawOver rows cell later))) vs H Q E
theorem ok__law_over (T : Tx K mg) : Cal P w K mg base 1 "_law_over" ["rows", "cell", "later"] sp__law_over := by
  obtain ⟨fd, F⟩ := T.c.def_ 26 (d := d__law_over) rfl
  refine ⟨_, fd, T.g__law_over, F.kp, FunD.bindsN (ps := ["rows", "cell", "later"]) F fun _ _ _ _ _ _ us hl => match us, hl with | [_, _, _], _ => rfl, def_ok F sc__law_over ?_ fun cdv A outer s H vs Q E hr h => ?_⟩
  · intro vs H Q E h
    obtain ⟨_, _, _, _, h⟩ := h
    exact h.len
  · obtain ⟨rows, cell, later, ok, Hb, sm, ha, k⟩ := h
    have c := start_cur (N := N__law_over) (k := 2) sm ha (by repeat' (first | exact trivial | exact mono_D _ | exact mono_Ws | exact mono_Sc | refine ⟨?_, ?_⟩)) rfl
    refine ⟨_, (pss_cons (ps_setLc (i := 3) (own := [("k", 4)]) (g := (gName 4)) rfl sc__law_over.nd rfl rfl (sw_true rfl rfl rfl (by decide +kernel)) (pi_range1 (by rfl) T.range (pa_cons (pe_callB (kLen (K := K) rfl) (by rfl) T.len bb_len (pa_cons (pv 0) pa_nil)) pa_nil)) (blkOk_by (own := [("k", 4)]) (N := N__law_over) (sc := defScope s__law_over) (by decide +kernel)) (fun _ _ _ _ _ => (pg_name (i := 4) sc__law_over.nd rfl (Or.inl rfl))) (fun _ _ _ _ _ => (pts_one (pt_cmpR op_eq (pe_ix (kxT (K := K) rfl) (pe_ix (kxL (K := K) rfl) (pv 0) (pv 4) (fun _ _ => rfl)) pe_int (fun _ _ => rfl)) pe_str (nomark _)))) (fun _ _ _ _ _ => (pv 4)))
  (pss_cons (ps_if ((pw_and (pt_cmpR op_eq (pe_op op_mod (pv 1) pe_int) pe_int (nomark _)) (pw_and1 (pt_cmpR op_gt (pe_callB (kLen (K := K) rfl) (by rfl) T.len bb_len (pa_cons (pv 3) pa_nil)) pe_int (nomark _))))).pt
    (pss_one (ps_ret (pe_ix (kxL (K := K) rfl) (pv 3) (pe_op op_mod (pe_op op_fdiv (pv 1) pe_int) (pe_callB (kLen (K := K) rfl) (by rfl) T.len bb_len (pa_cons (pv 3) pa_nil))) (fun _ _ => rfl))))
    pss_nil)
  (pss_one (ps_ret (pe_op op_add (pe_op op_add (pe_callB (kLen (K := K) rfl) (by rfl) T.len bb_len (pa_cons (pv 0) pa_nil)) pe_int) (pe_op op_mod (pe_op op_fdiv (pv 1) pe_int) (pv 2))))))), ?_⟩
    obtain ⟨hl, h1⟩ := ok
    have ll : (lawAhead rows).length ≤ rows.length := by
      unfold lawAhead
      refine Nat.le_trans (List.length_filter_le _ _) ?_
      rw [List.length_range]; exact Nat.le_refl _
    refine q_asgD c (d := .list ((lawAhead rows).map fun k => .int (k : Nat))) (y_lcR (n := rows.length) (e := fun k => .int (k : Nat)) (b := fun k => (rows[k]?.map isCrush).getD false) (fun k => [.p (D (rowsD rows)), .p (D (.int cell)), .p (D (.int later)), .no, .p (D (.int (k : Nat)))]) (y_lenRows (y_var rfl)) (by omega) (fun x _ => yg_name) (fun k hk => ?_) (fun k _ _ => y_var rfl)) fun σ1 H1 c1 => ?_
    · have e : rows[k]? = some rows[k] := by simp [hk]
      rw [e]
      have ix : atI (rows.map rowD) (k : Int) = some (rowD rows[k]) := atI_nat (by rw [List.getElem?_map, e]; rfl)
      cases hr : rows[k] with
      | mesh c0 u o => rw [hr] at ix; exact yt_is (yt_test (y_eq (y_ixT (y_ixL (y_var rfl) (y_var rfl) ix) y_int rfl) y_str rfl)) (by simp [sx_mc, isCrush])
      | crush t => rw [hr] at ix; exact yt_is (yt_test (y_eq (y_ixT (y_ixL (y_var rfl) (y_var rfl) ix) y_int rfl) y_str rfl)) (by simp [isCrush])
      | bin b => rw [hr] at ix; exact yt_is (yt_test (y_eq (y_ixT (y_ixL (y_var rfl) (y_var rfl) ix) y_int rfl) y_str rfl)) (by simp [sx_bc, isCrush])
    · unfold lawOver at k
      by_cases hc : cell % 3 = 1 ∧ 0 < (lawAhead rows).length
      · rw [if_pos hc] at k
        have q1 := Int.emod_nonneg (cell / 3) (show ((lawAhead rows).length : Int) ≠ 0 by omega)
        have q2 := Int.emod_lt_of_pos (cell / 3) (show (0 : Int) < ((lawAhead rows).length : Int) by omega)
        refine z_yes c1 (yt_is (yt_and (a := true) (yt_is (by (repeat' (first | with_reducible exact y_int | with_reducible exact y_str | (with_reducible show Y _ (tVar _) _ _; exact y_var rfl) | (with_reducible refine' y_eq _ _ _) | (with_reducible refine' y_ixT _ _ _) | with_reducible refine' y_ixL _ _ _ | with_reducible exact ya_nilD | with_reducible exact y_bl | with_reducible exact y_non | with_reducible exact yo_none | with_reducible exact yt_yes | with_reducible refine' yt_test _ | with_reducible refine' yt_B _ | with_reducible refine' yt_not _ | with_reducible refine' yt_and _ (fun _ => _) | with_reducible refine' yt_or _ (fun _ => _) | with_reducible refine' y_I0 _ _ | with_reducible refine' y_B0 _ _ | with_reducible refine' y_IC _ _ _ | with_reducible refine' y_parts (by assumption) _ | with_reducible refine' y_rows (by assumption) _ | with_reducible refine' ya_consD _ _ | with_reducible refine' y_tup _ (by simp) | with_reducible refine' y_lst _ (by simp) | (with_reducible show Y _ (tCB (rLen _) _) _ _; first | exact y_lenOwn rfl | exact y_lenSc (y_var rfl)) | with_reducible refine' y_len _ _ | with_reducible refine' y_ne _ _ _ | with_reducible refine' y_chain _ _ _ | with_reducible refine' y_andV _ (fun _ => _) | with_reducible refine' y_orV _ (fun _ => _) | with_reducible refine' y_isN _ | with_reducible refine' y_notN _ | exact rfl | (show _ = _; assumption) | exact atI_nat (by assumption) | (show CPow _ _; exact ⟨by decide, by decide, by decide⟩) | (show (0 : Int) < _; first | decide | omega) | (show CDiv _ _; exact ⟨by first | decide | omega, by first | decide | omega⟩) | (show CMul _ _; first | exact .inl ⟨by omega, by omega⟩ | exact .inr ⟨by omega, by omega⟩) ))) (by show decide (cell % 3 = 1) = true; exact decide_eq_true hc.1)) fun _ => yt_is (y_B0_t (y_len (y_var rfl) rfl) y_int) (by simp only [lenD, List.length_map]; exact decide_eq_true (by omega))) rfl) fun H2 c2 => ?_
        refine z_ret c2 (y_ixL (i := cell / 3 % ((lawAhead rows).length : Int)) (y_var rfl) (y_IC (by (repeat' (first | with_reducible exact y_int | with_reducible exact y_str | (with_reducible show Y _ (tVar _) _ _; exact y_var rfl) | (with_reducible refine' y_eq _ _ _) | (with_reducible refine' y_ixT _ _ _) | with_reducible refine' y_ixL _ _ _ | with_reducible exact ya_nilD | with_reducible exact y_bl | with_reducible exact y_non | with_reducible exact yo_none | with_reducible exact yt_yes | with_reducible refine' yt_test _ | with_reducible refine' yt_B _ | with_reducible refine' yt_not _ | with_reducible refine' yt_and _ (fun _ => _) | with_reducible refine' yt_or _ (fun _ => _) | with_reducible refine' y_I0 _ _ | with_reducible refine' y_B0 _ _ | with_reducible refine' y_IC _ _ _ | with_reducible refine' y_parts (by assumption) _ | with_reducible refine' y_rows (by assumption) _ | with_reducible refine' ya_consD _ _ | with_reducible refine' y_tup _ (by simp) | with_reducible refine' y_lst _ (by simp) | (with_reducible show Y _ (tCB (rLen _) _) _ _; first | exact y_lenOwn rfl | exact y_lenSc (y_var rfl)) | with_reducible refine' y_len _ _ | with_reducible refine' y_ne _ _ _ | with_reducible refine' y_chain _ _ _ | with_reducible refine' y_andV _ (fun _ => _) | with_reducible refine' y_orV _ (fun _ => _) | with_reducible refine' y_isN _ | with_reducible refine' y_notN _ | exact rfl | (show _ = _; assumption) | exact atI_nat (by assumption) | (show CPow _ _; exact ⟨by decide, by decide, by decide⟩) | (show (0 : Int) < _; first | decide | omega) | (show CDiv _ _; exact ⟨by first | decide | omega, by first | decide | omega⟩) | (show CMul _ _; first | exact .inl ⟨by omega, by omega⟩ | exact .inr ⟨by omega, by omega⟩) ))) (y_is (y_len (y_var rfl) rfl) (by simp only [lenD, List.length_map])) (by omega)) ?_) k
        have ej : cell / 3 % ((lawAhead rows).length : Int) = (((cell / 3 % ((lawAhead rows).length : Int)).toNat : Nat) : Int) := (Int.toNat_of_nonneg q1).symm
        rw [ej]
        refine atI_nat ?_
        rw [Int.toNat_natCast, List.getElem?_map]
        have lt : (cell / 3 % ((lawAhead rows).length : Int)).toNat < (lawAhead rows).length := by omega
        simp [List.getD, List.getElem?_eq_getElem lt]
      · rw [if_neg hc] at k
        refine z_no c1 (yt_is (yt_and (a := decide (cell % 3 = 1)) (b := decide (0 < ((lawAhead rows).length : Int))) (yt_is (by (repeat' (first | with_reducible exact y_int | with_reducible exact y_str | (with_reducible show Y _ (tVar _) _ _; exact y_var rfl) | (with_reducible refine' y_eq _ _ _) | (with_reducible refine' y_ixT _ _ _) | with_reducible refine' y_ixL _ _ _ | with_reducible exact ya_nilD | with_reducible exact y_bl | with_reducible exact y_non | with_reducible exact yo_none | with_reducible exact yt_yes | with_reducible refine' yt_test _ | with_reducible refine' yt_B _ | with_reducible refine' yt_not _ | with_reducible refine' yt_and _ (fun _ => _) | with_reducible refine' yt_or _ (fun _ => _) | with_reducible refine' y_I0 _ _ | with_reducible refine' y_B0 _ _ | with_reducible refine' y_IC _ _ _ | with_reducible refine' y_parts (by assumption) _ | with_reducible refine' y_rows (by assumption) _ | with_reducible refine' ya_consD _ _ | with_reducible refine' y_tup _ (by simp) | with_reducible refine' y_lst _ (by simp) | (with_reducible show Y _ (tCB (rLen _) _) _ _; first | exact y_lenOwn rfl | exact y_lenSc (y_var rfl)) | with_reducible refine' y_len _ _ | with_reducible refine' y_ne _ _ _ | with_reducible refine' y_chain _ _ _ | with_reducible refine' y_andV _ (fun _ => _) | with_reducible refine' y_orV _ (fun _ => _) | with_reducible refine' y_isN _ | with_reducible refine' y_notN _ | exact rfl | (show _ = _; assumption) | exact atI_nat (by assumption) | (show CPow _ _; exact ⟨by decide, by decide, by decide⟩) | (show (0 : Int) < _; first | decide | omega) | (show CDiv _ _; exact ⟨by first | decide | omega, by first | decide | omega⟩) | (show CMul _ _; first | exact .inl ⟨by omega, by omega⟩ | exact .inr ⟨by omega, by omega⟩) ))) (by (first | rfl | (simp; done) | (simp only [sx_mc, sx_mb, sx_cm, sx_cb, sx_bm, sx_bc, decide_true, decide_false, Bool.and_true, Bool.true_and, Bool.not_true, Bool.not_false, Bool.and_false, Bool.false_and, Bool.or_false, Bool.or_true, decide_eq_true_eq, Bool.and_eq_true, decide_eq_false_iff_not]; first | done | omega) | (simp [sx_mc, sx_mb, sx_cm, sx_cb, sx_bm, sx_bc]; first | done | omega) | omega))) fun _ => yt_is (y_B0_t (y_len (y_var rfl) rfl) y_int) (by simp only [lenD, List.length_map])) ?_) fun H2 c2 => ?_
        · rw [← Bool.decide_and]
          exact decide_eq_false (by omega)
        · have q1 := Int.emod_nonneg (cell / 3) (show later ≠ 0 by omega)
          refine z_ret c2 (y_is (y_I0 (y_I0 (y_lenRows (y_var rfl)) y_int) (y_IC (by (repeat' (first | with_reducible exact y_int | with_reducible exact y_str | (with_reducible show Y _ (tVar _) _ _; exact y_var rfl) | (with_reducible refine' y_eq _ _ _) | (with_reducible refine' y_ixT _ _ _) | with_reducible refine' y_ixL _ _ _ | with_reducible exact ya_nilD | with_reducible exact y_bl | with_reducible exact y_non | with_reducible exact yo_none | with_reducible exact yt_yes | with_reducible refine' yt_test _ | with_reducible refine' yt_B _ | with_reducible refine' yt_not _ | with_reducible refine' yt_and _ (fun _ => _) | with_reducible refine' yt_or _ (fun _ => _) | with_reducible refine' y_I0 _ _ | with_reducible refine' y_B0 _ _ | with_reducible refine' y_IC _ _ _ | with_reducible refine' y_parts (by assumption) _ | with_reducible refine' y_rows (by assumption) _ | with_reducible refine' ya_consD _ _ | with_reducible refine' y_tup _ (by simp) | with_reducible refine' y_lst _ (by simp) | (with_reducible show Y _ (tCB (rLen _) _) _ _; first | exact y_lenOwn rfl | exact y_lenSc (y_var rfl)) | with_reducible refine' y_len _ _ | with_reducible refine' y_ne _ _ _ | with_reducible refine' y_chain _ _ _ | with_reducible refine' y_andV _ (fun _ => _) | with_reducible refine' y_orV _ (fun _ => _) | with_reducible refine' y_isN _ | with_reducible refine' y_notN _ | exact rfl | (show _ = _; assumption) | exact atI_nat (by assumption) | (show CPow _ _; exact ⟨by decide, by decide, by decide⟩) | (show (0 : Int) < _; first | decide | omega) | (show CDiv _ _; exact ⟨by first | decide | omega, by first | decide | omega⟩) | (show CMul _ _; first | exact .inl ⟨by omega, by omega⟩ | exact .inr ⟨by omega, by omega⟩) ))) (y_var rfl) (by omega))) ?_) k
          rw [Int.toNat_of_nonneg (by omega)]
end
end MW

/-! F5 -/
set_option Elab.async false
set_option linter.all false
set_option maxRecDepth 100000
set_option maxHeartbeats 400000
namespace MW
open PySem PySem.Spec L2

/-! ### an own list read while a flat item for it is reckoned -/
mutual
def NoL : PyData → Bool
  | .list _ => false
  | .dict _ => false
  | .tuple ds => NoLs ds
  | _ => true
def NoLs : List PyData → Bool
  | [] => true
  | d :: ds => NoL d && NoLs ds
end
def delH (H : Hp) (l : Addr) : Hp := fun a => if a = l then none else H a
theorem delH_ne {H : Hp} {l a : Addr} (h : a ≠ l) : delH H l a = H a := if_neg h
theorem delH_at {H : Hp} {l : Addr} : delH H l l = none := if_pos rfl
mutual
theorem Dv.thaw {H : Hp} {l : Addr} {xs : List V} (hl : H l = some (.lst xs)) : ∀ (d : PyData) (v : V), NoL d = true → Dv H d v → Dv (delH H l) d v
  | .none, _, _, h => h
  | .bool _, _, _, h => h
  | .int _, _, _, h => h
  | .str _, _, _, h => h
  | .list _, _, n, _ => by cases n
  | .dict _, _, n, _ => by cases n
  | .tuple ds, _, n, ⟨a, vs, e, h, r⟩ => ⟨a, vs, e, by rw [delH_ne (fun z => by subst z; rw [h] at hl; cases hl)]; exact h, DvAll.thaw hl ds vs n r⟩
theorem DvAll.thaw {H : Hp} {l : Addr} {xs : List V} (hl : H l = some (.lst xs)) : ∀ (ds : List PyData) (vs : List V), NoLs ds = true → DvAll H ds vs → DvAll (delH H l) ds vs
  | [], _, _, h => h
  | d :: ds, _, n, ⟨v, r, e, h, q⟩ => by
    have n' : NoL d = true ∧ NoLs ds = true := by simpa [NoLs] using n
    exact ⟨v, r, e, Dv.thaw hl d v n'.1 h, DvAll.thaw hl ds r n'.2 q⟩
end
section
variable {K : PySem.W.Frag} {Hb0 H0 H : Hp} {G : Ctx} {σ : L2.St} {De : Ends} {te : TE}
theorem z_appF {n : Nat} {ds : List PyData} {d : PyData} (c : Cur Hb0 H0 G σ H) (h : G[n]? = some (.own ds)) (hy : Y R0 te (G.set n (.p (D (.list ds)))) (D d)) (hd : NoL d = true) (hl : ds.length < 10000000) (k : ∀ σ' H', Cur Hb0 H0 (G.set n (.own (ds ++ [d]))) σ' H' → De.nx σ' H') :
    tDrop (tBM K "list" rAppend (tVar n) (tCons te tNil)) De σ H := by
  obtain ⟨Hb, g, E⟩ := c
  obtain ⟨l, vs, e1, e2, e3, e4, e5⟩ := E.ent _ _ h
  have sm : Same Hb (upd Hb l (.lst vs)) := same_upd e3
  have E' := E.freeze (P := D (.list ds)) h rfl e1 e2 (mono_D _) ⟨l, vs, rfl, upd_same, DvAll.mono sm _ _ e5⟩
  have g' := g.freeze e3 e4 e2
  refine ⟨_, e1, .inl ⟨rfl, _, .inl (.inl e2)⟩, hy H0 _ H σ E' trivial g'.in_ _ fun v Hb2 H2 g2 p => ?_⟩
  have hl2 : Hb2 l = some (.lst vs) := g2.fz _ _ upd_same
  have fz3 : Same Hb (delH Hb2 l) := fun a o q => by
    rw [delH_ne (fun z => by subst z; rw [e3] at q; cases q)]
    exact g2.fz _ _ (sm _ _ q)
  have g3 : Grow Hb H (delH Hb2 l) H2 := ⟨fz3, g2.al, fun a o q => by
    by_cases z : a = l
    · subst z; rw [delH_at] at q; cases q
    · rw [delH_ne z] at q; exact g2.in_ _ _ q, fun a q1 q2 => by
    by_cases z : a = l
    · subst z; exact absurd delH_at q2
    · rw [delH_ne z] at q2
      exact g2.nw a (by rw [upd_ne z]; exact q1) q2⟩
  have E3 := E.grow g3
  obtain ⟨l', vs', z1, z2, z3, z4, z5⟩ := E3.ent _ _ h
  rw [e1] at z1
  cases z1
  rw [g2.al _ _ e2] at z2
  cases z2
  refine ⟨l, vs, v, rfl, rfl, g2.al _ _ e2, by rw [e5.length]; exact Nat.lt_of_lt_of_le hl (by decide), ?_⟩
  exact k _ _ ⟨_, (g.trans g3).mut z3 e4, E3.change h rfl e1 rfl ⟨l, _, rfl, upd_same, z3, e4, z5.app (.one (Dv.thaw hl2 d v hd p))⟩⟩
end
/-! ### the law's works -/
def lawNew (pre : List Rw) (cell : Int) (k : Nat) (later : Int) : Rw := if cell % 5 < 2 then .mesh (lawSize (cell / 2048)) ((k : Int) + 1 + cell / 5 % later).toNat (lawOver pre (cell / 64) later) else if cell % 5 < 4 then .crush ((k : Int) + 1 + cell / 5 % later).toNat else .bin (cell / 5 % 6)
/-- one less than how many rows -/
def lawM (ns : List Int) : Nat := (1 + cellAt ns 0 / 8 % 7).toNat
def lawPre (ns : List Int) : Nat → List Rw
  | 0 => []
  | k + 1 => lawPre ns k ++ [lawNew (lawPre ns k) (cellAt ns (1 + k)) k ((lawM ns : Int) - (k : Int))]
def lawRows (ns : List Int) : List Rw := lawPre ns (lawM ns) ++ [.bin (cellAt ns (lawM ns + 1) % 6)]
theorem lawPre_len (ns : List Int) : ∀ k, (lawPre ns k).length = k
  | 0 => rfl
  | k + 1 => by unfold lawPre; rw [List.length_append, lawPre_len ns k]; rfl
theorem lawM_le (ns : List Int) : 1 ≤ lawM ns ∧ lawM ns ≤ 7 ∧ (lawM ns : Int) = 1 + cellAt ns 0 / 8 % 7 := by
  unfold lawM
  omega
def lawGN (ns : List Int) : Nat := (1 + cellAt ns 0 / 8 % 8).toNat
def lawFree (ns : List Int) : List Rw := (List.range (lawGN ns)).map fun k => lawRow (cellAt ns (1 + k)) (lawGN ns)
def lawGood (ns : List Int) : List Rw := if lawStuck (lawFree ns) then lawRows ns else lawFree ns
theorem lawGN_le (ns : List Int) : 1 ≤ lawGN ns ∧ lawGN ns ≤ 8 ∧ (lawGN ns : Int) = 1 + cellAt ns 0 / 8 % 8 := by
  unfold lawGN
  omega
theorem lawFree_ok (ns : List Int) : RowsOk (lawFree ns) ∧ (lawFree ns).length = lawGN ns := by
  have hl : (lawFree ns).length = lawGN ns := by unfold lawFree; rw [List.length_map, List.length_range]
  refine ⟨fun row hr => ?_, hl⟩
  rw [hl]
  obtain ⟨h1, h2, _⟩ := lawGN_le ns
  unfold lawFree at hr
  obtain ⟨k, _, rfl⟩ := List.mem_map.mp hr
  generalize cellAt ns (1 + k) = cell
  have a1 := Int.emod_nonneg (cell / 8) (show (lawGN ns : Int) ≠ 0 by omega)
  have a2 := Int.emod_lt_of_pos (cell / 8) (show 0 < (lawGN ns : Int) by omega)
  have b1 := Int.emod_nonneg (cell / 8 / lawGN ns) (show (lawGN ns : Int) ≠ 0 by omega)
  have b2 := Int.emod_lt_of_pos (cell / 8 / lawGN ns) (show 0 < (lawGN ns : Int) by omega)
  unfold lawRow
  split
  · have := lawSize_ok (cell / 8 / lawGN ns / lawGN ns)
    exact ⟨this.1, this.2, by omega, by omega⟩
  · split
    · show _ < _; omega
    · show 0 ≤ _ ∧ _ ≤ 5; omega
section
variable {P : Program} {w : World} {K : PySem.W.Frag} {mg : Str → Option Value} {base : Heap}
theorem ofNatAdd (k : Nat) : (1 : Int) + (k : Int) = ((1 + k : Nat) : Int) := by omega
theorem y_cell {R : Res} {G : Ctx} {ta tb : TE} {ns : List Int} {k : Nat} (ha : Y R ta G (Sc K ns)) (hb : Y R tb G (D (.int k))) : Y R (tCall (sp__law_cell_at K) [] E0 (tCons ta (tCons tb tNil))) G (D (.int (cellAt ns k))) := y_call (As := [Sc K ns, D (.int k)]) (ya_cons ha mono_Sc (ya_cons hb (mono_D _) ya_nil)) fun vs H Q h => ⟨ns, k, h⟩
theorem y_size {R : Res} {G : Ctx} {ta : TE} {c : Int} (ha : Y R ta G (D (.int c))) : Y R (tCall sp__law_size [] E0 (tCons ta tNil)) G (D (.int (lawSize c))) := y_call (As := [D (.int c)]) (ya_cons ha (mono_D _) ya_nil) fun vs H Q h => ⟨c, h⟩
def sp__law_rows (K : PySem.W.Frag) : Sp := fun vs H Q E => ∃ (ns : List Int), spP [Sc K ns] (D (rowsD (lawRows ns))) vs H Q E
theorem ok__law_rows (T : Tx K mg) : Cal P w K mg base 2 "_law_rows" ["script"] (sp__law_rows K) := by
  have C__law_cell_at := ok__law_cell_at (P := P) (w := w) (base := base) T
  have C__law_over := ok__law_over (P := P) (w := w) (base := base) T
  have C__law_size := ok__law_size (P := P) (w := w) (base := base) T
  obtain ⟨fd, F⟩ := T.c.def_ 27 (d := d__law_rows) rfl
  refine ⟨_, fd, T.g__law_rows, F.kp, FunD.bindsN (ps := ["script"]) F fun _ _ _ _ _ _ us hl => match us, hl with | [_], _ => rfl, def_ok F sc__law_rows ?_ fun cdv A outer s H vs Q E hr h => ?_⟩
  · intro vs H Q E h
    obtain ⟨_, h⟩ := h
    exact h.len
  · obtain ⟨ns, Hb, sm, ha, k⟩ := h
    have c := start_cur (N := N__law_rows) (k := 6) sm ha (by repeat' (first | exact trivial | exact mono_D _ | exact mono_Ws | exact mono_Sc | refine ⟨?_, ?_⟩)) rfl
    refine ⟨_, (pss_cons (ps_set (i := 1) sc__law_rows.nd rfl (Or.inl rfl) (pe_op op_add pe_int (pe_op op_mod (pe_op op_fdiv (pe_cal C__law_cell_at (hr.mono (by decide)) (by rfl) (pa_cons (pv 0) (pa_cons pe_int pa_nil))) pe_int) pe_int)))
  (pss_cons (ps_set (i := 2) sc__law_rows.nd rfl (Or.inl rfl) (pe_lst pa_nil))
  (pss_cons (ps_for PassesOwn.never rfl (pi_range1 (by rfl) T.range (pa_cons (pe_op op_sub (pv 1) pe_int) pa_nil)) (pg_name (i := 3) sc__law_rows.nd rfl (Or.inl rfl))
    (pss_cons (ps_set (i := 4) sc__law_rows.nd rfl (Or.inl rfl) (pe_cal C__law_cell_at (hr.mono (by decide)) (by rfl) (pa_cons (pv 0) (pa_cons (pe_op op_add pe_int (pv 3)) pa_nil))))
  (pss_cons (ps_set (i := 5) sc__law_rows.nd rfl (Or.inl rfl) (pe_op op_sub (pe_op op_sub (pv 1) pe_int) (pv 3)))
  (pss_cons (ps_set (i := 6) sc__law_rows.nd rfl (Or.inl rfl) (pe_op op_add (pe_op op_add (pv 3) pe_int) (pe_op op_mod (pe_op op_fdiv (pv 4) pe_int) (pv 5))))
  (pss_one (ps_if (pt_cmpR op_lt (pe_op op_mod (pv 4) pe_int) pe_int (nomark _))
    (pss_one (ps_expr (pe_bmK (K := K) rfl PySem.F.plainAttrs_list PySem.F.slot_list_append PySem.F.type_list_append mt_append (pv 2) (pa_cons (pe_tup (pa_cons pe_str (pa_cons (pe_cal C__law_size (hr.mono (by decide)) (by rfl) (pa_cons (pe_op op_fdiv (pv 4) pe_int) pa_nil)) (pa_cons (pv 6) (pa_cons (pe_cal C__law_over (hr.mono (by decide)) (by rfl) (pa_cons (pv 2) (pa_cons (pe_op op_fdiv (pv 4) pe_int) (pa_cons (pv 5) pa_nil)))) pa_nil))))) pa_nil))))
    (pss_one (ps_if (pt_cmpR op_lt (pe_op op_mod (pv 4) pe_int) pe_int (nomark _))
    (pss_one (ps_expr (pe_bmK (K := K) rfl PySem.F.plainAttrs_list PySem.F.slot_list_append PySem.F.type_list_append mt_append (pv 2) (pa_cons (pe_tup (pa_cons pe_str (pa_cons (pv 6) pa_nil))) pa_nil))))
    (pss_one (ps_expr (pe_bmK (K := K) rfl PySem.F.plainAttrs_list PySem.F.slot_list_append PySem.F.type_list_append mt_append (pv 2) (pa_cons (pe_tup (pa_cons pe_str (pa_cons (pe_op op_mod (pe_op op_fdiv (pv 4) pe_int) pe_int) pa_nil))) pa_nil))))))))))))
  (pss_one (ps_ret (pe_op op_cat (pv 2) (pe_lst (pa_cons (pe_tup (pa_cons pe_str (pa_cons (pe_op op_mod (pe_cal C__law_cell_at (hr.mono (by decide)) (by rfl) (pa_cons (pv 0) (pa_cons (pv 1) pa_nil))) pe_int) pa_nil))) pa_nil)))))))), ?_⟩
    obtain ⟨m1, m2, m3⟩ := lawM_le ns
    refine q_asgD c (d := .int ((lawM ns : Int) + 1)) (y_is (y_I0 y_int (y_IC (y_IC (y_cell (k := 0) (y_var rfl) y_int) y_int ⟨by decide, by decide⟩) y_int (by decide))) (by congr 1; omega)) fun σ1 H1 c1 => ?_
    refine q_new c1 fun σ2 H2 c2 => ?_
    refine q_forR (n := lawM ns) c2 (y_is (y_I0 (y_var rfl) y_int) (by congr 1; omega)) (by omega) (fun k => [.p (Sc K ns), .p (D (.int ((lawM ns : Int) + 1))), .own ((lawPre ns k).map rowD), .no, .no, .no, .no]) (fun H1 c => c) (fun i hi σ3 H3 c3 => ?_) (fun σ3 H3 c3 => ?_)
    · have hl := lawPre_len ns i
      generalize hcell : cellAt ns (1 + i) = cell
      have q1 := Int.emod_nonneg (cell / 5) (show (lawM ns : Int) - i ≠ 0 by omega)
      refine q_asgD c3 (d := .int cell) (y_is (y_cell (k := 1 + i) (y_var rfl) (y_is (y_I0 y_int (y_var rfl)) (by congr 1))) (by rw [hcell])) fun σ4 H4 c4 => ?_
      refine q_asgD c4 (d := .int ((lawM ns : Int) - i)) (y_is (y_I0 (y_I0 (y_var rfl) y_int) (y_var rfl)) (by congr 1; omega)) fun σ5 H5 c5 => ?_
      refine q_asgD c5 (d := .int ((i : Int) + 1 + cell / 5 % ((lawM ns : Int) - i))) (y_I0 (y_I0 (y_var rfl) y_int) (y_IC (y_IC (y_var rfl) y_int ⟨by decide, by decide⟩) (y_var rfl) (by omega))) fun σ6 H6 c6 => ?_
      have en : (lawPre ns (i + 1)).map rowD = (lawPre ns i).map rowD ++ [rowD (lawNew (lawPre ns i) cell i ((lawM ns : Int) - i))] := by
        show (lawPre ns i ++ [lawNew (lawPre ns i) (cellAt ns (1 + i)) i ((lawM ns : Int) - (i : Int))]).map rowD = _
        rw [List.map_append, hcell]; rfl
      rw [en]
      by_cases h2 : cell % 5 < 2
      · refine z_yes1 c6 (yt_is (by (repeat' (first | with_reducible exact y_int | with_reducible exact y_str | (with_reducible show Y _ (tVar _) _ _; exact y_var rfl) | (with_reducible refine' y_eq _ _ _) | (with_reducible refine' y_ixT _ _ _) | with_reducible refine' y_ixL _ _ _ | with_reducible exact ya_nilD | with_reducible exact y_bl | with_reducible exact y_non | with_reducible exact yo_none | with_reducible exact yt_yes | with_reducible refine' yt_test _ | with_reducible refine' yt_B _ | with_reducible refine' yt_not _ | with_reducible refine' yt_and _ (fun _ => _) | with_reducible refine' yt_or _ (fun _ => _) | with_reducible refine' y_I0 _ _ | with_reducible refine' y_B0 _ _ | with_reducible refine' y_IC _ _ _ | with_reducible refine' y_parts (by assumption) _ | with_reducible refine' y_rows (by assumption) _ | with_reducible refine' ya_consD _ _ | with_reducible refine' y_tup _ (by simp) | with_reducible refine' y_lst _ (by simp) | (with_reducible show Y _ (tCB (rLen _) _) _ _; first | exact y_lenOwn rfl | exact y_lenSc (y_var rfl)) | with_reducible refine' y_len _ _ | with_reducible refine' y_ne _ _ _ | with_reducible refine' y_chain _ _ _ | with_reducible refine' y_andV _ (fun _ => _) | with_reducible refine' y_orV _ (fun _ => _) | with_reducible refine' y_isN _ | with_reducible refine' y_notN _ | exact rfl | (show _ = _; assumption) | exact atI_nat (by assumption) | (show CPow _ _; exact ⟨by decide, by decide, by decide⟩) | (show (0 : Int) < _; first | decide | omega) | (show CDiv _ _; exact ⟨by first | decide | omega, by first | decide | omega⟩) | (show CMul _ _; first | exact .inl ⟨by omega, by omega⟩ | exact .inr ⟨by omega, by omega⟩) ))) (decide_eq_true h2)) fun H7 c7 => ?_
        refine z_appF c7 (d := rowD (lawNew (lawPre ns i) cell i ((lawM ns : Int) - i))) rfl (y_is (y_tup (ya_consD y_str (ya_consD (y_size (by (repeat' (first | with_reducible exact y_int | with_reducible exact y_str | (with_reducible show Y _ (tVar _) _ _; exact y_var rfl) | (with_reducible refine' y_eq _ _ _) | (with_reducible refine' y_ixT _ _ _) | with_reducible refine' y_ixL _ _ _ | with_reducible exact ya_nilD | with_reducible exact y_bl | with_reducible exact y_non | with_reducible exact yo_none | with_reducible exact yt_yes | with_reducible refine' yt_test _ | with_reducible refine' yt_B _ | with_reducible refine' yt_not _ | with_reducible refine' yt_and _ (fun _ => _) | with_reducible refine' yt_or _ (fun _ => _) | with_reducible refine' y_I0 _ _ | with_reducible refine' y_B0 _ _ | with_reducible refine' y_IC _ _ _ | with_reducible refine' y_parts (by assumption) _ | with_reducible refine' y_rows (by assumption) _ | with_reducible refine' ya_consD _ _ | with_reducible refine' y_tup _ (by simp) | with_reducible refine' y_lst _ (by simp) | (with_reducible show Y _ (tCB (rLen _) _) _ _; first | exact y_lenOwn rfl | exact y_lenSc (y_var rfl)) | with_reducible refine' y_len _ _ | with_reducible refine' y_ne _ _ _ | with_reducible refine' y_chain _ _ _ | with_reducible refine' y_andV _ (fun _ => _) | with_reducible refine' y_orV _ (fun _ => _) | with_reducible refine' y_isN _ | with_reducible refine' y_notN _ | exact rfl | (show _ = _; assumption) | exact atI_nat (by assumption) | (show CPow _ _; exact ⟨by decide, by decide, by decide⟩) | (show (0 : Int) < _; first | decide | omega) | (show CDiv _ _; exact ⟨by first | decide | omega, by first | decide | omega⟩) | (show CMul _ _; first | exact .inl ⟨by omega, by omega⟩ | exact .inr ⟨by omega, by omega⟩) )))) (ya_consD (y_var rfl) (ya_consD (y_call (As := [D (rowsD (lawPre ns i)), D (.int (cell / 64)), D (.int ((lawM ns : Int) - i))]) (ya_cons (y_var rfl) (mono_D _) (ya_cons (by (repeat' (first | with_reducible exact y_int | with_reducible exact y_str | (with_reducible show Y _ (tVar _) _ _; exact y_var rfl) | (with_reducible refine' y_eq _ _ _) | (with_reducible refine' y_ixT _ _ _) | with_reducible refine' y_ixL _ _ _ | with_reducible exact ya_nilD | with_reducible exact y_bl | with_reducible exact y_non | with_reducible exact yo_none | with_reducible exact yt_yes | with_reducible refine' yt_test _ | with_reducible refine' yt_B _ | with_reducible refine' yt_not _ | with_reducible refine' yt_and _ (fun _ => _) | with_reducible refine' yt_or _ (fun _ => _) | with_reducible refine' y_I0 _ _ | with_reducible refine' y_B0 _ _ | with_reducible refine' y_IC _ _ _ | with_reducible refine' y_parts (by assumption) _ | with_reducible refine' y_rows (by assumption) _ | with_reducible refine' ya_consD _ _ | with_reducible refine' y_tup _ (by simp) | with_reducible refine' y_lst _ (by simp) | (with_reducible show Y _ (tCB (rLen _) _) _ _; first | exact y_lenOwn rfl | exact y_lenSc (y_var rfl)) | with_reducible refine' y_len _ _ | with_reducible refine' y_ne _ _ _ | with_reducible refine' y_chain _ _ _ | with_reducible refine' y_andV _ (fun _ => _) | with_reducible refine' y_orV _ (fun _ => _) | with_reducible refine' y_isN _ | with_reducible refine' y_notN _ | exact rfl | (show _ = _; assumption) | exact atI_nat (by assumption) | (show CPow _ _; exact ⟨by decide, by decide, by decide⟩) | (show (0 : Int) < _; first | decide | omega) | (show CDiv _ _; exact ⟨by first | decide | omega, by first | decide | omega⟩) | (show CMul _ _; first | exact .inl ⟨by omega, by omega⟩ | exact .inr ⟨by omega, by omega⟩) ))) (mono_D _) (ya_cons (y_var rfl) (mono_D _) ya_nil))) fun vs H Q h => ⟨lawPre ns i, cell / 64, (lawM ns : Int) - i, ⟨by omega, by omega⟩, h⟩) ya_nilD)))) (by simp)) ?_) (by unfold lawNew; rw [if_pos h2]; rfl) (by rw [List.length_map]; omega) fun σ8 H8 c8 => ?_
        · unfold lawNew
          rw [if_pos h2]
          simp only [rowD, Int.toNat_of_nonneg (show 0 ≤ (i : Int) + 1 + cell / 5 % ((lawM ns : Int) - i) by omega)]
        · exact (((c8.forget 3).forget 4).forget 5).forget 6
      · refine z_else1 c6 (yt_is (by (repeat' (first | with_reducible exact y_int | with_reducible exact y_str | (with_reducible show Y _ (tVar _) _ _; exact y_var rfl) | (with_reducible refine' y_eq _ _ _) | (with_reducible refine' y_ixT _ _ _) | with_reducible refine' y_ixL _ _ _ | with_reducible exact ya_nilD | with_reducible exact y_bl | with_reducible exact y_non | with_reducible exact yo_none | with_reducible exact yt_yes | with_reducible refine' yt_test _ | with_reducible refine' yt_B _ | with_reducible refine' yt_not _ | with_reducible refine' yt_and _ (fun _ => _) | with_reducible refine' yt_or _ (fun _ => _) | with_reducible refine' y_I0 _ _ | with_reducible refine' y_B0 _ _ | with_reducible refine' y_IC _ _ _ | with_reducible refine' y_parts (by assumption) _ | with_reducible refine' y_rows (by assumption) _ | with_reducible refine' ya_consD _ _ | with_reducible refine' y_tup _ (by simp) | with_reducible refine' y_lst _ (by simp) | (with_reducible show Y _ (tCB (rLen _) _) _ _; first | exact y_lenOwn rfl | exact y_lenSc (y_var rfl)) | with_reducible refine' y_len _ _ | with_reducible refine' y_ne _ _ _ | with_reducible refine' y_chain _ _ _ | with_reducible refine' y_andV _ (fun _ => _) | with_reducible refine' y_orV _ (fun _ => _) | with_reducible refine' y_isN _ | with_reducible refine' y_notN _ | exact rfl | (show _ = _; assumption) | exact atI_nat (by assumption) | (show CPow _ _; exact ⟨by decide, by decide, by decide⟩) | (show (0 : Int) < _; first | decide | omega) | (show CDiv _ _; exact ⟨by first | decide | omega, by first | decide | omega⟩) | (show CMul _ _; first | exact .inl ⟨by omega, by omega⟩ | exact .inr ⟨by omega, by omega⟩) ))) (decide_eq_false h2)) fun H7 c7 => ?_
        by_cases h4 : cell % 5 < 4
        · refine z_yes1 c7 (yt_is (by (repeat' (first | with_reducible exact y_int | with_reducible exact y_str | (with_reducible show Y _ (tVar _) _ _; exact y_var rfl) | (with_reducible refine' y_eq _ _ _) | (with_reducible refine' y_ixT _ _ _) | with_reducible refine' y_ixL _ _ _ | with_reducible exact ya_nilD | with_reducible exact y_bl | with_reducible exact y_non | with_reducible exact yo_none | with_reducible exact yt_yes | with_reducible refine' yt_test _ | with_reducible refine' yt_B _ | with_reducible refine' yt_not _ | with_reducible refine' yt_and _ (fun _ => _) | with_reducible refine' yt_or _ (fun _ => _) | with_reducible refine' y_I0 _ _ | with_reducible refine' y_B0 _ _ | with_reducible refine' y_IC _ _ _ | with_reducible refine' y_parts (by assumption) _ | with_reducible refine' y_rows (by assumption) _ | with_reducible refine' ya_consD _ _ | with_reducible refine' y_tup _ (by simp) | with_reducible refine' y_lst _ (by simp) | (with_reducible show Y _ (tCB (rLen _) _) _ _; first | exact y_lenOwn rfl | exact y_lenSc (y_var rfl)) | with_reducible refine' y_len _ _ | with_reducible refine' y_ne _ _ _ | with_reducible refine' y_chain _ _ _ | with_reducible refine' y_andV _ (fun _ => _) | with_reducible refine' y_orV _ (fun _ => _) | with_reducible refine' y_isN _ | with_reducible refine' y_notN _ | exact rfl | (show _ = _; assumption) | exact atI_nat (by assumption) | (show CPow _ _; exact ⟨by decide, by decide, by decide⟩) | (show (0 : Int) < _; first | decide | omega) | (show CDiv _ _; exact ⟨by first | decide | omega, by first | decide | omega⟩) | (show CMul _ _; first | exact .inl ⟨by omega, by omega⟩ | exact .inr ⟨by omega, by omega⟩) ))) (decide_eq_true h4)) fun H8 c8 => ?_
          refine z_app c8 (d := rowD (lawNew (lawPre ns i) cell i ((lawM ns : Int) - i))) rfl (y_is (y_tup (ya_consD y_str (ya_consD (y_var rfl) ya_nilD)) (by simp)) ?_) (by rw [List.length_map]; omega) fun σ8 H8 c8 => ?_
          · unfold lawNew
            rw [if_neg h2, if_pos h4]
            simp only [rowD, Int.toNat_of_nonneg (show 0 ≤ (i : Int) + 1 + cell / 5 % ((lawM ns : Int) - i) by omega)]
          · exact (((c8.forget 3).forget 4).forget 5).forget 6
        · refine z_else1 c7 (yt_is (by (repeat' (first | with_reducible exact y_int | with_reducible exact y_str | (with_reducible show Y _ (tVar _) _ _; exact y_var rfl) | (with_reducible refine' y_eq _ _ _) | (with_reducible refine' y_ixT _ _ _) | with_reducible refine' y_ixL _ _ _ | with_reducible exact ya_nilD | with_reducible exact y_bl | with_reducible exact y_non | with_reducible exact yo_none | with_reducible exact yt_yes | with_reducible refine' yt_test _ | with_reducible refine' yt_B _ | with_reducible refine' yt_not _ | with_reducible refine' yt_and _ (fun _ => _) | with_reducible refine' yt_or _ (fun _ => _) | with_reducible refine' y_I0 _ _ | with_reducible refine' y_B0 _ _ | with_reducible refine' y_IC _ _ _ | with_reducible refine' y_parts (by assumption) _ | with_reducible refine' y_rows (by assumption) _ | with_reducible refine' ya_consD _ _ | with_reducible refine' y_tup _ (by simp) | with_reducible refine' y_lst _ (by simp) | (with_reducible show Y _ (tCB (rLen _) _) _ _; first | exact y_lenOwn rfl | exact y_lenSc (y_var rfl)) | with_reducible refine' y_len _ _ | with_reducible refine' y_ne _ _ _ | with_reducible refine' y_chain _ _ _ | with_reducible refine' y_andV _ (fun _ => _) | with_reducible refine' y_orV _ (fun _ => _) | with_reducible refine' y_isN _ | with_reducible refine' y_notN _ | exact rfl | (show _ = _; assumption) | exact atI_nat (by assumption) | (show CPow _ _; exact ⟨by decide, by decide, by decide⟩) | (show (0 : Int) < _; first | decide | omega) | (show CDiv _ _; exact ⟨by first | decide | omega, by first | decide | omega⟩) | (show CMul _ _; first | exact .inl ⟨by omega, by omega⟩ | exact .inr ⟨by omega, by omega⟩) ))) (decide_eq_false h4)) fun H8 c8 => ?_
          refine z_app c8 (d := rowD (lawNew (lawPre ns i) cell i ((lawM ns : Int) - i))) rfl (y_is (y_tup (ya_consD y_str (ya_consD (by (repeat' (first | with_reducible exact y_int | with_reducible exact y_str | (with_reducible show Y _ (tVar _) _ _; exact y_var rfl) | (with_reducible refine' y_eq _ _ _) | (with_reducible refine' y_ixT _ _ _) | with_reducible refine' y_ixL _ _ _ | with_reducible exact ya_nilD | with_reducible exact y_bl | with_reducible exact y_non | with_reducible exact yo_none | with_reducible exact yt_yes | with_reducible refine' yt_test _ | with_reducible refine' yt_B _ | with_reducible refine' yt_not _ | with_reducible refine' yt_and _ (fun _ => _) | with_reducible refine' yt_or _ (fun _ => _) | with_reducible refine' y_I0 _ _ | with_reducible refine' y_B0 _ _ | with_reducible refine' y_IC _ _ _ | with_reducible refine' y_parts (by assumption) _ | with_reducible refine' y_rows (by assumption) _ | with_reducible refine' ya_consD _ _ | with_reducible refine' y_tup _ (by simp) | with_reducible refine' y_lst _ (by simp) | (with_reducible show Y _ (tCB (rLen _) _) _ _; first | exact y_lenOwn rfl | exact y_lenSc (y_var rfl)) | with_reducible refine' y_len _ _ | with_reducible refine' y_ne _ _ _ | with_reducible refine' y_chain _ _ _ | with_reducible refine' y_andV _ (fun _ => _) | with_reducible refine' y_orV _ (fun _ => _) | with_reducible refine' y_isN _ | with_reducible refine' y_notN _ | exact rfl | (show _ = _; assumption) | exact atI_nat (by assumption) | (show CPow _ _; exact ⟨by decide, by decide, by decide⟩) | (show (0 : Int) < _; first | decide | omega) | (show CDiv _ _; exact ⟨by first | decide | omega, by first | decide | omega⟩) | (show CMul _ _; first | exact .inl ⟨by omega, by omega⟩ | exact .inr ⟨by omega, by omega⟩) ))) ya_nilD)) (by simp)) ?_) (by rw [List.length_map]; omega) fun σ8 H8 c8 => ?_
          · unfold lawNew
            rw [if_neg h2, if_neg h4]
          · exact (((c8.forget 3).forget 4).forget 5).forget 6
    · have hl := lawPre_len ns (lawM ns)
      refine z_ret c3 (y_is (y_catOwn (es := [rowD (.bin (cellAt ns (lawM ns + 1) % 6))]) rfl (y_lst (ya_consD (y_tup (ya_consD y_str (ya_consD (y_IC (y_is (y_cell (k := lawM ns + 1) (y_var rfl) (y_is (y_var rfl) (by congr 1))) rfl) y_int (by decide)) ya_nilD)) (by simp)) ya_nilD) (by simp)) (by rw [List.length_map]; simp; omega)) ?_) k
      unfold lawRows
      rw [rowsD, List.map_append]; rfl
def sp__law_good_rows (K : PySem.W.Frag) : Sp := fun vs H Q E => ∃ (ns : List Int), spP [Sc K ns] (D (rowsD (lawGood ns))) vs H Q E
theorem ok__law_good_rows (T : Tx K mg) : Cal P w K mg base 4 "_law_good_rows" ["script"] (sp__law_good_rows K) := by
  have C__law_cell_at := ok__law_cell_at (P := P) (w := w) (base := base) T
  have C__law_row := ok__law_row (P := P) (w := w) (base := base) T
  have C__law_rows := ok__law_rows (P := P) (w := w) (base := base) T
  have C__law_stuck := ok__law_stuck (P := P) (w := w) (base := base) T
  obtain ⟨fd, F⟩ := T.c.def_ 32 (d := d__law_good_rows) rfl
  refine ⟨_, fd, T.g__law_good_rows, F.kp, FunD.bindsN (ps := ["script"]) F fun _ _ _ _ _ _ us hl => match us, hl with | [_], _ => rfl, def_ok F sc__law_good_rows ?_ fun cdv A outer s H vs Q E hr h => ?_⟩
  · intro vs H Q E h
    obtain ⟨_, h⟩ := h
    exact h.len
  · obtain ⟨ns, Hb, sm, ha, k⟩ := h
    have c := start_cur (N := N__law_good_rows) (k := 3) sm ha (by repeat' (first | exact trivial | exact mono_D _ | exact mono_Ws | exact mono_Sc | refine ⟨?_, ?_⟩)) rfl
    refine ⟨_, (pss_cons (ps_set (i := 1) sc__law_good_rows.nd rfl (Or.inr rfl) (pe_op op_add pe_int (pe_op op_mod (pe_op op_fdiv (pe_cal C__law_cell_at (hr.mono (by decide)) (by rfl) (pa_cons (pv 0) (pa_cons pe_int pa_nil))) pe_int) pe_int)))
  (pss_cons (ps_setLc (i := 2) (own := [("k", 3)]) (g := (gName 3)) rfl sc__law_good_rows.nd rfl rfl (sw_true rfl rfl rfl (by decide +kernel)) (pi_range1 (by rfl) T.range (pa_cons (pv 1) pa_nil)) (blkOk_by (own := [("k", 3)]) (N := N__law_good_rows) (sc := defScope s__law_good_rows) (by decide +kernel)) (fun _ _ _ _ _ => (pg_name (i := 3) sc__law_good_rows.nd rfl (Or.inl rfl))) (fun _ _ _ _ _ => pts_nil) (fun _ _ _ _ _ => (pe_cal C__law_row (hr.mono (by decide)) (by rfl) (pa_cons (pe_cal C__law_cell_at (hr.mono (by decide)) (by rfl) (pa_cons (pv 0) (pa_cons (pe_op op_add pe_int (pv 3)) pa_nil))) (pa_cons (pv 1) pa_nil)))))
  (pss_cons (ps_if (pt_val (pe_cal C__law_stuck (hr.mono (by decide)) (by rfl) (pa_cons (pv 2) pa_nil)))
    (pss_one (ps_ret (pe_cal C__law_rows (hr.mono (by decide)) (by rfl) (pa_cons (pv 0) pa_nil))))
    pss_nil)
  (pss_one (ps_ret (pv 2)))))), ?_⟩
    obtain ⟨m1, m2, m3⟩ := lawGN_le ns
    obtain ⟨ok, hl⟩ := lawFree_ok ns
    refine q_asgD c (d := .int (lawGN ns : Nat)) (y_is (y_I0 y_int (y_IC (y_IC (y_cell (k := 0) (y_var rfl) y_int) y_int ⟨by decide, by decide⟩) y_int (by decide))) (by congr 1; omega)) fun σ1 H1 c1 => ?_
    refine q_asgD c1 (d := rowsD (lawFree ns)) (y_is (y_lcR (n := lawGN ns) (b := fun _ => true) (e := fun k => rowD (lawRow (cellAt ns (1 + k)) (lawGN ns))) (fun k => [.p (Sc K ns), .p (D (.int (lawGN ns : Nat))), .no, .p (D (.int (k : Nat)))]) (y_var rfl) (by omega) (fun x _ => yg_name) (fun x _ => yt_yes) (fun k _ _ => y_call (As := [D (.int (cellAt ns (1 + k))), D (.int (lawGN ns : Nat))]) (ya_cons (y_cell (k := 1 + k) (y_var rfl) (y_is (y_I0 y_int (y_var rfl)) (by congr 1))) (mono_D _) (ya_cons (y_var rfl) (mono_D _) ya_nil)) fun vs H Q h => ⟨_, _, ⟨by omega, by omega⟩, h⟩)) ?_) fun σ2 H2 c2 => ?_
    · rw [List.filter_eq_self.mpr (fun _ _ => rfl)]
      unfold lawFree
      rw [rowsD, List.map_map]; rfl
    · unfold lawGood at k
      refine z_when (b := lawStuck (lawFree ns)) c2 (yt_B (y_call (As := [D (rowsD (lawFree ns))]) (ya_cons (y_var rfl) (mono_D _) ya_nil) fun vs H Q h => ⟨_, ⟨ok, by omega⟩, h⟩)) (fun hb H3 c3 => ?_) (fun hb H3 c3 => ?_)
      · rw [if_pos hb] at k
        exact z_ret c3 (y_call (As := [Sc K ns]) (ya_cons (y_var rfl) mono_Sc ya_nil) fun vs H Q h => ⟨ns, h⟩) k
      · rw [if_neg (by rw [hb]; simp)] at k
        exact z_ret c3 (y_var rfl) k
end
end MW

/-! F6 -/
set_option Elab.async false
set_option linter.all false
set_option maxRecDepth 100000
set_option maxHeartbeats 400000
namespace MW
open PySem PySem.Spec L2

/-! ### sorted ints -/
def isort (ns : List Int) : List Int := ns.mergeSort fun a b => decide (a ≤ b)
theorem isort_perm (ns : List Int) : (isort ns).Perm ns := List.mergeSort_perm _ _
theorem isort_sorted (ns : List Int) : (isort ns).Pairwise (· ≤ ·) := by
  have h := List.pairwise_mergeSort (le := fun (a b : Int) => decide (a ≤ b)) (fun a b c h1 h2 => decide_eq_true (Int.le_trans (of_decide_eq_true h1) (of_decide_eq_true h2))) (fun a b => by
    rcases Int.le_total a b with h | h <;> simp [h]) ns
  exact h.imp fun h => of_decide_eq_true h
theorem sorted_unique {l m : List Int} (h : l.Perm m) (hl : l.Pairwise (· ≤ ·)) (hm : m.Pairwise (· ≤ ·)) : l = m :=
  List.Perm.eq_of_pairwise (le := (· ≤ ·)) (fun a b _ _ h1 h2 => Int.le_antisymm h1 h2) hl hm h
theorem isort_of {l ns : List Int} (h : l.Perm ns) (hl : l.Pairwise (· ≤ ·)) : l = isort ns := sorted_unique (h.trans (isort_perm ns).symm) hl (isort_sorted ns)
/-! ### rings -/
def Endsw (rows : List Rw) (s : Int) (r : Nat) : Prop := ∃ N, N ≤ 1000 ∧ itW rows s (some r) N = none
def NoRing (rows : List Rw) : Prop := ∀ s, 1 ≤ s → ∀ r, r < rows.length → Endsw rows s r
theorem itW_none {rows : List Rw} {s : Int} {o : Option Nat} {k : Nat} (h : itW rows s o k = none) : ∀ j, itW rows s o (k + j) = none
  | 0 => h
  | j + 1 => by
    show (itW rows s o (k + j)).bind _ = none
    rw [itW_none h j]; rfl
theorem itW_add {rows : List Rw} {s : Int} {o : Option Nat} (k : Nat) : ∀ j, itW rows s o (k + j) = itW rows s (itW rows s o k) j
  | 0 => rfl
  | j + 1 => by
    show (itW rows s o (k + j)).bind _ = (itW rows s _ j).bind _
    rw [itW_add k j]
/-- the first none -/
theorem first_none {rows : List Rw} {s : Int} {o : Option Nat} : ∀ N, itW rows s o N = none → ∃ k, k ≤ N ∧ itW rows s o k = none ∧ ∀ j, j < k → itW rows s o j ≠ none
  | 0, h => ⟨0, Nat.le_refl _, h, fun j hj => absurd hj (Nat.not_lt_zero j)⟩
  | N + 1, h => by
    by_cases q : itW rows s o N = none
    · obtain ⟨k, h1, h2, h3⟩ := first_none N q
      exact ⟨k, by omega, h2, h3⟩
    · refine ⟨N + 1, Nat.le_refl _, h, fun j hj => ?_⟩
      intro hj0
      have := itW_none hj0 (N - j)
      rw [show j + (N - j) = N by omega] at this
      exact q this
/-- ahead of the first none all rows are unlike -/
theorem itW_inj {rows : List Rw} {s : Int} {o : Option Nat} {k i j : Nat} (hk : itW rows s o k = none) (hn : ∀ j, j < k → itW rows s o j ≠ none) (hij : i < j) (hj : j < k) : itW rows s o i ≠ itW rows s o j := by
  intro e
  have h1 : itW rows s o (j + (k - j)) = none := by rw [show j + (k - j) = k by omega]; exact hk
  rw [itW_add, ← e, ← itW_add] at h1
  exact hn (i + (k - j)) (by omega) h1
section
variable {K : PySem.W.Frag} {Hb0 H0 H : Hp} {G : Ctx} {σ : L2.St} {De : Ends} {te ta tb : TE} {tc : TT} {tu tz : TS} {R : Res}
/-- a while of so many turns -/
theorem z_whileN (n : Nat) (I : Nat → Ctx) (c : Cur Hb0 H0 G σ H) (h0 : Cur Hb0 H0 (I 0) σ H) (ht : ∀ k, k < n → YT R0 tc (I k) true) (hf : YT R0 tc (I n) false)
    (hs : ∀ k, k < n → ∀ σ' H', Cur Hb0 H0 (I k) σ' H' → tu { De with nx := Cur Hb0 H0 (I (k + 1)), ct := Cur Hb0 H0 (I (k + 1)), bk := De.nx } σ' H') (hd : ∀ σ' H', Cur Hb0 H0 (I n) σ' H' → De.nx σ' H') : tWhile tc tu De σ H := by
  refine ⟨fun m σ' H' => ∃ k, k ≤ n ∧ m = n - k ∧ Cur Hb0 H0 (I k) σ' H', ⟨n, 0, Nat.zero_le _, rfl, h0⟩, ?_⟩
  rintro m σ' H' ⟨k, hk, rfl, ⟨Hb, g, E⟩⟩
  by_cases e : k = n
  · subst e
    exact hf H0 Hb H' σ' E trivial g.in_ _ fun Hb2 H2 g2 => hd _ _ ⟨Hb2, g.trans g2, E.grow g2⟩
  · have hlt : k < n := by omega
    refine ht k hlt H0 Hb H' σ' E trivial g.in_ _ fun Hb2 H2 g2 => ?_
    show if true = true then _ else _
    rw [if_pos rfl]
    exact ⟨Cur Hb0 H0 (I (k + 1)), fun σ2 H2 c2 => ⟨n - (k + 1), by omega, k + 1, hlt, rfl, c2⟩, hs k hlt _ _ ⟨Hb2, g.trans g2, E.grow g2⟩⟩
theorem q_whileN (n : Nat) (I : Nat → Ctx) (c : Cur Hb0 H0 G σ H) (h0 : Cur Hb0 H0 (I 0) σ H) (ht : ∀ k, k < n → YT R0 tc (I k) true) (hf : YT R0 tc (I n) false)
    (hs : ∀ k, k < n → ∀ σ' H', Cur Hb0 H0 (I k) σ' H' → tu { De with nx := Cur Hb0 H0 (I (k + 1)), ct := Cur Hb0 H0 (I (k + 1)), bk := tz De } σ' H') (hd : ∀ σ' H', Cur Hb0 H0 (I n) σ' H' → tz De σ' H') : tSeq (tWhile tc tu) tz De σ H :=
  z_whileN (De := { De with nx := tz De }) n I c h0 ht hf hs hd
/-- x not in ns, a list of one's own of ints -/
theorem y_notInOwn {n i : Nat} {k : Int} {ns : List Int} (h : G[n]? = some (.own (ns.map .int))) (ha : Y R ta G (D (.int k))) (hk : ¬ k ∈ ns) : Y R (tOp (rIn K true) ta (tVar n)) G (D (.bool true)) := fun H0 Hb H σ E rr s Q q =>
  ha H0 Hb H σ E rr s _ fun v Hb2 H2 g p => by
    obtain ⟨l, vs, e1, e2, e3, e4, e5⟩ := (E.grow g).ent _ _ h
    rw [DvAll.ints.mp e5] at e2
    obtain rfl : v = .int k := p
    refine ⟨_, e1, l, _, rfl, .inl (.inl (.inl e2)), rfl, ?_, ?_⟩
    · rw [List.all_eq_true]
      intro z hz
      obtain ⟨y, _, rfl⟩ := List.mem_map.mp hz
      rfl
    · have e : inV (.int k) (ns.map .int) = false := by
        unfold inV
        rw [List.any_eq_false]
        intro z hz
        obtain ⟨y, hy, rfl⟩ := List.mem_map.mp hz
        show ¬ (y == k) = true
        intro w
        exact hk (by rw [← eq_of_beq w]; exact hy)
      rw [e]
      exact q _ Hb2 H2 g rfl
end
def opens : List Rw → List Int
  | [] => []
  | .mesh c _ _ :: r => c :: opens r
  | _ :: r => opens r
def isMesh : Rw → Bool
  | .mesh _ _ _ => true
  | _ => false
def openD : Rw → PyData
  | .mesh c _ _ => .int c
  | _ => .none
theorem opens_eq : ∀ rows : List Rw, (rows.filter isMesh).map openD = (opens rows).map .int
  | [] => rfl
  | .mesh c u o :: r => by
    rw [List.filter_cons, show isMesh (.mesh c u o) = true from rfl, if_pos rfl, List.map_cons, opens_eq r]; rfl
  | .crush t :: r => by
    rw [List.filter_cons, if_neg (by simp [isMesh])]; exact opens_eq r
  | .bin b :: r => by
    rw [List.filter_cons, if_neg (by simp [isMesh])]; exact opens_eq r
theorem opens_len : ∀ rows : List Rw, (opens rows).length ≤ rows.length
  | [] => Nat.le_refl _
  | .mesh c u o :: r => Nat.succ_le_succ (opens_len r)
  | .crush t :: r => Nat.le_succ_of_le (opens_len r)
  | .bin b :: r => Nat.le_succ_of_le (opens_len r)
theorem opens_mem : ∀ {rows : List Rw} {c : Int}, c ∈ opens rows ↔ ∃ u o, Rw.mesh c u o ∈ rows
  | [], c => by simp [opens]
  | .mesh d u o :: r, c => by
    simp only [opens, List.mem_cons, opens_mem]
    constructor
    · rintro (rfl | ⟨u, o, h⟩)
      · exact ⟨u, o, .inl rfl⟩
      · exact ⟨u, o, .inr h⟩
    · rintro ⟨u', o', h | h⟩
      · cases h; exact .inl rfl
      · exact .inr ⟨u', o', h⟩
  | .crush t :: r, c => by
    simp only [opens, opens_mem, List.mem_cons]
    constructor
    · rintro ⟨u, o, h⟩; exact ⟨u, o, .inr h⟩
    · rintro ⟨u, o, h | h⟩
      · cases h
      · exact ⟨u, o, h⟩
  | .bin t :: r, c => by
    simp only [opens, opens_mem, List.mem_cons]
    constructor
    · rintro ⟨u, o, h⟩; exact ⟨u, o, .inr h⟩
    · rintro ⟨u, o, h | h⟩
      · cases h
      · exact ⟨u, o, h⟩
def lookSizes (rows : List Rw) : List Int := isort ([1] ++ opens rows ++ (opens rows).map (· + 1))
theorem look_pos {rows : List Rw} (ok : RowsOk rows) {s : Int} (h : s ∈ lookSizes rows) : 1 ≤ s := by
  have h2 := (isort_perm _).mem_iff.mp h
  simp only [List.mem_append, List.mem_cons, List.not_mem_nil, or_false, List.mem_map] at h2
  rcases h2 with (e | h2) | ⟨c, h2, e⟩
  · omega
  · obtain ⟨u, o, h3⟩ := opens_mem.mp h2
    exact (ok _ h3).1
  · obtain ⟨u, o, h3⟩ := opens_mem.mp h2
    have := (ok _ h3).1
    omega
theorem look_len (rows : List Rw) : (lookSizes rows).length ≤ 1 + 2 * rows.length := by
  have := opens_len rows
  unfold lookSizes
  rw [(isort_perm _).length_eq]
  simp only [List.length_append, List.length_map, List.length_cons, List.length_nil]
  omega
/-- the way so far -/
def wayR (rows : List Rw) (s : Int) (r : Nat) (k : Nat) : List Int := (List.range k).map fun j => (((itW rows s (some r) j).getD 0 : Nat) : Int)
section
variable {P : Program} {w : World} {K : PySem.W.Frag} {mg : Str → Option Value} {base : Heap}
def sp_ring_from (K : PySem.W.Frag) : Sp := fun vs H Q E => ∃ (p : Int) (rows : List Rw) (r : Nat) (s : Int), (2 ≤ p ∧ p ≤ 9 ∧ 1 ≤ s ∧ RowsOk rows ∧ r < rows.length ∧ Endsw rows s r) ∧ spP [Ws K p rows, D (.int r), D (.int s)] (D (.list [])) vs H Q E
theorem ok_ring_from (T : Tx K mg) : Cal P w K mg base 4 "ring_from" ["works", "row", "size"] (sp_ring_from K) := by
  have C_whole_to := ok_whole_to (P := P) (w := w) (base := base) T
  obtain ⟨fd, F⟩ := T.c.def_ 5 (d := d_ring_from) rfl
  refine ⟨_, fd, T.g_ring_from, F.kp, FunD.bindsN (ps := ["works", "row", "size"]) F fun _ _ _ _ _ _ us hl => match us, hl with | [_, _, _], _ => rfl, def_ok F sc_ring_from ?_ fun cdv A outer s H vs Q E hr h => ?_⟩
  · intro vs H Q E h
    obtain ⟨_, _, _, _, _, h⟩ := h
    exact h.len
  · obtain ⟨p, rows, r, s, ok, Hb, sm, ha, k⟩ := h
    have c := start_cur (N := N_ring_from) (k := 1) sm ha (by repeat' (first | exact trivial | exact mono_D _ | exact mono_Ws | exact mono_Sc | refine ⟨?_, ?_⟩)) rfl
    refine ⟨_, (pss_cons (ps_set (i := 3) sc_ring_from.nd rfl (Or.inl rfl) (pe_lst pa_nil))
  (pss_cons (ps_while PassesOwn.never ((pw_and (pt_cmpR op_notN_ (pv 1) pe_non (nomark _)) (pw_and1 (pt_cmpR (kNotIn (K := K) rfl) (pv 1) (pv 3) (by rfl))))).pt
    (pss_cons (ps_expr (pe_bmK (K := K) rfl PySem.F.plainAttrs_list PySem.F.slot_list_append PySem.F.type_list_append mt_append (pv 3) (pa_cons (pv 1) pa_nil)))
  (pss_one (ps_set (i := 1) sc_ring_from.nd rfl (Or.inl rfl) (pe_cal C_whole_to (hr.mono (by decide)) (by rfl) (pa_cons (pv 0) (pa_cons (pv 1) (pa_cons (pv 2) pa_nil))))))))
  (pss_cons (ps_if (pt_cmpR op_isN_ (pv 1) pe_non (nomark _))
    (pss_one (ps_ret (pe_lst pa_nil)))
    pss_nil)
  (pss_one (ps_ret (pe_slice (kSl (K := K) rfl) (pv 3) (po_some (pe_bmK (K := K) rfl PySem.F.plainAttrs_list PySem.F.slot_list_index PySem.F.type_list_index (kIndex (K := K) rfl) (pv 3) (pa_cons (pv 1) pa_nil))) po_none)))))), ?_⟩
    obtain ⟨p1, p2, s1, ok, hr0, N, hN1, hN⟩ := ok
    obtain ⟨n, n1, n2, n3⟩ := first_none N hN
    refine q_new c fun σ1 H1 c1 => ?_
    refine q_whileN n (fun k => [.p (Ws K p rows), .p (D (optD (itW rows s (some r) k))), .p (D (.int s)), .own ((wayR rows s r k).map .int)]) c1 c1 (fun k hk => ?_) ?_ (fun k hk σ2 H2 c2 => ?_) (fun σ2 H2 c2 => ?_)
    · cases q : itW rows s (some r) k with
      | none => exact absurd q (n3 k hk)
      | some x =>
        refine yt_is (yt_and (a := true) (b := true) (yt_is (by (repeat' (first | with_reducible exact y_int | with_reducible exact y_str | (with_reducible show Y _ (tVar _) _ _; exact y_var rfl) | (with_reducible refine' y_eq _ _ _) | (with_reducible refine' y_ixT _ _ _) | with_reducible refine' y_ixL _ _ _ | with_reducible exact ya_nilD | with_reducible exact y_bl | with_reducible exact y_non | with_reducible exact yo_none | with_reducible exact yt_yes | with_reducible refine' yt_test _ | with_reducible refine' yt_B _ | with_reducible refine' yt_not _ | with_reducible refine' yt_and _ (fun _ => _) | with_reducible refine' yt_or _ (fun _ => _) | with_reducible refine' y_I0 _ _ | with_reducible refine' y_B0 _ _ | with_reducible refine' y_IC _ _ _ | with_reducible refine' y_parts (by assumption) _ | with_reducible refine' y_rows (by assumption) _ | with_reducible refine' ya_consD _ _ | with_reducible refine' y_tup _ (by simp) | with_reducible refine' y_lst _ (by simp) | (with_reducible show Y _ (tCB (rLen _) _) _ _; first | exact y_lenOwn rfl | exact y_lenSc (y_var rfl)) | with_reducible refine' y_len _ _ | with_reducible refine' y_ne _ _ _ | with_reducible refine' y_chain _ _ _ | with_reducible refine' y_andV _ (fun _ => _) | with_reducible refine' y_orV _ (fun _ => _) | with_reducible refine' y_isN _ | with_reducible refine' y_notN _ | exact rfl | (show _ = _; assumption) | exact atI_nat (by assumption) | (show CPow _ _; exact ⟨by decide, by decide, by decide⟩) | (show (0 : Int) < _; first | decide | omega) | (show CDiv _ _; exact ⟨by first | decide | omega, by first | decide | omega⟩) | (show CMul _ _; first | exact .inl ⟨by omega, by omega⟩ | exact .inr ⟨by omega, by omega⟩) ))) (by (first | rfl | (simp; done) | (simp only [sx_mc, sx_mb, sx_cm, sx_cb, sx_bm, sx_bc, decide_true, decide_false, Bool.and_true, Bool.true_and, Bool.not_true, Bool.not_false, Bool.and_false, Bool.false_and, Bool.or_false, Bool.or_true, decide_eq_true_eq, Bool.and_eq_true, decide_eq_false_iff_not]; first | done | omega) | (simp [sx_mc, sx_mb, sx_cm, sx_cb, sx_bm, sx_bc]; first | done | omega) | omega))) fun _ => yt_test (y_notInOwn (i := 0) rfl (y_var rfl) ?_)) rfl
        intro hm
        obtain ⟨j, hj, e⟩ := List.mem_map.mp hm
        have hj := List.mem_range.mp hj
        cases qj : itW rows s (some r) j with
        | none => exact n3 j (by omega) qj
        | some y =>
          rw [qj] at e
          have e' : y = x := by
            have e2 : (y : Int) = (x : Int) := by simpa using e
            omega
          exact itW_inj n2 n3 hj hk (by rw [qj, q, e'])
    · simp only [n2]
      exact yt_andF (yt_is (by (repeat' (first | with_reducible exact y_int | with_reducible exact y_str | (with_reducible show Y _ (tVar _) _ _; exact y_var rfl) | (with_reducible refine' y_eq _ _ _) | (with_reducible refine' y_ixT _ _ _) | with_reducible refine' y_ixL _ _ _ | with_reducible exact ya_nilD | with_reducible exact y_bl | with_reducible exact y_non | with_reducible exact yo_none | with_reducible exact yt_yes | with_reducible refine' yt_test _ | with_reducible refine' yt_B _ | with_reducible refine' yt_not _ | with_reducible refine' yt_and _ (fun _ => _) | with_reducible refine' yt_or _ (fun _ => _) | with_reducible refine' y_I0 _ _ | with_reducible refine' y_B0 _ _ | with_reducible refine' y_IC _ _ _ | with_reducible refine' y_parts (by assumption) _ | with_reducible refine' y_rows (by assumption) _ | with_reducible refine' ya_consD _ _ | with_reducible refine' y_tup _ (by simp) | with_reducible refine' y_lst _ (by simp) | (with_reducible show Y _ (tCB (rLen _) _) _ _; first | exact y_lenOwn rfl | exact y_lenSc (y_var rfl)) | with_reducible refine' y_len _ _ | with_reducible refine' y_ne _ _ _ | with_reducible refine' y_chain _ _ _ | with_reducible refine' y_andV _ (fun _ => _) | with_reducible refine' y_orV _ (fun _ => _) | with_reducible refine' y_isN _ | with_reducible refine' y_notN _ | exact rfl | (show _ = _; assumption) | exact atI_nat (by assumption) | (show CPow _ _; exact ⟨by decide, by decide, by decide⟩) | (show (0 : Int) < _; first | decide | omega) | (show CDiv _ _; exact ⟨by first | decide | omega, by first | decide | omega⟩) | (show CMul _ _; first | exact .inl ⟨by omega, by omega⟩ | exact .inr ⟨by omega, by omega⟩) ))) (by (first | rfl | (simp; done) | (simp only [sx_mc, sx_mb, sx_cm, sx_cb, sx_bm, sx_bc, decide_true, decide_false, Bool.and_true, Bool.true_and, Bool.not_true, Bool.not_false, Bool.and_false, Bool.false_and, Bool.or_false, Bool.or_true, decide_eq_true_eq, Bool.and_eq_true, decide_eq_false_iff_not]; first | done | omega) | (simp [sx_mc, sx_mb, sx_cm, sx_cb, sx_bm, sx_bc]; first | done | omega) | omega)))
    · cases q : itW rows s (some r) k with
      | none => exact absurd q (n3 k hk)
      | some x =>
        simp only [q] at c2
        have hx := itW_lt ok hr0 k x q
        refine q_app c2 (d := .int x) rfl (y_var rfl) (by unfold wayR; simp; omega) fun σ3 H3 c3 => ?_
        refine z_asgD c3 (y_call (As := [Ws K p rows, D (.int x), D (.int s)]) (ya_cons (y_var rfl) mono_Ws (ya_cons (y_var rfl) (mono_D _) (ya_cons (y_var rfl) (mono_D _) ya_nil))) fun vs H Q h => ⟨p, rows, x, s, rows[x], ⟨p1, p2, s1, by simp [hx]⟩, h⟩) fun σ4 H4 c4 => ?_
        have e1 : itW rows s (some r) (k + 1) = wholeR rows[x] s := by
          show (itW rows s (some r) k).bind _ = _
          rw [q]
          show wholeAt rows s x = _
          unfold wholeAt
          simp [hx]
        have e2 : (wayR rows s r (k + 1)).map PyData.int = (wayR rows s r k).map .int ++ [.int x] := by
          unfold wayR
          rw [List.range_succ, List.map_append, List.map_append]
          simp [q]
        show Cur _ _ [.p (Ws K p rows), .p (D (optD (itW rows s (some r) (k + 1)))), .p (D (.int s)), .own ((wayR rows s r (k + 1)).map .int)] _ _
        rw [e1, e2]
        exact c4
    · simp only [n2] at c2
      refine z_yes c2 (yt_is (by (repeat' (first | with_reducible exact y_int | with_reducible exact y_str | (with_reducible show Y _ (tVar _) _ _; exact y_var rfl) | (with_reducible refine' y_eq _ _ _) | (with_reducible refine' y_ixT _ _ _) | with_reducible refine' y_ixL _ _ _ | with_reducible exact ya_nilD | with_reducible exact y_bl | with_reducible exact y_non | with_reducible exact yo_none | with_reducible exact yt_yes | with_reducible refine' yt_test _ | with_reducible refine' yt_B _ | with_reducible refine' yt_not _ | with_reducible refine' yt_and _ (fun _ => _) | with_reducible refine' yt_or _ (fun _ => _) | with_reducible refine' y_I0 _ _ | with_reducible refine' y_B0 _ _ | with_reducible refine' y_IC _ _ _ | with_reducible refine' y_parts (by assumption) _ | with_reducible refine' y_rows (by assumption) _ | with_reducible refine' ya_consD _ _ | with_reducible refine' y_tup _ (by simp) | with_reducible refine' y_lst _ (by simp) | (with_reducible show Y _ (tCB (rLen _) _) _ _; first | exact y_lenOwn rfl | exact y_lenSc (y_var rfl)) | with_reducible refine' y_len _ _ | with_reducible refine' y_ne _ _ _ | with_reducible refine' y_chain _ _ _ | with_reducible refine' y_andV _ (fun _ => _) | with_reducible refine' y_orV _ (fun _ => _) | with_reducible refine' y_isN _ | with_reducible refine' y_notN _ | exact rfl | (show _ = _; assumption) | exact atI_nat (by assumption) | (show CPow _ _; exact ⟨by decide, by decide, by decide⟩) | (show (0 : Int) < _; first | decide | omega) | (show CDiv _ _; exact ⟨by first | decide | omega, by first | decide | omega⟩) | (show CMul _ _; first | exact .inl ⟨by omega, by omega⟩ | exact .inr ⟨by omega, by omega⟩) ))) (by (first | rfl | (simp; done) | (simp only [sx_mc, sx_mb, sx_cm, sx_cb, sx_bm, sx_bc, decide_true, decide_false, Bool.and_true, Bool.true_and, Bool.not_true, Bool.not_false, Bool.and_false, Bool.false_and, Bool.or_false, Bool.or_true, decide_eq_true_eq, Bool.and_eq_true, decide_eq_false_iff_not]; first | done | omega) | (simp [sx_mc, sx_mb, sx_cm, sx_cb, sx_bm, sx_bc]; first | done | omega) | omega))) fun H3 c3 => ?_
      exact z_ret c3 (y_is (d := .list []) (by (repeat' (first | with_reducible exact y_int | with_reducible exact y_str | (with_reducible show Y _ (tVar _) _ _; exact y_var rfl) | (with_reducible refine' y_eq _ _ _) | (with_reducible refine' y_ixT _ _ _) | with_reducible refine' y_ixL _ _ _ | with_reducible exact ya_nilD | with_reducible exact y_bl | with_reducible exact y_non | with_reducible exact yo_none | with_reducible exact yt_yes | with_reducible refine' yt_test _ | with_reducible refine' yt_B _ | with_reducible refine' yt_not _ | with_reducible refine' yt_and _ (fun _ => _) | with_reducible refine' yt_or _ (fun _ => _) | with_reducible refine' y_I0 _ _ | with_reducible refine' y_B0 _ _ | with_reducible refine' y_IC _ _ _ | with_reducible refine' y_parts (by assumption) _ | with_reducible refine' y_rows (by assumption) _ | with_reducible refine' ya_consD _ _ | with_reducible refine' y_tup _ (by simp) | with_reducible refine' y_lst _ (by simp) | (with_reducible show Y _ (tCB (rLen _) _) _ _; first | exact y_lenOwn rfl | exact y_lenSc (y_var rfl)) | with_reducible refine' y_len _ _ | with_reducible refine' y_ne _ _ _ | with_reducible refine' y_chain _ _ _ | with_reducible refine' y_andV _ (fun _ => _) | with_reducible refine' y_orV _ (fun _ => _) | with_reducible refine' y_isN _ | with_reducible refine' y_notN _ | exact rfl | (show _ = _; assumption) | exact atI_nat (by assumption) | (show CPow _ _; exact ⟨by decide, by decide, by decide⟩) | (show (0 : Int) < _; first | decide | omega) | (show CDiv _ _; exact ⟨by first | decide | omega, by first | decide | omega⟩) | (show CMul _ _; first | exact .inl ⟨by omega, by omega⟩ | exact .inr ⟨by omega, by omega⟩) ))) rfl) k
theorem y_sortedC {R : Res} {G : Ctx} {ta : TE} {ns : List Int} (ha : Y R ta G (D (.list (ns.map .int)))) : Y R (tCB (rSortedI K) (tCons ta tNil)) G (D (.list ((isort ns).map .int))) := y_sortedI ha fun l h1 h2 => isort_of h1 h2
def sp_sizes_looked (K : PySem.W.Frag) : Sp := fun vs H Q E => ∃ (p : Int) (rows : List Rw), (rows.length ≤ 1000) ∧ spP [Ws K p rows] (D (.list ((lookSizes rows).map .int))) vs H Q E
theorem ok_sizes_looked (T : Tx K mg) : Cal P w K mg base 1 "sizes_looked" ["works"] (sp_sizes_looked K) := by
  obtain ⟨fd, F⟩ := T.c.def_ 6 (d := d_sizes_looked) rfl
  refine ⟨_, fd, T.g_sizes_looked, F.kp, FunD.bindsN (ps := ["works"]) F fun _ _ _ _ _ _ us hl => match us, hl with | [_], _ => rfl, def_ok F sc_sizes_looked ?_ fun cdv A outer s H vs Q E hr h => ?_⟩
  · intro vs H Q E h
    obtain ⟨_, _, _, h⟩ := h
    exact h.len
  · obtain ⟨p, rows, hl, Hb, sm, ha, k⟩ := h
    have c := start_cur (N := N_sizes_looked) (k := 3) sm ha (by repeat' (first | exact trivial | exact mono_D _ | exact mono_Ws | exact mono_Sc | refine ⟨?_, ?_⟩)) rfl
    refine ⟨_, (pss_cons (ps_setLc (i := 1) (own := [("row", 2)]) (g := (gName 2)) rfl sc_sizes_looked.nd rfl rfl (sw_true rfl rfl rfl (by decide +kernel)) (pi_listK (K := K) rfl (pe_fldK (K := K) rfl (pv 0) rfl)) (blkOk_by (own := [("row", 2)]) (N := N_sizes_looked) (sc := defScope s_sizes_looked) (by decide +kernel)) (fun _ _ _ _ _ => (pg_name (i := 2) sc_sizes_looked.nd rfl (Or.inl rfl))) (fun _ _ _ _ _ => (pts_one (pt_cmpR op_eq (pe_ix (kxT (K := K) rfl) (pv 2) pe_int (fun _ _ => rfl)) pe_str (nomark _)))) (fun _ _ _ _ _ => (pe_ix (kxT (K := K) rfl) (pv 2) pe_int (fun _ _ => rfl))))
  (pss_one (ps_ret (pe_callB (kSortedI (K := K) rfl) (by rfl) T.sorted bb_sorted (pa_cons (pe_op op_cat (pe_op op_cat (pe_lst (pa_cons pe_int pa_nil)) (pv 1)) (pe_lc (own := [("opening", 3)]) (g := (gName 3)) rfl sc_sizes_looked.nd (pi_listK (K := K) rfl (pv 1)) (blkOk_by (own := [("opening", 3)]) (N := N_sizes_looked) (sc := defScope s_sizes_looked) (by decide +kernel)) (fun _ _ _ _ _ => (pg_name (i := 3) sc_sizes_looked.nd rfl (Or.inl rfl))) (fun _ _ _ _ _ => pts_nil) (fun _ _ _ _ _ => (pe_op op_add (pv 3) pe_int)))) pa_nil))))), ?_⟩
    have ol := opens_len rows
    refine q_asgD c (d := .list ((opens rows).map .int)) (y_is (y_lcL (xs := rows) (enc := rowD) (e := openD) (b := isMesh) (fun x => [.p (Ws K p rows), .no, .p (D (rowD x)), .no]) (y_rows T (y_var rfl)) (by omega) (fun x _ => yg_name) (fun x _ => ?_) (fun x _ hb => ?_)) (by rw [opens_eq])) fun σ1 H1 c1 => ?_
    · cases x with
      | mesh c0 u o => exact (yt_is (by (repeat' (first | with_reducible exact y_int | with_reducible exact y_str | (with_reducible show Y _ (tVar _) _ _; exact y_var rfl) | (with_reducible refine' y_eq _ _ _) | (with_reducible refine' y_ixT _ _ _) | with_reducible refine' y_ixL _ _ _ | with_reducible exact ya_nilD | with_reducible exact y_bl | with_reducible exact y_non | with_reducible exact yo_none | with_reducible exact yt_yes | with_reducible refine' yt_test _ | with_reducible refine' yt_B _ | with_reducible refine' yt_not _ | with_reducible refine' yt_and _ (fun _ => _) | with_reducible refine' yt_or _ (fun _ => _) | with_reducible refine' y_I0 _ _ | with_reducible refine' y_B0 _ _ | with_reducible refine' y_IC _ _ _ | with_reducible refine' y_parts (by assumption) _ | with_reducible refine' y_rows (by assumption) _ | with_reducible refine' ya_consD _ _ | with_reducible refine' y_tup _ (by simp) | with_reducible refine' y_lst _ (by simp) | (with_reducible show Y _ (tCB (rLen _) _) _ _; first | exact y_lenOwn rfl | exact y_lenSc (y_var rfl)) | with_reducible refine' y_len _ _ | with_reducible refine' y_ne _ _ _ | with_reducible refine' y_chain _ _ _ | with_reducible refine' y_andV _ (fun _ => _) | with_reducible refine' y_orV _ (fun _ => _) | with_reducible refine' y_isN _ | with_reducible refine' y_notN _ | exact rfl | (show _ = _; assumption) | exact atI_nat (by assumption) | (show CPow _ _; exact ⟨by decide, by decide, by decide⟩) | (show (0 : Int) < _; first | decide | omega) | (show CDiv _ _; exact ⟨by first | decide | omega, by first | decide | omega⟩) | (show CMul _ _; first | exact .inl ⟨by omega, by omega⟩ | exact .inr ⟨by omega, by omega⟩) ))) (by (first | rfl | (simp; done) | (simp only [sx_mc, sx_mb, sx_cm, sx_cb, sx_bm, sx_bc, decide_true, decide_false, Bool.and_true, Bool.true_and, Bool.not_true, Bool.not_false, Bool.and_false, Bool.false_and, Bool.or_false, Bool.or_true, decide_eq_true_eq, Bool.and_eq_true, decide_eq_false_iff_not]; first | done | omega) | (simp [sx_mc, sx_mb, sx_cm, sx_cb, sx_bm, sx_bc]; first | done | omega) | omega)))
      | crush t => exact (yt_is (by (repeat' (first | with_reducible exact y_int | with_reducible exact y_str | (with_reducible show Y _ (tVar _) _ _; exact y_var rfl) | (with_reducible refine' y_eq _ _ _) | (with_reducible refine' y_ixT _ _ _) | with_reducible refine' y_ixL _ _ _ | with_reducible exact ya_nilD | with_reducible exact y_bl | with_reducible exact y_non | with_reducible exact yo_none | with_reducible exact yt_yes | with_reducible refine' yt_test _ | with_reducible refine' yt_B _ | with_reducible refine' yt_not _ | with_reducible refine' yt_and _ (fun _ => _) | with_reducible refine' yt_or _ (fun _ => _) | with_reducible refine' y_I0 _ _ | with_reducible refine' y_B0 _ _ | with_reducible refine' y_IC _ _ _ | with_reducible refine' y_parts (by assumption) _ | with_reducible refine' y_rows (by assumption) _ | with_reducible refine' ya_consD _ _ | with_reducible refine' y_tup _ (by simp) | with_reducible refine' y_lst _ (by simp) | (with_reducible show Y _ (tCB (rLen _) _) _ _; first | exact y_lenOwn rfl | exact y_lenSc (y_var rfl)) | with_reducible refine' y_len _ _ | with_reducible refine' y_ne _ _ _ | with_reducible refine' y_chain _ _ _ | with_reducible refine' y_andV _ (fun _ => _) | with_reducible refine' y_orV _ (fun _ => _) | with_reducible refine' y_isN _ | with_reducible refine' y_notN _ | exact rfl | (show _ = _; assumption) | exact atI_nat (by assumption) | (show CPow _ _; exact ⟨by decide, by decide, by decide⟩) | (show (0 : Int) < _; first | decide | omega) | (show CDiv _ _; exact ⟨by first | decide | omega, by first | decide | omega⟩) | (show CMul _ _; first | exact .inl ⟨by omega, by omega⟩ | exact .inr ⟨by omega, by omega⟩) ))) (by (first | rfl | (simp; done) | (simp only [sx_mc, sx_mb, sx_cm, sx_cb, sx_bm, sx_bc, decide_true, decide_false, Bool.and_true, Bool.true_and, Bool.not_true, Bool.not_false, Bool.and_false, Bool.false_and, Bool.or_false, Bool.or_true, decide_eq_true_eq, Bool.and_eq_true, decide_eq_false_iff_not]; first | done | omega) | (simp [sx_mc, sx_mb, sx_cm, sx_cb, sx_bm, sx_bc]; first | done | omega) | omega)))
      | bin b => exact (yt_is (by (repeat' (first | with_reducible exact y_int | with_reducible exact y_str | (with_reducible show Y _ (tVar _) _ _; exact y_var rfl) | (with_reducible refine' y_eq _ _ _) | (with_reducible refine' y_ixT _ _ _) | with_reducible refine' y_ixL _ _ _ | with_reducible exact ya_nilD | with_reducible exact y_bl | with_reducible exact y_non | with_reducible exact yo_none | with_reducible exact yt_yes | with_reducible refine' yt_test _ | with_reducible refine' yt_B _ | with_reducible refine' yt_not _ | with_reducible refine' yt_and _ (fun _ => _) | with_reducible refine' yt_or _ (fun _ => _) | with_reducible refine' y_I0 _ _ | with_reducible refine' y_B0 _ _ | with_reducible refine' y_IC _ _ _ | with_reducible refine' y_parts (by assumption) _ | with_reducible refine' y_rows (by assumption) _ | with_reducible refine' ya_consD _ _ | with_reducible refine' y_tup _ (by simp) | with_reducible refine' y_lst _ (by simp) | (with_reducible show Y _ (tCB (rLen _) _) _ _; first | exact y_lenOwn rfl | exact y_lenSc (y_var rfl)) | with_reducible refine' y_len _ _ | with_reducible refine' y_ne _ _ _ | with_reducible refine' y_chain _ _ _ | with_reducible refine' y_andV _ (fun _ => _) | with_reducible refine' y_orV _ (fun _ => _) | with_reducible refine' y_isN _ | with_reducible refine' y_notN _ | exact rfl | (show _ = _; assumption) | exact atI_nat (by assumption) | (show CPow _ _; exact ⟨by decide, by decide, by decide⟩) | (show (0 : Int) < _; first | decide | omega) | (show CDiv _ _; exact ⟨by first | decide | omega, by first | decide | omega⟩) | (show CMul _ _; first | exact .inl ⟨by omega, by omega⟩ | exact .inr ⟨by omega, by omega⟩) ))) (by (first | rfl | (simp; done) | (simp only [sx_mc, sx_mb, sx_cm, sx_cb, sx_bm, sx_bc, decide_true, decide_false, Bool.and_true, Bool.true_and, Bool.not_true, Bool.not_false, Bool.and_false, Bool.false_and, Bool.or_false, Bool.or_true, decide_eq_true_eq, Bool.and_eq_true, decide_eq_false_iff_not]; first | done | omega) | (simp [sx_mc, sx_mb, sx_cm, sx_cb, sx_bm, sx_bc]; first | done | omega) | omega)))
    · cases x with
      | mesh c0 u o => exact y_ixT (y_var rfl) y_int rfl
      | crush t => cases hb
      | bin b => cases hb
    · refine z_ret c1 (y_is (y_sortedC (ns := [1] ++ opens rows ++ (opens rows).map (· + 1)) (y_is (y_cat (y_cat (ds := [.int 1]) (by (repeat' (first | with_reducible exact y_int | with_reducible exact y_str | (with_reducible show Y _ (tVar _) _ _; exact y_var rfl) | (with_reducible refine' y_eq _ _ _) | (with_reducible refine' y_ixT _ _ _) | with_reducible refine' y_ixL _ _ _ | with_reducible exact ya_nilD | with_reducible exact y_bl | with_reducible exact y_non | with_reducible exact yo_none | with_reducible exact yt_yes | with_reducible refine' yt_test _ | with_reducible refine' yt_B _ | with_reducible refine' yt_not _ | with_reducible refine' yt_and _ (fun _ => _) | with_reducible refine' yt_or _ (fun _ => _) | with_reducible refine' y_I0 _ _ | with_reducible refine' y_B0 _ _ | with_reducible refine' y_IC _ _ _ | with_reducible refine' y_parts (by assumption) _ | with_reducible refine' y_rows (by assumption) _ | with_reducible refine' ya_consD _ _ | with_reducible refine' y_tup _ (by simp) | with_reducible refine' y_lst _ (by simp) | (with_reducible show Y _ (tCB (rLen _) _) _ _; first | exact y_lenOwn rfl | exact y_lenSc (y_var rfl)) | with_reducible refine' y_len _ _ | with_reducible refine' y_ne _ _ _ | with_reducible refine' y_chain _ _ _ | with_reducible refine' y_andV _ (fun _ => _) | with_reducible refine' y_orV _ (fun _ => _) | with_reducible refine' y_isN _ | with_reducible refine' y_notN _ | exact rfl | (show _ = _; assumption) | exact atI_nat (by assumption) | (show CPow _ _; exact ⟨by decide, by decide, by decide⟩) | (show (0 : Int) < _; first | decide | omega) | (show CDiv _ _; exact ⟨by first | decide | omega, by first | decide | omega⟩) | (show CMul _ _; first | exact .inl ⟨by omega, by omega⟩ | exact .inr ⟨by omega, by omega⟩) ))) (y_var rfl) (by simp; omega)) (y_lcL (xs := opens rows) (enc := .int) (e := fun c => .int (c + 1)) (b := fun _ => true) (fun x => [.p (Ws K p rows), .p (D (.list ((opens rows).map .int))), .no, .p (D (.int x))]) (y_var rfl) (by omega) (fun x _ => yg_name) (fun x _ => yt_yes) (fun x _ _ => (by (repeat' (first | with_reducible exact y_int | with_reducible exact y_str | (with_reducible show Y _ (tVar _) _ _; exact y_var rfl) | (with_reducible refine' y_eq _ _ _) | (with_reducible refine' y_ixT _ _ _) | with_reducible refine' y_ixL _ _ _ | with_reducible exact ya_nilD | with_reducible exact y_bl | with_reducible exact y_non | with_reducible exact yo_none | with_reducible exact yt_yes | with_reducible refine' yt_test _ | with_reducible refine' yt_B _ | with_reducible refine' yt_not _ | with_reducible refine' yt_and _ (fun _ => _) | with_reducible refine' yt_or _ (fun _ => _) | with_reducible refine' y_I0 _ _ | with_reducible refine' y_B0 _ _ | with_reducible refine' y_IC _ _ _ | with_reducible refine' y_parts (by assumption) _ | with_reducible refine' y_rows (by assumption) _ | with_reducible refine' ya_consD _ _ | with_reducible refine' y_tup _ (by simp) | with_reducible refine' y_lst _ (by simp) | (with_reducible show Y _ (tCB (rLen _) _) _ _; first | exact y_lenOwn rfl | exact y_lenSc (y_var rfl)) | with_reducible refine' y_len _ _ | with_reducible refine' y_ne _ _ _ | with_reducible refine' y_chain _ _ _ | with_reducible refine' y_andV _ (fun _ => _) | with_reducible refine' y_orV _ (fun _ => _) | with_reducible refine' y_isN _ | with_reducible refine' y_notN _ | exact rfl | (show _ = _; assumption) | exact atI_nat (by assumption) | (show CPow _ _; exact ⟨by decide, by decide, by decide⟩) | (show (0 : Int) < _; first | decide | omega) | (show CDiv _ _; exact ⟨by first | decide | omega, by first | decide | omega⟩) | (show CMul _ _; first | exact .inl ⟨by omega, by omega⟩ | exact .inr ⟨by omega, by omega⟩) ))))) ?_) ?_)) rfl) k
      · rw [List.filter_eq_self.mpr (fun _ _ => rfl)]
        simp; omega
      · rw [List.filter_eq_self.mpr (fun _ _ => rfl)]
        simp [List.map_append, Function.comp_def]
def sp_ring_of (K : PySem.W.Frag) : Sp := fun vs H Q E => ∃ (p : Int) (rows : List Rw), (2 ≤ p ∧ p ≤ 9 ∧ RowsOk rows ∧ rows.length ≤ 1000 ∧ NoRing rows) ∧ spP [Ws K p rows] (D .none) vs H Q E
theorem ok_ring_of (T : Tx K mg) : Cal P w K mg base 5 "ring_of" ["works"] (sp_ring_of K) := by
  have C_ring_from := ok_ring_from (P := P) (w := w) (base := base) T
  have C_sizes_looked := ok_sizes_looked (P := P) (w := w) (base := base) T
  obtain ⟨fd, F⟩ := T.c.def_ 7 (d := d_ring_of) rfl
  refine ⟨_, fd, T.g_ring_of, F.kp, FunD.bindsN (ps := ["works"]) F fun _ _ _ _ _ _ us hl => match us, hl with | [_], _ => rfl, def_ok F sc_ring_of ?_ fun cdv A outer s H vs Q E hr h => ?_⟩
  · intro vs H Q E h
    obtain ⟨_, _, _, h⟩ := h
    exact h.len
  · obtain ⟨p, rows, ok, Hb, sm, ha, k⟩ := h
    have c := start_cur (N := N_ring_of) (k := 3) sm ha (by repeat' (first | exact trivial | exact mono_D _ | exact mono_Ws | exact mono_Sc | refine ⟨?_, ?_⟩)) rfl
    refine ⟨_, (pss_cons (ps_for PassesOwn.never rfl (pi_listK (K := K) rfl (pe_cal C_sizes_looked (hr.mono (by decide)) (by rfl) (pa_cons (pv 0) pa_nil))) (pg_name (i := 1) sc_ring_of.nd rfl (Or.inl rfl))
    (pss_one (ps_for PassesOwn.never rfl (pi_range1 (by rfl) T.range (pa_cons (pe_callB (kLen (K := K) rfl) (by rfl) T.len bb_len (pa_cons (pe_fldK (K := K) rfl (pv 0) rfl) pa_nil)) pa_nil)) (pg_name (i := 2) sc_ring_of.nd rfl (Or.inl rfl))
    (pss_cons (ps_set (i := 3) sc_ring_of.nd rfl (Or.inl rfl) (pe_cal C_ring_from (hr.mono (by decide)) (by rfl) (pa_cons (pv 0) (pa_cons (pv 2) (pa_cons (pv 1) pa_nil)))))
  (pss_one (ps_if (pt_cmpR (kNeD (K := K) rfl hr.units) (pv 3) (pe_lst pa_nil) (nomark _))
    (pss_one (ps_ret (pe_tup (pa_cons (pv 1) (pa_cons (pv 3) pa_nil)))))
    pss_nil))))))
  (pss_one (ps_ret pe_non))), ?_⟩
    obtain ⟨p1, p2, ok, hl, nr⟩ := ok
    refine q_forL (xs := lookSizes rows) (enc := .int) (vs := [1]) c (y_call (As := [Ws K p rows]) (ya_cons (y_var rfl) mono_Ws ya_nil) fun vs H Q h => ⟨p, rows, hl, h⟩) (fun _ => [.p (Ws K p rows), .no, .no, .no]) (fun _ x => [.p (Ws K p rows), .p (D (.int x)), .no, .no]) (fun _ _ c => c) (fun i x _ => yg_name) (fun Hb1 _ i x hx σ2 H2 c2 => ?_) (fun σ2 H2 c2 => ?_)
    · have hx1 := look_pos ok (List.mem_of_getElem? hx)
      refine z_forR (n := rows.length) c2 (y_is (y_lenL (y_rows T (y_var rfl))) (by rw [List.length_map])) (by omega) (fun _ => [.p (Ws K p rows), .p (D (.int x)), .no, .no]) (fun _ c => c) (fun r hr0 σ3 H3 c3 => ?_) (fun σ3 H3 c3 => ?_)
      · refine q_asgD c3 (d := .list []) (y_call (As := [Ws K p rows, D (.int r), D (.int x)]) (ya_cons (y_var rfl) mono_Ws (ya_cons (y_var rfl) (mono_D _) (ya_cons (y_var rfl) (mono_D _) ya_nil))) fun vs H Q h => ⟨p, rows, r, x, ⟨p1, p2, hx1, ok, hr0, nr x hx1 r hr0⟩, h⟩) fun σ4 H4 c4 => ?_
        refine z_else1 c4 (yt_is (yt_test (y_neD (d := .list []) (e := .list []) (y_var rfl) (by (repeat' (first | with_reducible exact y_int | with_reducible exact y_str | (with_reducible show Y _ (tVar _) _ _; exact y_var rfl) | (with_reducible refine' y_eq _ _ _) | (with_reducible refine' y_ixT _ _ _) | with_reducible refine' y_ixL _ _ _ | with_reducible exact ya_nilD | with_reducible exact y_bl | with_reducible exact y_non | with_reducible exact yo_none | with_reducible exact yt_yes | with_reducible refine' yt_test _ | with_reducible refine' yt_B _ | with_reducible refine' yt_not _ | with_reducible refine' yt_and _ (fun _ => _) | with_reducible refine' yt_or _ (fun _ => _) | with_reducible refine' y_I0 _ _ | with_reducible refine' y_B0 _ _ | with_reducible refine' y_IC _ _ _ | with_reducible refine' y_parts (by assumption) _ | with_reducible refine' y_rows (by assumption) _ | with_reducible refine' ya_consD _ _ | with_reducible refine' y_tup _ (by simp) | with_reducible refine' y_lst _ (by simp) | (with_reducible show Y _ (tCB (rLen _) _) _ _; first | exact y_lenOwn rfl | exact y_lenSc (y_var rfl)) | with_reducible refine' y_len _ _ | with_reducible refine' y_ne _ _ _ | with_reducible refine' y_chain _ _ _ | with_reducible refine' y_andV _ (fun _ => _) | with_reducible refine' y_orV _ (fun _ => _) | with_reducible refine' y_isN _ | with_reducible refine' y_notN _ | exact rfl | (show _ = _; assumption) | exact atI_nat (by assumption) | (show CPow _ _; exact ⟨by decide, by decide, by decide⟩) | (show (0 : Int) < _; first | decide | omega) | (show CDiv _ _; exact ⟨by first | decide | omega, by first | decide | omega⟩) | (show CMul _ _; first | exact .inl ⟨by omega, by omega⟩ | exact .inr ⟨by omega, by omega⟩) ))) rfl rfl rfl rfl)) rfl) fun H5 c5 => ?_
        exact (c5.forget 2).forget 3
      · exact c3.forget 1
    · exact z_ret c2 y_non k
end
end MW

/-! F7 -/
set_option Elab.async false
set_option linter.all false
set_option maxRecDepth 100000
set_option maxHeartbeats 400000
namespace MW
open PySem PySem.Spec L2

def Cst (u : V) : Pr := fun _ v => v = u
theorem mono_Cst {u : V} : Mono (Cst u) := fun _ _ _ _ h => h
theorem EvG.reheap {H0 H0' Hb H H' : Hp} {G : Ctx} {σ : L2.St} (E : EvG H0 G Hb H σ) (n : ∀ (i : Nat) (e : Ent), G[i]? = some e → e.mine = false) : EvG H0' G Hb H' σ := by
  refine ⟨E.len, fun i e q => ?_, fun i j e f l q1 _ m1 _ _ _ => ?_⟩
  · have z := E.ent i e q
    have m := n i e q
    cases e with
    | no => trivial
    | p P => exact z
    | own ds => cases m
    | ownD ds => cases m
  · rw [n i e q1] at m1; cases m1
theorem ks_ne : ¬ (("parts" : Str) = "rows") := by decide +kernel
theorem put_works (p : Int) (l : Addr) : putF "rows" (.ref l) (putF "parts" (.int p) []) = ([("parts", .int p), ("rows", .ref l)] : List (Str × V)) := by
  show (if ("parts" : Str) = "rows" then _ else (("parts" : Str), V.int p) :: putF "rows" (.ref l) []) = _
  rw [if_neg ks_ne]; rfl
section
variable {P : Program} {w : World} {K : PySem.W.Frag} {mg : Str → Option Value} {base : Heap}
def sp_Works_init (K : PySem.W.Frag) : Sp := fun vs H Q _ => ∃ (x dx : Addr) (p : Int) (rows : List Rw) (Hb : Hp) (r : V), (2 ≤ p ∧ p ≤ 9 ∧ 1 ≤ rows.length ∧ rows.length ≤ 12 ∧ RowsOk rows) ∧ vs = [.ref x, .int p, r] ∧ H x = some (.ins (He.ga K "Works") dx []) ∧ Hb x = none ∧ Same Hb H ∧ Dv Hb (rowsD rows) r ∧
  ∀ (Hb2 H2 : Hp) (l : Addr), Same Hb Hb2 → (∀ b o, H b = some o → b ≠ x → H2 b = some o) → Same Hb2 H2 → Hb2 x = none → (∀ a, Hb a = none → Hb2 a ≠ none → H a = none) → H2 x = some (.ins (He.ga K "Works") dx [("parts", .int p), ("rows", .ref l)]) → Dv Hb2 (rowsD rows) (.ref l) → Q .non H2
theorem mk_Works (T : Tx K mg) : Mak P w K mg base 2 "Works" (He.ga K "Works") ["self", "parts", "rows"] (sp_Works_init K) := by
  have C_good_row := ok_good_row (P := P) (w := w) (base := base) T
  obtain ⟨fd, F⟩ := T.c.def_ 1 (d := d_Works_init) rfl
  refine ⟨_, fd, T.g_Works, T.mk_Works, FunD.bindsN (ps := ["self", "parts", "rows"]) F fun _ _ _ _ _ _ us hl => match us, hl with | [_, _, _], _ => rfl, def_ok F sc_Works_init ?_ fun cdv A outer s H vs Q E hr h => ?_⟩
  · rintro vs H Q E ⟨x, dx, p, rows, Hb, r, _, rfl, _⟩
    rfl
  · obtain ⟨x, dx, p, rows, Hb, r, ⟨p1, p2, l1, l2, ok⟩, rfl, hx, hbx, sm, hd, k⟩ := h
    have c := start_cur (As := [Cst (.ref x), D (.int p), D (rowsD rows)]) (vs := [.ref x, .int p, r]) (N := N_Works_init) (k := 1) sm ⟨_, _, rfl, rfl, _, _, rfl, rfl, _, _, rfl, hd, rfl⟩ ⟨mono_Cst, mono_D _, mono_D _, trivial⟩ rfl
    refine ⟨_, (pss_cons (ps_if ((pw_or (pt_cmpR op_lt (pv 1) pe_int (nomark _)) (pw_or (pt_cmpR op_gt (pv 1) (pe_mint T.MOST_PARTS (by rfl)) (nomark _)) (pw_or (pt_cmpR op_lt (pe_callB (kLen (K := K) rfl) (by rfl) T.len bb_len (pa_cons (pv 2) pa_nil)) pe_int (nomark _)) (pw_or1 (pt_cmpR op_gt (pe_callB (kLen (K := K) rfl) (by rfl) T.len bb_len (pa_cons (pv 2) pa_nil)) (pe_mint T.MOST_ROWS (by rfl)) (nomark _))))))).pt
    pss_never
    pss_nil)
  (pss_cons (ps_for PassesOwn.never rfl (pi_listK (K := K) rfl (pv 2)) (pg_name (i := 3) sc_Works_init.nd rfl (Or.inl rfl))
    (pss_one (ps_if (pt_not (pt_val (pe_cal C_good_row (hr.mono (by decide)) (by rfl) (pa_cons (pv 3) (pa_cons (pe_callB (kLen (K := K) rfl) (by rfl) T.len bb_len (pa_cons (pv 2) pa_nil)) pa_nil)))))
    pss_never
    pss_nil)))
  (pss_cons (ps_fld (pv 0) (pv 1) rfl)
  (pss_one (ps_fld (pv 0) (pe_callTy (kListOf (K := K) rfl) (by rfl) T.list bb_list (pa_cons (pv 2) pa_nil)) rfl))))), ?_⟩
    refine z_no c (yt_is (yt_or (yt_is (by (repeat' (first | with_reducible exact y_int | with_reducible exact y_str | (with_reducible show Y _ (tVar _) _ _; exact y_var rfl) | (with_reducible refine' y_eq _ _ _) | (with_reducible refine' y_ixT _ _ _) | with_reducible refine' y_ixL _ _ _ | with_reducible exact ya_nilD | with_reducible exact y_bl | with_reducible exact y_non | with_reducible exact yo_none | with_reducible exact yt_yes | with_reducible refine' yt_test _ | with_reducible refine' yt_B _ | with_reducible refine' yt_not _ | with_reducible refine' yt_and _ (fun _ => _) | with_reducible refine' yt_or _ (fun _ => _) | with_reducible refine' y_I0 _ _ | with_reducible refine' y_B0 _ _ | with_reducible refine' y_IC _ _ _ | with_reducible refine' y_parts (by assumption) _ | with_reducible refine' y_rows (by assumption) _ | with_reducible refine' ya_consD _ _ | with_reducible refine' y_tup _ (by simp) | with_reducible refine' y_lst _ (by simp) | (with_reducible show Y _ (tCB (rLen _) _) _ _; first | exact y_lenOwn rfl | exact y_lenSc (y_var rfl)) | with_reducible refine' y_len _ _ | with_reducible refine' y_ne _ _ _ | with_reducible refine' y_chain _ _ _ | with_reducible refine' y_andV _ (fun _ => _) | with_reducible refine' y_orV _ (fun _ => _) | with_reducible refine' y_isN _ | with_reducible refine' y_notN _ | exact rfl | (show _ = _; assumption) | exact atI_nat (by assumption) | (show CPow _ _; exact ⟨by decide, by decide, by decide⟩) | (show (0 : Int) < _; first | decide | omega) | (show CDiv _ _; exact ⟨by first | decide | omega, by first | decide | omega⟩) | (show CMul _ _; first | exact .inl ⟨by omega, by omega⟩ | exact .inr ⟨by omega, by omega⟩) ))) (by (first | rfl | (simp; done) | (simp only [sx_mc, sx_mb, sx_cm, sx_cb, sx_bm, sx_bc, decide_true, decide_false, Bool.and_true, Bool.true_and, Bool.not_true, Bool.not_false, Bool.and_false, Bool.false_and, Bool.or_false, Bool.or_true, decide_eq_true_eq, Bool.and_eq_true, decide_eq_false_iff_not]; first | done | omega) | (simp [sx_mc, sx_mb, sx_cm, sx_cb, sx_bm, sx_bc]; first | done | omega) | omega))) fun _ => yt_or (yt_is (by (repeat' (first | with_reducible exact y_int | with_reducible exact y_str | (with_reducible show Y _ (tVar _) _ _; exact y_var rfl) | (with_reducible refine' y_eq _ _ _) | (with_reducible refine' y_ixT _ _ _) | with_reducible refine' y_ixL _ _ _ | with_reducible exact ya_nilD | with_reducible exact y_bl | with_reducible exact y_non | with_reducible exact yo_none | with_reducible exact yt_yes | with_reducible refine' yt_test _ | with_reducible refine' yt_B _ | with_reducible refine' yt_not _ | with_reducible refine' yt_and _ (fun _ => _) | with_reducible refine' yt_or _ (fun _ => _) | with_reducible refine' y_I0 _ _ | with_reducible refine' y_B0 _ _ | with_reducible refine' y_IC _ _ _ | with_reducible refine' y_parts (by assumption) _ | with_reducible refine' y_rows (by assumption) _ | with_reducible refine' ya_consD _ _ | with_reducible refine' y_tup _ (by simp) | with_reducible refine' y_lst _ (by simp) | (with_reducible show Y _ (tCB (rLen _) _) _ _; first | exact y_lenOwn rfl | exact y_lenSc (y_var rfl)) | with_reducible refine' y_len _ _ | with_reducible refine' y_ne _ _ _ | with_reducible refine' y_chain _ _ _ | with_reducible refine' y_andV _ (fun _ => _) | with_reducible refine' y_orV _ (fun _ => _) | with_reducible refine' y_isN _ | with_reducible refine' y_notN _ | exact rfl | (show _ = _; assumption) | exact atI_nat (by assumption) | (show CPow _ _; exact ⟨by decide, by decide, by decide⟩) | (show (0 : Int) < _; first | decide | omega) | (show CDiv _ _; exact ⟨by first | decide | omega, by first | decide | omega⟩) | (show CMul _ _; first | exact .inl ⟨by omega, by omega⟩ | exact .inr ⟨by omega, by omega⟩) ))) (by (first | rfl | (simp; done) | (simp only [sx_mc, sx_mb, sx_cm, sx_cb, sx_bm, sx_bc, decide_true, decide_false, Bool.and_true, Bool.true_and, Bool.not_true, Bool.not_false, Bool.and_false, Bool.false_and, Bool.or_false, Bool.or_true, decide_eq_true_eq, Bool.and_eq_true, decide_eq_false_iff_not]; first | done | omega) | (simp [sx_mc, sx_mb, sx_cm, sx_cb, sx_bm, sx_bc]; first | done | omega) | omega))) fun _ => yt_or (yt_is (y_B0_t (y_lenRows (y_var rfl)) y_int) rfl) fun _ => y_B0_t (y_lenRows (y_var rfl)) y_int) (b := false) ?_) fun H1 c1 => ?_
    · simp; omega
    refine q_forL (xs := rows) (enc := rowD) (vs := [3]) c1 (y_var rfl) (fun _ => [.p (Cst (.ref x)), .p (D (.int p)), .p (D (rowsD rows)), .no]) (fun _ y => [.p (Cst (.ref x)), .p (D (.int p)), .p (D (rowsD rows)), .p (D (rowD y))]) (fun _ _ c => c) (fun i x _ => yg_name) (fun Hb1 _ i y hy σ2 H2 c2 => ?_) (fun σ2 H2 c2 => ?_)
    · refine z_else1 c2 (yt_is (yt_not (yt_B (y_call (P := D (.bool true)) (As := [D (rowD y), D (.int rows.length)]) (ya_cons (y_var rfl) (mono_D _) (ya_cons (y_lenRows (y_var rfl)) (mono_D _) ya_nil)) fun vs H Q h => ⟨y, rows.length, ok y (List.mem_of_getElem? hy), h⟩))) rfl) fun H3 c3 => ?_
      exact c3.forget 3
    · obtain ⟨Hb', g, E⟩ := c2
      obtain ⟨v1, e1, rfl⟩ := E.var (i := 1) rfl
      obtain ⟨v0, e0, rfl⟩ := E.var (i := 0) rfl
      have hx' := g.al _ _ hx
      have hbx' : Hb' x = none := by
        cases q : Hb' x with
        | none => rfl
        | some o => have := g.nw x hbx (by rw [q]; simp); rw [hx] at this; cases this
      refine ⟨_, e1, _, e0, x, _, dx, [], rfl, hx', T.cls_Works, T.no_Works_parts, by decide, ?_⟩
      have s' : Same Hb' (upd H2 x (.ins (He.ga K "Works") dx (putF "parts" (.int p) []))) := same_mut g.in_ hbx'
      have E' : EvG H _ Hb' (upd H2 x (.ins (He.ga K "Works") dx (putF "parts" (.int p) []))) σ2 := E.reheap fun i e q => by
        match i, q with
        | 0, q => cases q; rfl
        | 1, q => cases q; rfl
        | 2, q => cases q; rfl
        | 3, q => cases q; rfl
        | i + 4, q => cases q
      refine y_listOf (R := R0) (G := [.p (Cst (.ref x)), .p (D (.int p)), .p (D (rowsD rows)), .no]) (ds := rows.map rowD) (y_var rfl) H Hb' _ σ2 E' trivial s' _ fun v Hb2 H3 g3 dv => ?_
      obtain ⟨l, ws, rfl, hl, hw⟩ := dv
      have hx3 := g3.al x _ upd_same
      refine ⟨_, e0, x, _, dx, _, rfl, hx3, T.cls_Works, T.no_Works_rows, (show 1 < 1000 by decide), ?_⟩
      have hbx2 : Hb2 x = none := by
        cases q : Hb2 x with
        | none => rfl
        | some o => have := g3.nw x hbx' (by rw [q]; simp); rw [upd_same] at this; cases this
      refine k Hb2 _ l (g.fz.trans g3.fz) (fun b o hb ne => ?_) (same_mut g3.in_ hbx2) hbx2 (fun a n1 n2 => ?_) ?_ ⟨l, ws, rfl, hl, hw⟩
      · rw [upd_ne ne]
        exact g3.al _ _ (by rw [upd_ne ne]; exact g.al _ _ hb)
      · by_cases q : Hb' a = none
        · have := g3.nw a q n2
          by_cases z : a = x
          · subst z; exact absurd hbx2 n2
          · rw [upd_ne z] at this
            exact g.al.free this
        · exact g.nw a n1 q
      · rw [upd_same, put_works]
theorem y_works {R : Res} {G : Ctx} {ta tb : TE} {p : Int} {rows : List Rw} (ha : Y R ta G (D (.int p))) (hb : Y R tb G (D (rowsD rows))) (ok : 2 ≤ p ∧ p ≤ 9 ∧ 1 ≤ rows.length ∧ rows.length ≤ 12 ∧ RowsOk rows) :
    Y R (tMake (He.ga K "Works") (sp_Works_init K) [] E0 (tCons ta (tCons tb tNil))) G (Ws K p rows) := fun H0 Hb H σ E rr s Q q =>
  (ya_cons (Ps := [D (rowsD rows)]) ha (mono_D _) (ya_cons hb (mono_D _) ya_nil)) H0 Hb H σ E rr s _ fun vs Hb1 H1 g a => by
    obtain ⟨v1, r1, rfl, h1, v2, r2, rfl, h2, rfl⟩ := a
    obtain rfl : v1 = .int p := h1
    intro x dx nx ndx ndd
    have s1 : Same H1 (upd (upd H1 dx (.own x)) x (.ins (He.ga K "Works") dx [])) := fun b o e => by
      rw [upd_ne (ne_of_none e nx), upd_ne (ne_of_none e ndx)]; exact e
    refine ⟨x, dx, p, rows, Hb1, v2, ok, rfl, upd_same, g.in_.free nx, g.in_.trans s1, h2, fun Hb2 H2 l z1 z2 z3 z4 z5 z6 z7 => ⟨rfl, ?_⟩⟩
    have al : Same H1 H2 := fun b o e => z2 b o (s1 b o e) (ne_of_none e nx)
    have g2 : Grow Hb1 H1 (upd Hb2 x (.ins (He.ga K "Works") dx [("parts", .int p), ("rows", .ref l)])) H2 := ⟨z1.trans (same_upd z4), al, fun b o e => by
      by_cases y : b = x
      · subst y; rw [upd_same] at e; rw [z6]; exact e
      · rw [upd_ne y] at e; exact z3 b o e, fun a n1 n2 => by
      by_cases y : a = x
      · subst y; exact nx
      · rw [upd_ne y] at n2
        exact s1.free (z5 a n1 n2)⟩
    exact q _ _ _ (g.trans g2) ⟨x, dx, l, rfl, upd_same, Dv.mono (same_upd z4) _ _ z7⟩
/-! ### a works behind a bin -/
def movR (pl : List Int) : Rw → Rw
  | .mesh c u o => .mesh c (pl.getD u 0).toNat (pl.getD o 0).toNat
  | .crush t => .crush (pl.getD t 0).toNat
  | .bin b => .bin b
theorem at_pl {pl : List Int} {u : Nat} (h : u < pl.length) (hp : ∀ z ∈ pl, 0 ≤ z) : atI (pl.map PyData.int) (u : Int) = some (.int ((pl.getD u 0).toNat : Nat)) := by
  refine atI_nat ?_
  have e : pl.getD u 0 = pl[u] := by simp [List.getD, h]
  have h0 := hp pl[u] (List.getElem_mem h)
  rw [List.getElem?_map, e, Int.toNat_of_nonneg h0]
  simp [h]
def sp_moved : Sp := fun vs H Q E => ∃ (row : Rw) (pl : List Int), (row.ok pl.length ∧ ∀ z ∈ pl, 0 ≤ z) ∧ spP [D (rowD row), D (.list (pl.map .int))] (D (rowD (movR pl row))) vs H Q E
theorem ok_moved (T : Tx K mg) : Cal P w K mg base 1 "moved" ["row", "places"] sp_moved := by
  obtain ⟨fd, F⟩ := T.c.def_ 8 (d := d_moved) rfl
  refine ⟨_, fd, T.g_moved, F.kp, FunD.bindsN (ps := ["row", "places"]) F fun _ _ _ _ _ _ us hl => match us, hl with | [_, _], _ => rfl, def_ok F sc_moved ?_ fun cdv A outer s H vs Q E hr h => ?_⟩
  · intro vs H Q E h
    obtain ⟨_, _, _, h⟩ := h
    exact h.len
  · obtain ⟨row, pl, ok, Hb, sm, ha, k⟩ := h
    have c := start_cur (N := N_moved) (k := 0) sm ha (by repeat' (first | exact trivial | exact mono_D _ | exact mono_Ws | exact mono_Sc | refine ⟨?_, ?_⟩)) rfl
    refine ⟨_, (pss_cons (ps_if (pt_cmpR op_eq (pe_ix (kxT (K := K) rfl) (pv 0) pe_int (fun _ _ => rfl)) pe_str (nomark _))
    (pss_one (ps_ret (pe_tup (pa_cons pe_str (pa_cons (pe_ix (kxT (K := K) rfl) (pv 0) pe_int (fun _ _ => rfl)) (pa_cons (pe_ix (kxL (K := K) rfl) (pv 1) (pe_ix (kxT (K := K) rfl) (pv 0) pe_int (fun _ _ => rfl)) (fun _ _ => rfl)) (pa_cons (pe_ix (kxL (K := K) rfl) (pv 1) (pe_ix (kxT (K := K) rfl) (pv 0) pe_int (fun _ _ => rfl)) (fun _ _ => rfl)) pa_nil)))))))
    pss_nil)
  (pss_cons (ps_if (pt_cmpR op_eq (pe_ix (kxT (K := K) rfl) (pv 0) pe_int (fun _ _ => rfl)) pe_str (nomark _))
    (pss_one (ps_ret (pe_tup (pa_cons pe_str (pa_cons (pe_ix (kxL (K := K) rfl) (pv 1) (pe_ix (kxT (K := K) rfl) (pv 0) pe_int (fun _ _ => rfl)) (fun _ _ => rfl)) pa_nil)))))
    pss_nil)
  (pss_one (ps_ret (pv 0))))), ?_⟩
    obtain ⟨ok, hp⟩ := ok
    cases row with
    | mesh c0 u o =>
      obtain ⟨_, _, h1, h2⟩ := ok
      refine z_yes (by assumption) (yt_is (by (repeat' (first | with_reducible exact y_int | with_reducible exact y_str | (with_reducible show Y _ (tVar _) _ _; exact y_var rfl) | (with_reducible refine' y_eq _ _ _) | (with_reducible refine' y_ixT _ _ _) | with_reducible refine' y_ixL _ _ _ | with_reducible exact ya_nilD | with_reducible exact y_bl | with_reducible exact y_non | with_reducible exact yo_none | with_reducible exact yt_yes | with_reducible refine' yt_test _ | with_reducible refine' yt_B _ | with_reducible refine' yt_not _ | with_reducible refine' yt_and _ (fun _ => _) | with_reducible refine' yt_or _ (fun _ => _) | with_reducible refine' y_I0 _ _ | with_reducible refine' y_B0 _ _ | with_reducible refine' y_IC _ _ _ | with_reducible refine' y_parts (by assumption) _ | with_reducible refine' y_rows (by assumption) _ | with_reducible refine' ya_consD _ _ | with_reducible refine' y_tup _ (by simp) | with_reducible refine' y_lst _ (by simp) | (with_reducible show Y _ (tCB (rLen _) _) _ _; first | exact y_lenOwn rfl | exact y_lenSc (y_var rfl)) | with_reducible refine' y_len _ _ | with_reducible refine' y_ne _ _ _ | with_reducible refine' y_chain _ _ _ | with_reducible refine' y_andV _ (fun _ => _) | with_reducible refine' y_orV _ (fun _ => _) | with_reducible refine' y_isN _ | with_reducible refine' y_notN _ | exact rfl | (show _ = _; assumption) | exact atI_nat (by assumption) | (show CPow _ _; exact ⟨by decide, by decide, by decide⟩) | (show (0 : Int) < _; first | decide | omega) | (show CDiv _ _; exact ⟨by first | decide | omega, by first | decide | omega⟩) | (show CMul _ _; first | exact .inl ⟨by omega, by omega⟩ | exact .inr ⟨by omega, by omega⟩) ))) (by (first | rfl | (simp; done) | (simp only [sx_mc, sx_mb, sx_cm, sx_cb, sx_bm, sx_bc, decide_true, decide_false, Bool.and_true, Bool.true_and, Bool.not_true, Bool.not_false, Bool.and_false, Bool.false_and, Bool.or_false, Bool.or_true, decide_eq_true_eq, Bool.and_eq_true, decide_eq_false_iff_not]; first | done | omega) | (simp [sx_mc, sx_mb, sx_cm, sx_cb, sx_bm, sx_bc]; first | done | omega) | omega))) (fun _ _ => ?_)
      exact z_ret (by assumption) (y_tup (ya_consD y_str (ya_consD (by (repeat' (first | with_reducible exact y_int | with_reducible exact y_str | (with_reducible show Y _ (tVar _) _ _; exact y_var rfl) | (with_reducible refine' y_eq _ _ _) | (with_reducible refine' y_ixT _ _ _) | with_reducible refine' y_ixL _ _ _ | with_reducible exact ya_nilD | with_reducible exact y_bl | with_reducible exact y_non | with_reducible exact yo_none | with_reducible exact yt_yes | with_reducible refine' yt_test _ | with_reducible refine' yt_B _ | with_reducible refine' yt_not _ | with_reducible refine' yt_and _ (fun _ => _) | with_reducible refine' yt_or _ (fun _ => _) | with_reducible refine' y_I0 _ _ | with_reducible refine' y_B0 _ _ | with_reducible refine' y_IC _ _ _ | with_reducible refine' y_parts (by assumption) _ | with_reducible refine' y_rows (by assumption) _ | with_reducible refine' ya_consD _ _ | with_reducible refine' y_tup _ (by simp) | with_reducible refine' y_lst _ (by simp) | (with_reducible show Y _ (tCB (rLen _) _) _ _; first | exact y_lenOwn rfl | exact y_lenSc (y_var rfl)) | with_reducible refine' y_len _ _ | with_reducible refine' y_ne _ _ _ | with_reducible refine' y_chain _ _ _ | with_reducible refine' y_andV _ (fun _ => _) | with_reducible refine' y_orV _ (fun _ => _) | with_reducible refine' y_isN _ | with_reducible refine' y_notN _ | exact rfl | (show _ = _; assumption) | exact atI_nat (by assumption) | (show CPow _ _; exact ⟨by decide, by decide, by decide⟩) | (show (0 : Int) < _; first | decide | omega) | (show CDiv _ _; exact ⟨by first | decide | omega, by first | decide | omega⟩) | (show CMul _ _; first | exact .inl ⟨by omega, by omega⟩ | exact .inr ⟨by omega, by omega⟩) ))) (ya_consD (y_ixL (y_var rfl) (by (repeat' (first | with_reducible exact y_int | with_reducible exact y_str | (with_reducible show Y _ (tVar _) _ _; exact y_var rfl) | (with_reducible refine' y_eq _ _ _) | (with_reducible refine' y_ixT _ _ _) | with_reducible refine' y_ixL _ _ _ | with_reducible exact ya_nilD | with_reducible exact y_bl | with_reducible exact y_non | with_reducible exact yo_none | with_reducible exact yt_yes | with_reducible refine' yt_test _ | with_reducible refine' yt_B _ | with_reducible refine' yt_not _ | with_reducible refine' yt_and _ (fun _ => _) | with_reducible refine' yt_or _ (fun _ => _) | with_reducible refine' y_I0 _ _ | with_reducible refine' y_B0 _ _ | with_reducible refine' y_IC _ _ _ | with_reducible refine' y_parts (by assumption) _ | with_reducible refine' y_rows (by assumption) _ | with_reducible refine' ya_consD _ _ | with_reducible refine' y_tup _ (by simp) | with_reducible refine' y_lst _ (by simp) | (with_reducible show Y _ (tCB (rLen _) _) _ _; first | exact y_lenOwn rfl | exact y_lenSc (y_var rfl)) | with_reducible refine' y_len _ _ | with_reducible refine' y_ne _ _ _ | with_reducible refine' y_chain _ _ _ | with_reducible refine' y_andV _ (fun _ => _) | with_reducible refine' y_orV _ (fun _ => _) | with_reducible refine' y_isN _ | with_reducible refine' y_notN _ | exact rfl | (show _ = _; assumption) | exact atI_nat (by assumption) | (show CPow _ _; exact ⟨by decide, by decide, by decide⟩) | (show (0 : Int) < _; first | decide | omega) | (show CDiv _ _; exact ⟨by first | decide | omega, by first | decide | omega⟩) | (show CMul _ _; first | exact .inl ⟨by omega, by omega⟩ | exact .inr ⟨by omega, by omega⟩) ))) (at_pl h1 hp)) (ya_consD (y_ixL (y_var rfl) (by (repeat' (first | with_reducible exact y_int | with_reducible exact y_str | (with_reducible show Y _ (tVar _) _ _; exact y_var rfl) | (with_reducible refine' y_eq _ _ _) | (with_reducible refine' y_ixT _ _ _) | with_reducible refine' y_ixL _ _ _ | with_reducible exact ya_nilD | with_reducible exact y_bl | with_reducible exact y_non | with_reducible exact yo_none | with_reducible exact yt_yes | with_reducible refine' yt_test _ | with_reducible refine' yt_B _ | with_reducible refine' yt_not _ | with_reducible refine' yt_and _ (fun _ => _) | with_reducible refine' yt_or _ (fun _ => _) | with_reducible refine' y_I0 _ _ | with_reducible refine' y_B0 _ _ | with_reducible refine' y_IC _ _ _ | with_reducible refine' y_parts (by assumption) _ | with_reducible refine' y_rows (by assumption) _ | with_reducible refine' ya_consD _ _ | with_reducible refine' y_tup _ (by simp) | with_reducible refine' y_lst _ (by simp) | (with_reducible show Y _ (tCB (rLen _) _) _ _; first | exact y_lenOwn rfl | exact y_lenSc (y_var rfl)) | with_reducible refine' y_len _ _ | with_reducible refine' y_ne _ _ _ | with_reducible refine' y_chain _ _ _ | with_reducible refine' y_andV _ (fun _ => _) | with_reducible refine' y_orV _ (fun _ => _) | with_reducible refine' y_isN _ | with_reducible refine' y_notN _ | exact rfl | (show _ = _; assumption) | exact atI_nat (by assumption) | (show CPow _ _; exact ⟨by decide, by decide, by decide⟩) | (show (0 : Int) < _; first | decide | omega) | (show CDiv _ _; exact ⟨by first | decide | omega, by first | decide | omega⟩) | (show CMul _ _; first | exact .inl ⟨by omega, by omega⟩ | exact .inr ⟨by omega, by omega⟩) ))) (at_pl h2 hp)) ya_nilD)))) (by simp)) k
    | crush t =>
      refine z_no (by assumption) (yt_is (by (repeat' (first | with_reducible exact y_int | with_reducible exact y_str | (with_reducible show Y _ (tVar _) _ _; exact y_var rfl) | (with_reducible refine' y_eq _ _ _) | (with_reducible refine' y_ixT _ _ _) | with_reducible refine' y_ixL _ _ _ | with_reducible exact ya_nilD | with_reducible exact y_bl | with_reducible exact y_non | with_reducible exact yo_none | with_reducible exact yt_yes | with_reducible refine' yt_test _ | with_reducible refine' yt_B _ | with_reducible refine' yt_not _ | with_reducible refine' yt_and _ (fun _ => _) | with_reducible refine' yt_or _ (fun _ => _) | with_reducible refine' y_I0 _ _ | with_reducible refine' y_B0 _ _ | with_reducible refine' y_IC _ _ _ | with_reducible refine' y_parts (by assumption) _ | with_reducible refine' y_rows (by assumption) _ | with_reducible refine' ya_consD _ _ | with_reducible refine' y_tup _ (by simp) | with_reducible refine' y_lst _ (by simp) | (with_reducible show Y _ (tCB (rLen _) _) _ _; first | exact y_lenOwn rfl | exact y_lenSc (y_var rfl)) | with_reducible refine' y_len _ _ | with_reducible refine' y_ne _ _ _ | with_reducible refine' y_chain _ _ _ | with_reducible refine' y_andV _ (fun _ => _) | with_reducible refine' y_orV _ (fun _ => _) | with_reducible refine' y_isN _ | with_reducible refine' y_notN _ | exact rfl | (show _ = _; assumption) | exact atI_nat (by assumption) | (show CPow _ _; exact ⟨by decide, by decide, by decide⟩) | (show (0 : Int) < _; first | decide | omega) | (show CDiv _ _; exact ⟨by first | decide | omega, by first | decide | omega⟩) | (show CMul _ _; first | exact .inl ⟨by omega, by omega⟩ | exact .inr ⟨by omega, by omega⟩) ))) (by (first | rfl | (simp; done) | (simp only [sx_mc, sx_mb, sx_cm, sx_cb, sx_bm, sx_bc, decide_true, decide_false, Bool.and_true, Bool.true_and, Bool.not_true, Bool.not_false, Bool.and_false, Bool.false_and, Bool.or_false, Bool.or_true, decide_eq_true_eq, Bool.and_eq_true, decide_eq_false_iff_not]; first | done | omega) | (simp [sx_mc, sx_mb, sx_cm, sx_cb, sx_bm, sx_bc]; first | done | omega) | omega))) (fun _ _ => ?_)
      refine z_yes (by assumption) (yt_is (by (repeat' (first | with_reducible exact y_int | with_reducible exact y_str | (with_reducible show Y _ (tVar _) _ _; exact y_var rfl) | (with_reducible refine' y_eq _ _ _) | (with_reducible refine' y_ixT _ _ _) | with_reducible refine' y_ixL _ _ _ | with_reducible exact ya_nilD | with_reducible exact y_bl | with_reducible exact y_non | with_reducible exact yo_none | with_reducible exact yt_yes | with_reducible refine' yt_test _ | with_reducible refine' yt_B _ | with_reducible refine' yt_not _ | with_reducible refine' yt_and _ (fun _ => _) | with_reducible refine' yt_or _ (fun _ => _) | with_reducible refine' y_I0 _ _ | with_reducible refine' y_B0 _ _ | with_reducible refine' y_IC _ _ _ | with_reducible refine' y_parts (by assumption) _ | with_reducible refine' y_rows (by assumption) _ | with_reducible refine' ya_consD _ _ | with_reducible refine' y_tup _ (by simp) | with_reducible refine' y_lst _ (by simp) | (with_reducible show Y _ (tCB (rLen _) _) _ _; first | exact y_lenOwn rfl | exact y_lenSc (y_var rfl)) | with_reducible refine' y_len _ _ | with_reducible refine' y_ne _ _ _ | with_reducible refine' y_chain _ _ _ | with_reducible refine' y_andV _ (fun _ => _) | with_reducible refine' y_orV _ (fun _ => _) | with_reducible refine' y_isN _ | with_reducible refine' y_notN _ | exact rfl | (show _ = _; assumption) | exact atI_nat (by assumption) | (show CPow _ _; exact ⟨by decide, by decide, by decide⟩) | (show (0 : Int) < _; first | decide | omega) | (show CDiv _ _; exact ⟨by first | decide | omega, by first | decide | omega⟩) | (show CMul _ _; first | exact .inl ⟨by omega, by omega⟩ | exact .inr ⟨by omega, by omega⟩) ))) (by (first | rfl | (simp; done) | (simp only [sx_mc, sx_mb, sx_cm, sx_cb, sx_bm, sx_bc, decide_true, decide_false, Bool.and_true, Bool.true_and, Bool.not_true, Bool.not_false, Bool.and_false, Bool.false_and, Bool.or_false, Bool.or_true, decide_eq_true_eq, Bool.and_eq_true, decide_eq_false_iff_not]; first | done | omega) | (simp [sx_mc, sx_mb, sx_cm, sx_cb, sx_bm, sx_bc]; first | done | omega) | omega))) (fun _ _ => ?_)
      exact z_ret (by assumption) (y_tup (ya_consD y_str (ya_consD (y_ixL (y_var rfl) (by (repeat' (first | with_reducible exact y_int | with_reducible exact y_str | (with_reducible show Y _ (tVar _) _ _; exact y_var rfl) | (with_reducible refine' y_eq _ _ _) | (with_reducible refine' y_ixT _ _ _) | with_reducible refine' y_ixL _ _ _ | with_reducible exact ya_nilD | with_reducible exact y_bl | with_reducible exact y_non | with_reducible exact yo_none | with_reducible exact yt_yes | with_reducible refine' yt_test _ | with_reducible refine' yt_B _ | with_reducible refine' yt_not _ | with_reducible refine' yt_and _ (fun _ => _) | with_reducible refine' yt_or _ (fun _ => _) | with_reducible refine' y_I0 _ _ | with_reducible refine' y_B0 _ _ | with_reducible refine' y_IC _ _ _ | with_reducible refine' y_parts (by assumption) _ | with_reducible refine' y_rows (by assumption) _ | with_reducible refine' ya_consD _ _ | with_reducible refine' y_tup _ (by simp) | with_reducible refine' y_lst _ (by simp) | (with_reducible show Y _ (tCB (rLen _) _) _ _; first | exact y_lenOwn rfl | exact y_lenSc (y_var rfl)) | with_reducible refine' y_len _ _ | with_reducible refine' y_ne _ _ _ | with_reducible refine' y_chain _ _ _ | with_reducible refine' y_andV _ (fun _ => _) | with_reducible refine' y_orV _ (fun _ => _) | with_reducible refine' y_isN _ | with_reducible refine' y_notN _ | exact rfl | (show _ = _; assumption) | exact atI_nat (by assumption) | (show CPow _ _; exact ⟨by decide, by decide, by decide⟩) | (show (0 : Int) < _; first | decide | omega) | (show CDiv _ _; exact ⟨by first | decide | omega, by first | decide | omega⟩) | (show CMul _ _; first | exact .inl ⟨by omega, by omega⟩ | exact .inr ⟨by omega, by omega⟩) ))) (at_pl ok hp)) ya_nilD)) (by simp)) k
    | bin b =>
      refine z_no (by assumption) (yt_is (by (repeat' (first | with_reducible exact y_int | with_reducible exact y_str | (with_reducible show Y _ (tVar _) _ _; exact y_var rfl) | (with_reducible refine' y_eq _ _ _) | (with_reducible refine' y_ixT _ _ _) | with_reducible refine' y_ixL _ _ _ | with_reducible exact ya_nilD | with_reducible exact y_bl | with_reducible exact y_non | with_reducible exact yo_none | with_reducible exact yt_yes | with_reducible refine' yt_test _ | with_reducible refine' yt_B _ | with_reducible refine' yt_not _ | with_reducible refine' yt_and _ (fun _ => _) | with_reducible refine' yt_or _ (fun _ => _) | with_reducible refine' y_I0 _ _ | with_reducible refine' y_B0 _ _ | with_reducible refine' y_IC _ _ _ | with_reducible refine' y_parts (by assumption) _ | with_reducible refine' y_rows (by assumption) _ | with_reducible refine' ya_consD _ _ | with_reducible refine' y_tup _ (by simp) | with_reducible refine' y_lst _ (by simp) | (with_reducible show Y _ (tCB (rLen _) _) _ _; first | exact y_lenOwn rfl | exact y_lenSc (y_var rfl)) | with_reducible refine' y_len _ _ | with_reducible refine' y_ne _ _ _ | with_reducible refine' y_chain _ _ _ | with_reducible refine' y_andV _ (fun _ => _) | with_reducible refine' y_orV _ (fun _ => _) | with_reducible refine' y_isN _ | with_reducible refine' y_notN _ | exact rfl | (show _ = _; assumption) | exact atI_nat (by assumption) | (show CPow _ _; exact ⟨by decide, by decide, by decide⟩) | (show (0 : Int) < _; first | decide | omega) | (show CDiv _ _; exact ⟨by first | decide | omega, by first | decide | omega⟩) | (show CMul _ _; first | exact .inl ⟨by omega, by omega⟩ | exact .inr ⟨by omega, by omega⟩) ))) (by (first | rfl | (simp; done) | (simp only [sx_mc, sx_mb, sx_cm, sx_cb, sx_bm, sx_bc, decide_true, decide_false, Bool.and_true, Bool.true_and, Bool.not_true, Bool.not_false, Bool.and_false, Bool.false_and, Bool.or_false, Bool.or_true, decide_eq_true_eq, Bool.and_eq_true, decide_eq_false_iff_not]; first | done | omega) | (simp [sx_mc, sx_mb, sx_cm, sx_cb, sx_bm, sx_bc]; first | done | omega) | omega))) (fun _ _ => ?_)
      refine z_no (by assumption) (yt_is (by (repeat' (first | with_reducible exact y_int | with_reducible exact y_str | (with_reducible show Y _ (tVar _) _ _; exact y_var rfl) | (with_reducible refine' y_eq _ _ _) | (with_reducible refine' y_ixT _ _ _) | with_reducible refine' y_ixL _ _ _ | with_reducible exact ya_nilD | with_reducible exact y_bl | with_reducible exact y_non | with_reducible exact yo_none | with_reducible exact yt_yes | with_reducible refine' yt_test _ | with_reducible refine' yt_B _ | with_reducible refine' yt_not _ | with_reducible refine' yt_and _ (fun _ => _) | with_reducible refine' yt_or _ (fun _ => _) | with_reducible refine' y_I0 _ _ | with_reducible refine' y_B0 _ _ | with_reducible refine' y_IC _ _ _ | with_reducible refine' y_parts (by assumption) _ | with_reducible refine' y_rows (by assumption) _ | with_reducible refine' ya_consD _ _ | with_reducible refine' y_tup _ (by simp) | with_reducible refine' y_lst _ (by simp) | (with_reducible show Y _ (tCB (rLen _) _) _ _; first | exact y_lenOwn rfl | exact y_lenSc (y_var rfl)) | with_reducible refine' y_len _ _ | with_reducible refine' y_ne _ _ _ | with_reducible refine' y_chain _ _ _ | with_reducible refine' y_andV _ (fun _ => _) | with_reducible refine' y_orV _ (fun _ => _) | with_reducible refine' y_isN _ | with_reducible refine' y_notN _ | exact rfl | (show _ = _; assumption) | exact atI_nat (by assumption) | (show CPow _ _; exact ⟨by decide, by decide, by decide⟩) | (show (0 : Int) < _; first | decide | omega) | (show CDiv _ _; exact ⟨by first | decide | omega, by first | decide | omega⟩) | (show CMul _ _; first | exact .inl ⟨by omega, by omega⟩ | exact .inr ⟨by omega, by omega⟩) ))) (by (first | rfl | (simp; done) | (simp only [sx_mc, sx_mb, sx_cm, sx_cb, sx_bm, sx_bc, decide_true, decide_false, Bool.and_true, Bool.true_and, Bool.not_true, Bool.not_false, Bool.and_false, Bool.false_and, Bool.or_false, Bool.or_true, decide_eq_true_eq, Bool.and_eq_true, decide_eq_false_iff_not]; first | done | omega) | (simp [sx_mc, sx_mb, sx_cm, sx_cb, sx_bm, sx_bc]; first | done | omega) | omega))) (fun _ _ => ?_)
      exact z_ret (by assumption) (y_var rfl) k
end
end MW

/-! F8 -/
set_option Elab.async false
set_option linter.all false
set_option maxRecDepth 100000
set_option maxHeartbeats 400000
namespace MW
open PySem PySem.Spec L2

/-! ### a works behind a bin -/
abbrev isB (b : Int) (row : Rw) : Bool := decide (row = .bin b)
theorem eqv_row (row : Rw) (b : Int) : PyData.eqv (rowD row) (.tuple [.str "bin", .int b]) = isB b row := by
  cases row with
  | mesh c u o =>
    show PyData.eqvAll _ _ = decide _
    simp [PyData.eqvAll, PyData.eqv, sx_mb]
  | crush t =>
    show PyData.eqvAll _ _ = decide _
    have h : ((Str.ofString "crush") == (Str.ofString "bin")) = false := by decide +kernel
    simp [PyData.eqvAll, PyData.eqv, h]
  | bin d =>
    show PyData.eqvAll _ _ = decide _
    simp [PyData.eqvAll, PyData.eqv]
    rw [Bool.eq_iff_iff]; simp
theorem strk1 : PyData.strOk (Str.ofString "mesh") = true := by decide +kernel
theorem strk2 : PyData.strOk (Str.ofString "crush") = true := by decide +kernel
theorem strk3 : PyData.strOk (Str.ofString "bin") = true := by decide +kernel
theorem shaped_row (row : Rw) : SeqAt.shaped (rowD row) = true := by
  cases row <;> (unfold SeqAt.shaped; simp [PyData.canLay0, PyData.canLayAll0, PyData.depth, PyData.depthAll, strk1, strk2, strk3])
theorem nod_row (row : Rw) : NoD (rowD row) = true := by
  cases row <;> rfl
def keptR (rows : List Rw) (b : Int) : List Rw := rows.filter fun row => !isB b row
def plcN (rows : List Rw) (b : Int) : Nat → List Int
  | 0 => []
  | i + 1 => plcN rows b i ++ [if rows[i]? = some (.bin b) then ((keptR rows b).length : Int) else (i : Int) - (((plcN rows b i).count ((keptR rows b).length : Int) : Nat) : Int)]
theorem plcN_len (rows : List Rw) (b : Int) : ∀ i, (plcN rows b i).length = i
  | 0 => rfl
  | i + 1 => by
    unfold plcN
    rw [List.length_append, plcN_len rows b i]; rfl
def plc (rows : List Rw) (b : Int) : List Int := plcN rows b rows.length
/-- in the first rows: where a row goes -/
theorem plcN_facts (rows : List Rw) (b : Int) : ∀ i, i ≤ rows.length → (plcN rows b i).count ((keptR rows b).length : Int) = ((rows.take i).filter (isB b)).length ∧
    ∀ j row, j < i → rows[j]? = some row → (plcN rows b i)[j]? = some (if row = .bin b then ((keptR rows b).length : Int) else (((rows.take j).filter fun r => !isB b r).length : Nat))
  | 0, _ => ⟨rfl, fun j row h => absurd h (Nat.not_lt_zero j)⟩
  | i + 1, hi => by
    obtain ⟨h1, h2⟩ := plcN_facts rows b i (by omega)
    have hr : rows[i]? = some rows[i] := by simp
    have split : i = ((rows.take i).filter (isB b)).length + ((rows.take i).filter fun r => !isB b r).length := by
      have := List.length_eq_countP_add_countP (isB b) (l := rows.take i)
      rw [List.length_take, List.countP_eq_length_filter, List.countP_eq_length_filter] at this
      have e : (fun a => decide ¬isB b a = true) = fun r => !isB b r := by
        funext r; cases isB b r <;> rfl
      rw [e] at this
      omega
    have lt : ∀ row, rows[i]? = some row → row ≠ .bin b → ((rows.take i).filter fun r => !isB b r).length < (keptR rows b).length := fun row e ne => by
      have e2 : rows = rows.take i ++ rows[i] :: rows.drop (i + 1) := by
        rw [← List.drop_eq_getElem_cons (by omega), List.take_append_drop]
      rw [hr] at e
      cases e
      unfold keptR
      conv => rhs; rw [e2]
      rw [List.filter_append, List.filter_cons, if_pos (by simp [ne]), List.length_append, List.length_cons]
      omega
    have step : plcN rows b (i + 1) = plcN rows b i ++ [if rows[i]? = some (.bin b) then ((keptR rows b).length : Int) else (i : Int) - (((plcN rows b i).count ((keptR rows b).length : Int) : Nat) : Int)] := rfl
    by_cases hb : rows[i] = .bin b
    · have hc : rows[i]? = some (.bin b) := by rw [hr, hb]
      rw [if_pos hc] at step
      refine ⟨?_, fun j row hj e => ?_⟩
      · rw [step, List.count_append, h1, List.take_add_one, hr, List.filter_append, List.length_append]
        simp [hb]
      · rw [step]
        by_cases hji : j < i
        · rw [List.getElem?_append_left (by rw [plcN_len]; exact hji)]
          exact h2 j row hji e
        · have : j = i := by omega
          subst this
          rw [List.getElem?_append_right (by rw [plcN_len]; exact Nat.le_refl _), plcN_len, Nat.sub_self]
          rw [hc] at e
          cases e
          rw [if_pos rfl]; rfl
    · have hc : ¬ rows[i]? = some (.bin b) := by rw [hr]; simpa using hb
      rw [if_neg hc, h1] at step
      have ei : (i : Int) - ((((rows.take i).filter (isB b)).length : Nat) : Int) = (((rows.take i).filter fun r => !isB b r).length : Nat) := by omega
      rw [ei] at step
      have l := lt _ hr hb
      refine ⟨?_, fun j row hj e => ?_⟩
      · rw [step, List.count_append, h1, List.take_add_one, hr, List.filter_append, List.length_append]
        have : ¬ ((((rows.take i).filter fun r => !isB b r).length : Nat) : Int) = ((keptR rows b).length : Int) := by omega
        simp [hb, List.count_cons, this]
      · rw [step]
        by_cases hji : j < i
        · rw [List.getElem?_append_left (by rw [plcN_len]; exact hji)]
          exact h2 j row hji e
        · have : j = i := by omega
          subst this
          rw [List.getElem?_append_right (by rw [plcN_len]; exact Nat.le_refl _), plcN_len, Nat.sub_self]
          rw [hr] at e
          cases e
          rw [if_neg hb]; rfl
theorem plc_nonneg (rows : List Rw) (b : Int) : ∀ z ∈ plc rows b, 0 ≤ z := fun z hz => by
  obtain ⟨j, hj⟩ := List.mem_iff_getElem?.mp hz
  have hl : j < rows.length := by
    have := (List.getElem?_eq_some_iff.mp hj).1
    unfold plc at this
    rw [plcN_len] at this; exact this
  have := (plcN_facts rows b rows.length (Nat.le_refl _)).2 j rows[j] hl (by simp)
  unfold plc at hj
  rw [hj] at this
  cases this
  split <;> omega
def furt (rows : List Rw) (b : Int) (n : Nat) : List Int := (List.range n).map fun k => ((keptR rows b).length : Int) + (k : Nat)
/-- the works behind -/
def behindR (one : List Rw) (b : Int) (other : List Rw) : List Rw := if one[0]? = some (.bin b) then other else (keptR one b).map (movR (plc one b)) ++ other.map (movR (furt one b other.length))
section
variable {P : Program} {w : World} {K : PySem.W.Frag} {mg : Str → Option Value} {base : Heap}
theorem y_isB {R : Res} {G : Ctx} {ta tb : TE} {row : Rw} {b : Int} (ha : Y R ta G (D (rowD row))) (hb : Y R tb G (D (.int b))) : Y R (tOp (rEqD K) ta (tTup (tCons (tC (.str "bin")) (tCons tb tNil)))) G (D (.bool (isB b row))) :=
  y_is (y_eqD ha (y_tup (ds := [.str "bin", .int b]) (ya_consD y_str (ya_consD hb ya_nilD)) (by simp)) (nod_row row) rfl (shaped_row row) (shaped_row (.bin b))) (by rw [eqv_row])
theorem y_isnB {R : Res} {G : Ctx} {ta tb : TE} {row : Rw} {b : Int} (ha : Y R ta G (D (rowD row))) (hb : Y R tb G (D (.int b))) : Y R (tOp (rNeD K) ta (tTup (tCons (tC (.str "bin")) (tCons tb tNil)))) G (D (.bool (!isB b row))) :=
  y_is (y_neD ha (y_tup (ds := [.str "bin", .int b]) (ya_consD y_str (ya_consD hb ya_nilD)) (by simp)) (nod_row row) rfl (shaped_row row) (shaped_row (.bin b))) (by rw [eqv_row])
theorem y_countOwn {R : Res} {G : Ctx} {ta : TE} {n : Nat} {ns : List Int} {k : Int} (h : G[n]? = some (.own (ns.map .int))) (ha : Y R ta G (D (.int k))) : Y R (tBM K "list" (rCntI K) (tVar n) (tCons ta tNil)) G (D (.int (ns.count k : Nat))) := fun H0 Hb H σ E rr s Q q => by
  obtain ⟨l, vs, e1, e2, e3, e4, e5⟩ := E.ent _ _ h
  rw [DvAll.ints.mp e5] at e2
  refine ⟨_, e1, .inl ⟨rfl, _, .inl (.inl e2)⟩, ha H0 Hb H σ E rr s _ fun v Hb2 H2 g p => ?_⟩
  obtain rfl : v = .int k := p
  exact ⟨l, ns, k, rfl, rfl, .inl (.inl (g.al _ _ e2)), q _ Hb2 H2 g rfl⟩
def sp_behind (K : PySem.W.Frag) : Sp := fun vs H Q E => ∃ (p : Int) (one other : List Rw) (b : Int), (2 ≤ p ∧ p ≤ 9 ∧ 1 ≤ one.length ∧ one.length ≤ 12 ∧ 1 ≤ other.length ∧ other.length ≤ 12 ∧ RowsOk one ∧ RowsOk other ∧ RowsOk (behindR one b other) ∧ (¬ one[0]? = some (.bin b) → (keptR one b).length + other.length ≤ 12)) ∧ spP [Ws K p one, D (.int b), Ws K p other] (Ws K p (behindR one b other)) vs H Q E
theorem ok_behind (T : Tx K mg) : Cal P w K mg base 4 "behind" ["one", "number", "other"] (sp_behind K) := by
  have M_Works := mk_Works (P := P) (w := w) (base := base) T
  have C_moved := ok_moved (P := P) (w := w) (base := base) T
  obtain ⟨fd, F⟩ := T.c.def_ 9 (d := d_behind) rfl
  refine ⟨_, fd, T.g_behind, F.kp, FunD.bindsN (ps := ["one", "number", "other"]) F fun _ _ _ _ _ _ us hl => match us, hl with | [_, _, _], _ => rfl, def_ok F sc_behind ?_ fun cdv A outer s H vs Q E hr h => ?_⟩
  · intro vs H Q E h
    obtain ⟨_, _, _, _, _, h⟩ := h
    exact h.len
  · obtain ⟨p, one, other, b, ok, Hb, sm, ha, k⟩ := h
    have c := start_cur (N := N_behind) (k := 5) sm ha (by repeat' (first | exact trivial | exact mono_D _ | exact mono_Ws | exact mono_Sc | refine ⟨?_, ?_⟩)) rfl
    refine ⟨_, (pss_cons (ps_if (pt_cmpR op_ne (pe_fldK (K := K) rfl (pv 0) rfl) (pe_fldK (K := K) rfl (pv 2) rfl) (nomark _))
    pss_never
    pss_nil)
  (pss_cons (ps_if (pt_cmpR (kEqD (K := K) rfl hr.units) (pe_ix (kxL (K := K) rfl) (pe_fldK (K := K) rfl (pv 0) rfl) pe_int (fun _ _ => rfl)) (pe_tup (pa_cons pe_str (pa_cons (pv 1) pa_nil))) (nomark _))
    (pss_one (ps_ret (pe_mk M_Works (hr.mono (by decide)) (by rfl) (pa_cons (pe_fldK (K := K) rfl (pv 2) rfl) (pa_cons (pe_fldK (K := K) rfl (pv 2) rfl) pa_nil)))))
    pss_nil)
  (pss_cons (ps_set (i := 3) sc_behind.nd rfl (Or.inr rfl) (pe_lc (own := [("row", 5)]) (g := (gName 5)) rfl sc_behind.nd (pi_listK (K := K) rfl (pe_fldK (K := K) rfl (pv 0) rfl)) (blkOk_by (own := [("row", 5)]) (N := N_behind) (sc := defScope s_behind) (by decide +kernel)) (fun _ _ _ _ _ => (pg_name (i := 5) sc_behind.nd rfl (Or.inl rfl))) (fun _ _ _ _ _ => (pts_one (pt_cmpR (kNeD (K := K) rfl hr.units) (pv 5) (pe_tup (pa_cons pe_str (pa_cons (pv 1) pa_nil))) (nomark _)))) (fun _ _ _ _ _ => (pv 5))))
  (pss_cons (ps_if (pt_cmpR op_gt (pe_op op_add (pe_callB (kLen (K := K) rfl) (by rfl) T.len bb_len (pa_cons (pv 3) pa_nil)) (pe_callB (kLen (K := K) rfl) (by rfl) T.len bb_len (pa_cons (pe_fldK (K := K) rfl (pv 2) rfl) pa_nil))) (pe_mint T.MOST_ROWS (by rfl)) (nomark _))
    pss_never
    pss_nil)
  (pss_cons (ps_set (i := 4) sc_behind.nd rfl (Or.inr rfl) (pe_lst pa_nil))
  (pss_cons (ps_for PassesOwn.never rfl (pi_listK (K := K) rfl (pe_fldK (K := K) rfl (pv 0) rfl)) (pg_name (i := 5) sc_behind.nd rfl (Or.inl rfl))
    (pss_one (ps_if (pt_cmpR (kEqD (K := K) rfl hr.units) (pv 5) (pe_tup (pa_cons pe_str (pa_cons (pv 1) pa_nil))) (nomark _))
    (pss_one (ps_expr (pe_bmK (K := K) rfl PySem.F.plainAttrs_list PySem.F.slot_list_append PySem.F.type_list_append mt_append (pv 4) (pa_cons (pe_callB (kLen (K := K) rfl) (by rfl) T.len bb_len (pa_cons (pv 3) pa_nil)) pa_nil))))
    (pss_one (ps_expr (pe_bmK (K := K) rfl PySem.F.plainAttrs_list PySem.F.slot_list_append PySem.F.type_list_append mt_append (pv 4) (pa_cons (pe_op op_sub (pe_callB (kLen (K := K) rfl) (by rfl) T.len bb_len (pa_cons (pv 4) pa_nil)) (pe_bmK (K := K) rfl PySem.F.plainAttrs_list PySem.F.slot_list_count PySem.F.type_list_count (kCount (K := K) rfl) (pv 4) (pa_cons (pe_callB (kLen (K := K) rfl) (by rfl) T.len bb_len (pa_cons (pv 3) pa_nil)) pa_nil))) pa_nil)))))))
  (pss_cons (ps_set (i := 6) sc_behind.nd rfl (Or.inr rfl) (pe_lc (own := [("k", 7)]) (g := (gName 7)) rfl sc_behind.nd (pi_range1 (by rfl) T.range (pa_cons (pe_callB (kLen (K := K) rfl) (by rfl) T.len bb_len (pa_cons (pe_fldK (K := K) rfl (pv 2) rfl) pa_nil)) pa_nil)) (blkOk_by (own := [("k", 7)]) (N := N_behind) (sc := defScope s_behind) (by decide +kernel)) (fun _ _ _ _ _ => (pg_name (i := 7) sc_behind.nd rfl (Or.inl rfl))) (fun _ _ _ _ _ => pts_nil) (fun _ _ _ _ _ => (pe_op op_add (pe_callB (kLen (K := K) rfl) (by rfl) T.len bb_len (pa_cons (pv 3) pa_nil)) (pv 7)))))
  (pss_one (ps_ret (pe_mk M_Works (hr.mono (by decide)) (by rfl) (pa_cons (pe_fldK (K := K) rfl (pv 0) rfl) (pa_cons (pe_op op_cat (pe_lc (own := [("row", 5)]) (g := (gName 5)) rfl sc_behind.nd (pi_listK (K := K) rfl (pv 3)) (blkOk_by (own := [("row", 5)]) (N := N_behind) (sc := defScope s_behind) (by decide +kernel)) (fun _ _ _ _ _ => (pg_name (i := 5) sc_behind.nd rfl (Or.inl rfl))) (fun _ _ _ _ _ => pts_nil) (fun _ _ _ _ _ => (pe_cal C_moved (hr.mono (by decide)) (by rfl) (pa_cons (pv 5) (pa_cons (pv 4) pa_nil))))) (pe_lc (own := [("row", 5)]) (g := (gName 5)) rfl sc_behind.nd (pi_listK (K := K) rfl (pe_fldK (K := K) rfl (pv 2) rfl)) (blkOk_by (own := [("row", 5)]) (N := N_behind) (sc := defScope s_behind) (by decide +kernel)) (fun _ _ _ _ _ => (pg_name (i := 5) sc_behind.nd rfl (Or.inl rfl))) (fun _ _ _ _ _ => pts_nil) (fun _ _ _ _ _ => (pe_cal C_moved (hr.mono (by decide)) (by rfl) (pa_cons (pv 5) (pa_cons (pv 6) pa_nil)))))) pa_nil)))))))))))), ?_⟩
    obtain ⟨p1, p2, l1, l2, m1, m2, ok1, ok2, ok3, hk⟩ := ok
    have kl : (keptR one b).length ≤ one.length := List.length_filter_le _ _
    refine z_no c (yt_is (yt_test (y_ne (d := .int p) (e := .int p) (y_parts T (y_var rfl)) (y_parts T (y_var rfl)) rfl)) (by simp [eqd])) fun H1 c1 => ?_
    have h0 : one[0]? = some one[0] := by simp
    have ix0 : atI (one.map rowD) 0 = some (rowD one[0]) := atI_nat (j := 0) (by rw [List.getElem?_map, h0]; rfl)
    refine z_when (b := isB b one[0]) c1 (yt_test (y_isB (y_ixL (y_rows T (y_var rfl)) y_int ix0) (y_var rfl))) (fun hb H2 c2 => ?_) (fun hb H2 c2 => ?_)
    · have e : one[0]? = some (.bin b) := by rw [h0, of_decide_eq_true hb]
      unfold behindR at k
      rw [if_pos e] at k
      exact z_ret c2 (y_works (y_parts T (y_var rfl)) (y_rows T (y_var rfl)) ⟨p1, p2, m1, m2, ok2⟩) k
    · have e : ¬ one[0]? = some (.bin b) := by rw [h0]; simpa using of_decide_eq_false hb
      have hk := hk e
      unfold behindR at k ok3
      rw [if_neg e] at k ok3
      refine q_asgD c2 (d := rowsD (keptR one b)) (y_lcL (xs := one) (enc := rowD) (e := rowD) (b := fun row => !isB b row) (fun x => [.p (Ws K p one), .p (D (.int b)), .p (Ws K p other), .no, .no, .p (D (rowD x)), .no, .no]) (y_rows T (y_var rfl)) (by omega) (fun x _ => yg_name) (fun x _ => yt_test (y_isnB (y_var rfl) (y_var rfl))) (fun x _ _ => y_var rfl)) fun σ3 H3 c3 => ?_
      refine z_no c3 (yt_is (y_B0_t (y_I0 (y_lenRows (y_var rfl)) (y_lenRows (y_rows T (y_var rfl)))) y_int) (by simp; omega)) fun H4 c4 => ?_
      refine q_new c4 fun σ5 H5 c5 => ?_
      refine q_forL (xs := one) (enc := rowD) (vs := [5]) c5 (y_rows T (y_var rfl)) (fun i => [.p (Ws K p one), .p (D (.int b)), .p (Ws K p other), .p (D (rowsD (keptR one b))), .own ((plcN one b i).map .int), .no, .no, .no]) (fun i x => [.p (Ws K p one), .p (D (.int b)), .p (Ws K p other), .p (D (rowsD (keptR one b))), .own ((plcN one b i).map .int), .p (D (rowD x)), .no, .no]) (fun _ _ c => c) (fun i x _ => yg_name) (fun Hb1 _ i x hx σ6 H6 c6 => ?_) (fun σ6 H6 c6 => ?_)
      · have hl := plcN_len one b i
        have hi := (List.getElem?_eq_some_iff.mp hx).1
        have en : (plcN one b (i + 1)).map PyData.int = (plcN one b i).map .int ++ [.int (if isB b x then ((keptR one b).length : Int) else (i : Int) - (((plcN one b i).count ((keptR one b).length : Int) : Nat) : Int))] := by
          show (plcN one b i ++ _).map PyData.int = _
          rw [List.map_append, hx]
          simp
        rw [en]
        refine z_if (b := isB b x) c6 (yt_test (y_isB (y_var rfl) (y_var rfl))) (fun hb H7 c7 => ?_) (fun hb H7 c7 => ?_)
        · rw [if_pos hb]
          refine z_app c7 rfl (y_lenRows (y_var rfl)) (by rw [List.length_map]; omega) fun σ8 H8 c8 => ?_
          exact c8.forget 5
        · rw [if_neg (by rw [hb]; simp)]
          refine z_app c7 rfl (y_is (y_I0 (y_lenOwn rfl) (y_countOwn rfl (y_lenRows (y_var rfl)))) (by rw [List.length_map, hl])) (by rw [List.length_map]; omega) fun σ8 H8 c8 => ?_
          exact c8.forget 5
      · have c6 := c6.freeze (n := 4) rfl
        refine q_asgD c6 (d := .list ((furt one b other.length).map .int)) (y_is (y_lcR (n := other.length) (b := fun _ => true) (e := fun k => .int (((keptR one b).length : Int) + (k : Nat))) (fun x => [.p (Ws K p one), .p (D (.int b)), .p (Ws K p other), .p (D (rowsD (keptR one b))), .p (D (.list ((plcN one b one.length).map .int))), .no, .no, .p (D (.int (x : Nat)))]) (y_lenRows (y_rows T (y_var rfl))) (by omega) (fun x _ => yg_name) (fun x _ => yt_yes) (fun x _ _ => y_I0 (y_lenRows (y_var rfl)) (y_var rfl))) ?_) fun σ7 H7 c7 => ?_
        · rw [List.filter_eq_self.mpr (fun _ _ => rfl)]
          unfold furt
          rw [List.map_map]; rfl
        · have pl : (plc one b).length = one.length := plcN_len one b one.length
          have fl : (furt one b other.length).length = other.length := by unfold furt; rw [List.length_map, List.length_range]
          have fp : ∀ z ∈ furt one b other.length, 0 ≤ z := fun z hz => by
            unfold furt at hz
            obtain ⟨k, _, rfl⟩ := List.mem_map.mp hz
            omega
          refine z_ret c7 (y_works (y_parts T (y_var rfl)) (y_is (y_cat (ds := ((keptR one b).map (movR (plc one b))).map rowD) (es := (other.map (movR (furt one b other.length))).map rowD) (y_is (y_lcL (xs := keptR one b) (enc := rowD) (e := fun row => rowD (movR (plc one b) row)) (b := fun _ => true) (fun x => [.p (Ws K p one), .p (D (.int b)), .p (Ws K p other), .p (D (rowsD (keptR one b))), .p (D (.list ((plcN one b one.length).map .int))), .p (D (rowD x)), .p (D (.list ((furt one b other.length).map .int))), .no]) (y_var rfl) (by omega) (fun x _ => yg_name) (fun x _ => yt_yes) (fun x hx _ => y_call (As := [D (rowD x), D (.list ((plc one b).map .int))]) (ya_cons (y_var rfl) (mono_D _) (ya_cons (y_var rfl) (mono_D _) ya_nil)) fun vs H Q h => ⟨x, plc one b, ⟨by rw [pl]; exact ok1 x (List.mem_filter.mp hx).1, plc_nonneg one b⟩, h⟩)) ?_) (y_is (y_lcL (xs := other) (enc := rowD) (e := fun row => rowD (movR (furt one b other.length) row)) (b := fun _ => true) (fun x => [.p (Ws K p one), .p (D (.int b)), .p (Ws K p other), .p (D (rowsD (keptR one b))), .p (D (.list ((plcN one b one.length).map .int))), .p (D (rowD x)), .p (D (.list ((furt one b other.length).map .int))), .no]) (y_rows T (y_var rfl)) (by omega) (fun x _ => yg_name) (fun x _ => yt_yes) (fun x hx _ => y_call (As := [D (rowD x), D (.list ((furt one b other.length).map .int))]) (ya_cons (y_var rfl) (mono_D _) (ya_cons (y_var rfl) (mono_D _) ya_nil)) fun vs H Q h => ⟨x, furt one b other.length, ⟨by rw [fl]; exact ok2 x hx, fp⟩, h⟩)) ?_) (by simp; omega)) (by rw [rowsD, List.map_append])) ⟨p1, p2, by simp; omega, by simp; omega, ok3⟩) k
          · rw [List.filter_eq_self.mpr (fun _ _ => rfl), List.map_map]; rfl
          · rw [List.filter_eq_self.mpr (fun _ _ => rfl), List.map_map]; rfl
end
end MW

/-! G1 -/
set_option Elab.async false
set_option linter.all false
set_option maxRecDepth 100000
set_option maxHeartbeats 400000
namespace MW
open PySem PySem.Spec L2
/-! ### lists of pairs of ints (the dicts from ints to ints) -/
def getI (l : List (Int × Int)) (k : Int) : Option Int := (l.find? fun q => decide (q.1 = k)).map (·.2)
def addI (l : List (Int × Int)) (k m : Int) : List (Int × Int) := match getI l k with
  | some v => l.map fun q => if q.1 = k then (k, v + m) else q
  | none => l ++ [(k, m)]
abbrev kvI (q : Int × Int) : Key × V := (Sum.inl q.1, .int q.2)
def sumF (l : List (Int × Int)) (f : Int → Int) : Int := (l.map fun q => q.2 * f q.1).sum
theorem sumF_nil (f : Int → Int) : sumF [] f = 0 := rfl
theorem sumF_cons (q : Int × Int) (l : List (Int × Int)) (f : Int → Int) : sumF (q :: l) f = q.2 * f q.1 + sumF l f := by
  unfold sumF; rw [List.map_cons, List.sum_cons]
theorem sumF_append (l m : List (Int × Int)) (f : Int → Int) : sumF (l ++ m) f = sumF l f + sumF m f := by
  unfold sumF; rw [List.map_append, List.sum_append]
theorem getI_none {l : List (Int × Int)} {k : Int} : getI l k = none ↔ k ∉ l.map (·.1) := by
  unfold getI
  rw [Option.map_eq_none_iff, List.find?_eq_none]
  constructor
  · intro h hm
    obtain ⟨q, h1, h2⟩ := List.mem_map.mp hm
    exact h q h1 (by simpa using h2)
  · intro h q hq e
    exact h (List.mem_map.mpr ⟨q, hq, by simpa using e⟩)
theorem getI_some {l : List (Int × Int)} {k v : Int} (h : getI l k = some v) : (k, v) ∈ l := by
  unfold getI at h
  cases e : l.find? fun q => decide (q.1 = k) with
  | none => rw [e] at h; cases h
  | some q =>
    rw [e] at h
    cases h
    have h1 := List.find?_some e
    have h2 := List.mem_of_find?_eq_some e
    have h3 : q.1 = k := by simpa using h1
    rw [← h3]; exact h2
theorem getI_nd {l : List (Int × Int)} {k v : Int} (hn : (l.map (·.1)).Nodup) (h : (k, v) ∈ l) : getI l k = some v := by
  induction l with
  | nil => cases h
  | cons q l ih =>
    rw [List.map_cons, List.nodup_cons] at hn
    unfold getI
    rw [List.find?_cons]
    by_cases e : q.1 = k
    · rw [decide_eq_true e]
      rcases List.mem_cons.mp h with h | h
      · rw [← h]; rfl
      · exact absurd (List.mem_map.mpr ⟨(k, v), h, e.symm⟩) hn.1
    · rw [decide_eq_false e]
      rcases List.mem_cons.mp h with h | h
      · rw [← h] at e; exact absurd rfl e
      · exact ih hn.2 h
theorem addI_keys (l : List (Int × Int)) (k m : Int) : (addI l k m).map (·.1) = if k ∈ l.map (·.1) then l.map (·.1) else l.map (·.1) ++ [k] := by
  unfold addI
  cases e : getI l k with
  | none =>
    rw [if_neg (getI_none.mp e)]
    show (l ++ [(k, m)]).map (·.1) = _
    rw [List.map_append]; rfl
  | some v =>
    have hk : k ∈ l.map (·.1) := List.mem_map.mpr ⟨_, getI_some e, rfl⟩
    rw [if_pos hk]
    show (l.map fun q => if q.1 = k then (k, v + m) else q).map (·.1) = _
    rw [List.map_map]
    refine List.map_congr_left fun q _ => ?_
    show (if q.1 = k then (k, v + m) else q).1 = q.1
    split
    · rename_i h; exact h.symm
    · rfl
theorem addI_nd {l : List (Int × Int)} {k m : Int} (h : (l.map (·.1)).Nodup) : ((addI l k m).map (·.1)).Nodup := by
  rw [addI_keys]
  split
  · exact h
  · rename_i hk
    rw [List.nodup_append]
    exact ⟨h, by simp, fun a ha b hb e => by
      rw [List.mem_singleton.mp hb] at e
      exact hk (e ▸ ha)⟩
theorem addI_mem {l : List (Int × Int)} {k m : Int} {q : Int × Int} (h : q ∈ addI l k m) : q ∈ l ∨ (q.1 = k ∧ ((∃ v, (k, v) ∈ l ∧ q.2 = v + m) ∨ q.2 = m)) := by
  unfold addI at h
  cases e : getI l k with
  | none =>
    rw [e] at h
    rcases List.mem_append.mp h with h | h
    · exact .inl h
    · rw [List.mem_singleton.mp h]; exact .inr ⟨rfl, .inr rfl⟩
  | some v =>
    rw [e] at h
    obtain ⟨q', h1, h2⟩ := List.mem_map.mp h
    by_cases hk : q'.1 = k
    · rw [if_pos hk] at h2
      subst h2
      exact .inr ⟨rfl, .inl ⟨v, getI_some e, rfl⟩⟩
    · rw [if_neg hk] at h2
      subst h2
      exact .inl h1
theorem addI_ne {l : List (Int × Int)} {k m : Int} : addI l k m ≠ [] := by
  unfold addI
  cases e : getI l k with
  | none => simp
  | some v =>
    intro h
    have := getI_some e
    cases l with
    | nil => cases this
    | cons a b => cases h
theorem addI_sum {l : List (Int × Int)} {k m : Int} {f : Int → Int} (hn : (l.map (·.1)).Nodup) : sumF (addI l k m) f = sumF l f + m * f k := by
  unfold addI
  cases e : getI l k with
  | none =>
    show sumF (l ++ [(k, m)]) f = _
    rw [sumF_append, sumF_cons, sumF_nil, Int.add_zero]
  | some v =>
    show sumF (l.map fun q => if q.1 = k then (k, v + m) else q) f = _
    have hm := getI_some e
    clear e
    induction l with
    | nil => cases hm
    | cons q l ih =>
      rw [List.map_cons, List.nodup_cons] at hn
      rw [List.map_cons, sumF_cons, sumF_cons]
      rcases List.mem_cons.mp hm with h | h
      · have hk : q.1 = k := by rw [← h]
        have hv : q.2 = v := by rw [← h]
        have rest : l.map (fun q => if q.1 = k then (k, v + m) else q) = l := by
          have : l.map (fun q => if q.1 = k then (k, v + m) else q) = l.map id := by
            refine List.map_congr_left fun x hx => ?_
            rw [if_neg (fun z => hn.1 (List.mem_map.mpr ⟨x, hx, by rw [z, hk]⟩))]; rfl
          rw [this, List.map_id]
        rw [rest, if_pos hk, hk, hv]
        show (v + m) * f k + sumF l f = v * f k + sumF l f + m * f k
        rw [Int.add_mul]; omega
      · have hk : ¬ q.1 = k := fun z => hn.1 (List.mem_map.mpr ⟨(k, v), h, z.symm⟩)
        rw [if_neg hk, ih hn.2 h]
        omega
/-- the model's dict behind d[k] = d.get(k, 0) + m -/
theorem valV_kvI (l : List (Int × Int)) (k : Int) : valV (l.map kvI) (Sum.inl k : Key) = (getI l k).map V.int := by
  unfold valV getI
  rw [List.find?_map]
  have e : ((fun kv : Key × V => decide (kv.1 = (Sum.inl k : Key))) ∘ kvI) = fun q : Int × Int => decide (q.1 = k) := by
    funext q
    show decide ((Sum.inl q.1 : Key) = Sum.inl k) = decide (q.1 = k)
    rw [key_ll]
    rw [Bool.eq_iff_iff]; simp
  rw [e]
  cases l.find? fun q : Int × Int => decide (q.1 = k) <;> rfl
theorem putK_kvI (l : List (Int × Int)) (k m : Int) : putK (l.map kvI) (Sum.inl k : Key) (.int ((getI l k).getD 0 + m)) = (addI l k m).map kvI := by
  unfold addI
  cases e : getI l k with
  | none =>
    have := valV_kvI l k
    rw [e] at this
    rw [putK_new _ this]
    show _ = (l ++ [(k, m)]).map kvI
    rw [List.map_append]
    simp
  | some v =>
    unfold putK
    have h := valV_kvI l k
    rw [e] at h
    have h2 := valV_any (Sum.inl k : Key) (l.map kvI)
    rw [h] at h2
    rw [if_pos (by rw [h2]; rfl), List.map_map]
    show _ = (l.map fun q => if q.1 = k then (k, v + m) else q).map kvI
    rw [List.map_map]
    refine List.map_congr_left fun q _ => ?_
    show (if (Sum.inl q.1 : Key) = Sum.inl k then ((Sum.inl q.1 : Key), V.int (v + m)) else kvI q) = kvI (if q.1 = k then (k, v + m) else q)
    by_cases hk : q.1 = k
    · rw [if_pos hk, if_pos (by rw [hk]), hk]
    · rw [if_neg hk, if_neg (fun z => hk (Sum.inl.inj z))]
/-! ### the flow's state -/
abbrev PL := List (Int × Addr × List (Int × Int))
abbrev pvE (e : Int × Addr × List (Int × Int)) : Key × V := (Sum.inl e.1, .ref e.2.1)
/-- an item of a dict of dicts -/
def getP (l : PL) (k : Int) : Option (Addr × List (Int × Int)) := (l.find? fun e => decide (e.1 = k)).map (·.2)
theorem getP_none {l : PL} {k : Int} : getP l k = none ↔ k ∉ l.map (·.1) := by
  unfold getP
  rw [Option.map_eq_none_iff, List.find?_eq_none]
  constructor
  · intro h hm
    obtain ⟨q, h1, h2⟩ := List.mem_map.mp hm
    exact h q h1 (by simpa using h2)
  · intro h q hq e
    exact h (List.mem_map.mpr ⟨q, hq, by simpa using e⟩)
theorem getP_some {l : PL} {k : Int} {v : Addr × List (Int × Int)} (h : getP l k = some v) : (k, v) ∈ l := by
  unfold getP at h
  cases e : l.find? fun q => decide (q.1 = k) with
  | none => rw [e] at h; cases h
  | some q =>
    rw [e] at h
    cases h
    have h1 := List.find?_some e
    have h2 := List.mem_of_find?_eq_some e
    have h3 : q.1 = k := by simpa using h1
    rw [← h3]; exact h2
theorem getP_nd {l : PL} {k : Int} {v : Addr × List (Int × Int)} (hn : (l.map (·.1)).Nodup) (h : (k, v) ∈ l) : getP l k = some v := by
  induction l with
  | nil => cases h
  | cons q l ih =>
    rw [List.map_cons, List.nodup_cons] at hn
    unfold getP
    rw [List.find?_cons]
    by_cases e : q.1 = k
    · rw [decide_eq_true e]
      rcases List.mem_cons.mp h with h | h
      · rw [← h]; rfl
      · exact absurd (List.mem_map.mpr ⟨(k, v), h, e.symm⟩) hn.1
    · rw [decide_eq_false e]
      rcases List.mem_cons.mp h with h | h
      · rw [← h] at e; exact absurd rfl e
      · exact ih hn.2 h
theorem valV_pvE (l : PL) (k : Int) : valV (l.map pvE) (Sum.inl k : Key) = (getP l k).map fun v => V.ref v.1 := by
  unfold valV getP
  rw [List.find?_map]
  have e : ((fun kv : Key × V => decide (kv.1 = (Sum.inl k : Key))) ∘ pvE) = fun q : Int × Addr × List (Int × Int) => decide (q.1 = k) := by
    funext q
    show decide ((Sum.inl q.1 : Key) = Sum.inl k) = decide (q.1 = k)
    rw [key_ll]
    rw [Bool.eq_iff_iff]; simp
  rw [e]
  cases l.find? fun q : Int × Addr × List (Int × Int) => decide (q.1 = k) <;> rfl
/-- what stands at k gets m at r -/
def modP (l : PL) (k r m : Int) : PL := l.map fun e => if e.1 = k then (e.1, e.2.1, addI e.2.2 r m) else e
def putP (l : PL) (k r m : Int) (a : Addr) : PL := if k ∈ l.map (·.1) then modP l k r m else l ++ [(k, a, [(r, m)])]
def sumP (l : PL) (f : Int → Int → Int) : Int := (l.map fun e => sumF e.2.2 fun r => f r e.1).sum
theorem sumP_nil (f : Int → Int → Int) : sumP [] f = 0 := rfl
theorem sumP_cons (e : Int × Addr × List (Int × Int)) (l : PL) (f : Int → Int → Int) : sumP (e :: l) f = sumF e.2.2 (fun r => f r e.1) + sumP l f := by
  unfold sumP; rw [List.map_cons, List.sum_cons]
theorem sumP_append (l m : PL) (f : Int → Int → Int) : sumP (l ++ m) f = sumP l f + sumP m f := by
  unfold sumP; rw [List.map_append, List.sum_append]
theorem modP_keys (l : PL) (k r m : Int) : (modP l k r m).map (·.1) = l.map (·.1) := by
  unfold modP
  rw [List.map_map]
  refine List.map_congr_left fun e _ => ?_
  show (if e.1 = k then (e.1, e.2.1, addI e.2.2 r m) else e).1 = e.1
  split <;> rfl
theorem modP_addrs (l : PL) (k r m : Int) : (modP l k r m).map (·.2.1) = l.map (·.2.1) := by
  unfold modP
  rw [List.map_map]
  refine List.map_congr_left fun e _ => ?_
  show (if e.1 = k then (e.1, e.2.1, addI e.2.2 r m) else e).2.1 = e.2.1
  split <;> rfl
theorem modP_pvE (l : PL) (k r m : Int) : (modP l k r m).map pvE = l.map pvE := by
  unfold modP
  rw [List.map_map]
  refine List.map_congr_left fun e _ => ?_
  show pvE (if e.1 = k then (e.1, e.2.1, addI e.2.2 r m) else e) = pvE e
  split <;> rfl
theorem modP_mem {l : PL} {k r m : Int} {e : Int × Addr × List (Int × Int)} (h : e ∈ modP l k r m) : (e ∈ l ∧ e.1 ≠ k) ∨ ∃ e0 ∈ l, e0.1 = k ∧ e = (k, e0.2.1, addI e0.2.2 r m) := by
  unfold modP at h
  obtain ⟨e0, h1, h2⟩ := List.mem_map.mp h
  by_cases hk : e0.1 = k
  · rw [if_pos hk] at h2
    exact .inr ⟨e0, h1, hk, by rw [← h2, hk]⟩
  · rw [if_neg hk] at h2
    subst h2
    exact .inl ⟨h1, hk⟩
theorem modP_sum {l : PL} {k r m : Int} {f : Int → Int → Int} (hn : (l.map (·.1)).Nodup) (hi : ∀ e ∈ l, (e.2.2.map (·.1)).Nodup) (hk : k ∈ l.map (·.1)) : sumP (modP l k r m) f = sumP l f + m * f r k := by
  induction l with
  | nil => cases hk
  | cons e l ih =>
    rw [List.map_cons, List.nodup_cons] at hn
    show sumP ((if e.1 = k then (e.1, e.2.1, addI e.2.2 r m) else e) :: modP l k r m) f = _
    rw [sumP_cons, sumP_cons]
    by_cases h : e.1 = k
    · have rest : modP l k r m = l := by
        unfold modP
        have : l.map (fun e => if e.1 = k then (e.1, e.2.1, addI e.2.2 r m) else e) = l.map id := by
          refine List.map_congr_left fun x hx => ?_
          rw [if_neg (fun z => hn.1 (List.mem_map.mpr ⟨x, hx, by rw [z, h]⟩))]; rfl
        rw [this, List.map_id]
      rw [rest, if_pos h]
      show sumF (addI e.2.2 r m) (fun r => f r e.1) + _ = _
      rw [addI_sum (hi e List.mem_cons_self), h]
      omega
    · rw [if_neg h, ih hn.2 (fun x hx => hi x (List.mem_cons_of_mem _ hx)) (by
        rcases List.mem_cons.mp hk with z | z
        · exact absurd z.symm h
        · exact z)]
      omega
theorem putP_sum {l : PL} {k r m : Int} {a : Addr} {f : Int → Int → Int} (hn : (l.map (·.1)).Nodup) (hi : ∀ e ∈ l, (e.2.2.map (·.1)).Nodup) : sumP (putP l k r m a) f = sumP l f + m * f r k := by
  unfold putP
  by_cases h : k ∈ l.map (·.1)
  · rw [if_pos h]; exact modP_sum hn hi h
  · rw [if_neg h, sumP_append, sumP_cons, sumP_nil, sumF_cons, sumF_nil]
    show _ + (m * f r k + 0 + 0) = _
    omega
/-- grains lie at r of size x -/
def InP (l : PL) (r x : Int) : Prop := ∃ e ∈ l, e.1 = x ∧ r ∈ e.2.2.map (·.1)
theorem addI_key {l : List (Int × Int)} {k m r : Int} (h : r ∈ (addI l k m).map (·.1)) : r ∈ l.map (·.1) ∨ r = k := by
  rw [addI_keys] at h
  split at h
  · exact .inl h
  · rcases List.mem_append.mp h with h | h
    · exact .inl h
    · exact .inr (List.mem_singleton.mp h)
theorem putP_in {l : PL} {k r m : Int} {a : Addr} {r' x : Int} (h : InP (putP l k r m a) r' x) : InP l r' x ∨ (r' = r ∧ x = k) := by
  unfold putP at h
  obtain ⟨e, h1, h2, h3⟩ := h
  by_cases hk : k ∈ l.map (·.1)
  · rw [if_pos hk] at h1
    rcases modP_mem h1 with ⟨q, _⟩ | ⟨e0, q1, q2, rfl⟩
    · exact .inl ⟨e, q, h2, h3⟩
    · rcases addI_key h3 with z | z
      · exact .inl ⟨e0, q1, by rw [q2]; exact h2, z⟩
      · exact .inr ⟨z, h2.symm⟩
  · rw [if_neg hk] at h1
    rcases List.mem_append.mp h1 with q | q
    · exact .inl ⟨e, q, h2, h3⟩
    · rw [List.mem_singleton.mp q] at h2 h3
      exact .inr ⟨by simpa using h3, h2.symm⟩
structure FS where
  pend : PL
  done : List Int
  kept : PL
/-- sizes that may come -/
structure Univ (p : Int) (U : List Int) : Prop where
  pos : ∀ x ∈ U, 1 ≤ x
  cl : ∀ x ∈ U, ∀ q ∈ pieces x p, q.1 ∈ U
  len : U.length ≤ 900000
/-- a dict of dicts that is in order -/
structure PlOk (U : List Int) (A : Int → Prop) (B : Int → Prop) (l : PL) : Prop where
  nd : (l.map (·.1)).Nodup
  ind : ∀ e ∈ l, (e.2.2.map (·.1)).Nodup
  key : ∀ e ∈ l, A e.1
  sub : ∀ e ∈ l, ∀ q ∈ e.2.2, B q.1 ∧ 0 < q.2
theorem PlOk.mod {U : List Int} {A B : Int → Prop} {l : PL} {k r m : Int} (h : PlOk U A B l) (hr : B r) (hm : 0 < m) : PlOk U A B (modP l k r m) := by
  refine ⟨by rw [modP_keys]; exact h.nd, fun e he => ?_, fun e he => ?_, fun e he q hq => ?_⟩
  · rcases modP_mem he with ⟨z, _⟩ | ⟨e0, z, _, rfl⟩
    · exact h.ind e z
    · exact addI_nd (h.ind e0 z)
  · rcases modP_mem he with ⟨z, _⟩ | ⟨e0, z, z2, rfl⟩
    · exact h.key e z
    · rw [← z2]; exact h.key e0 z
  · rcases modP_mem he with ⟨z, _⟩ | ⟨e0, z, _, rfl⟩
    · exact h.sub e z q hq
    · rcases addI_mem hq with y | ⟨y, ⟨v, y1, y2⟩ | y2⟩
      · exact h.sub e0 z q y
      · rw [y, y2]
        have := (h.sub e0 z _ y1).2
        exact ⟨hr, by show 0 < v + m; omega⟩
      · rw [y, y2]; exact ⟨hr, hm⟩
theorem PlOk.put {U : List Int} {A B : Int → Prop} {l : PL} {k r m : Int} {a : Addr} (h : PlOk U A B l) (hk : A k) (hr : B r) (hm : 0 < m) : PlOk U A B (putP l k r m a) := by
  unfold putP
  by_cases e : k ∈ l.map (·.1)
  · rw [if_pos e]; exact h.mod hr hm
  · rw [if_neg e]
    refine ⟨?_, fun x hx => ?_, fun x hx => ?_, fun x hx q hq => ?_⟩
    · rw [List.map_append, List.nodup_append]
      exact ⟨h.nd, by simp, fun a ha b hb z => by
        have : b = k := by simpa using hb
        rw [this] at z
        exact e (z ▸ ha)⟩
    · rcases List.mem_append.mp hx with z | z
      · exact h.ind x z
      · rw [List.mem_singleton.mp z]; simp
    · rcases List.mem_append.mp hx with z | z
      · exact h.key x z
      · rw [List.mem_singleton.mp z]; exact hk
    · rcases List.mem_append.mp hx with z | z
      · exact h.sub x z q hq
      · rw [List.mem_singleton.mp z] at hq
        rw [List.mem_singleton.mp hq]; exact ⟨hr, hm⟩
theorem nd_le {α : Type} {l m : List α} (h : l.Nodup) (s : ∀ x ∈ l, x ∈ m) : l.length ≤ m.length := List.Nodup.length_le_of_subset h s
end MW

/-! G2 -/
set_option Elab.async false
set_option linter.all false
set_option maxRecDepth 100000
set_option maxHeartbeats 400000
namespace MW
open PySem PySem.Spec L2

/-! ### a Flow in the heap -/
structure FA where
  dx : Addr
  ds : Addr
  dd : Addr
  dk : Addr
abbrev foot (p : Addr) (A : FA) (S : FS) : List Addr := p :: A.dd :: A.ds :: A.dk :: (S.pend.map (·.2.1) ++ S.kept.map (·.2.1))
structure FlowAt (K : PySem.W.Frag) (Hb H : Hp) (p : Addr) (wv : V) (A : FA) (S : FS) : Prop where
  ob : H p = some (.ins (He.ga K "Flow") A.dx [("works", wv), ("sizes", .ref A.ds), ("done", .ref A.dd), ("kept", .ref A.dk)])
  sz : H A.ds = some (.dK (S.pend.map pvE))
  szI : ∀ e ∈ S.pend, H e.2.1 = some (.dK (e.2.2.map kvI))
  dn : H A.dd = some (.lst (S.done.map .int))
  kp : H A.dk = some (.dK (S.kept.map pvE))
  kpI : ∀ e ∈ S.kept, H e.2.1 = some (.dK (e.2.2.map kvI))
  nd : (foot p A S).Nodup
  out : ∀ a ∈ foot p A S, Hb a = none
structure FGr (F : List Addr) (Hb H : Hp) (F2 : List Addr) (Hb2 H2 : Hp) : Prop where
  fz : Same Hb Hb2
  in_ : Same Hb2 H2
  al : ∀ b o, H b = some o → b ∉ F → H2 b = some o
  mo : ∀ b, H b ≠ none → H2 b ≠ none
  fp : ∀ a ∈ F2, a ∈ F ∨ H a = none
  nw : ∀ a, Hb a = none → Hb2 a ≠ none → H a = none
section
variable {K : PySem.W.Frag} {mg : Str → Option Value} {Hb H Hb2 H2 Hb3 H3 : Hp} {p : Addr} {wv : V} {A : FA} {S S2 S3 : FS} {F F2 F3 : List Addr}
theorem FGr.refl (h : Same Hb H) : FGr F Hb H F Hb H := ⟨Same.refl _, h, fun _ _ e _ => e, fun _ e => e, fun _ h => .inl h, fun _ n q => absurd n q⟩
theorem FGr.trans (a : FGr F Hb H F2 Hb2 H2) (b : FGr F2 Hb2 H2 F3 Hb3 H3) : FGr F Hb H F3 Hb3 H3 where
  fz := a.fz.trans b.fz
  in_ := b.in_
  al := fun x o e n => b.al x o (a.al x o e n) fun z => by
    rcases a.fp x z with q | q
    · exact n q
    · rw [e] at q; cases q
  mo := fun x e => b.mo x (a.mo x e)
  fp := fun x h => by
    rcases b.fp x h with q | q
    · exact a.fp x q
    · right
      cases e : H x with
      | none => rfl
      | some o => exact absurd q (a.mo x (by rw [e]; simp))
  nw := fun x n q => by
    by_cases e : Hb2 x = none
    · have h := b.nw x e q
      cases e2 : H x with
      | none => rfl
      | some o => exact absurd h (a.mo x (by rw [e2]; simp))
    · exact a.nw x n e
theorem FlowAt.nn (f : FlowAt K Hb H p wv A S) {a : Addr} (h : a ∈ foot p A S) : H a ≠ none := by
  simp only [foot, List.mem_cons, List.mem_append, List.mem_map] at h
  rcases h with rfl | rfl | rfl | rfl | ⟨e, he, rfl⟩ | ⟨e, he, rfl⟩
  · rw [f.ob]; simp
  · rw [f.dn]; simp
  · rw [f.sz]; simp
  · rw [f.kp]; simp
  · rw [f.szI e he]; simp
  · rw [f.kpI e he]; simp
theorem FlowAt.grow (f : FlowAt K Hb H p wv A S) (g : Grow Hb H Hb2 H2) : FlowAt K Hb2 H2 p wv A S :=
  ⟨g.al _ _ f.ob, g.al _ _ f.sz, fun e he => g.al _ _ (f.szI e he), g.al _ _ f.dn, g.al _ _ f.kp, fun e he => g.al _ _ (f.kpI e he), f.nd, fun a ha => by
    cases q : Hb2 a with
    | none => rfl
    | some o => exact absurd (g.nw a (f.out a ha) (by rw [q]; simp)) (f.nn ha)⟩
theorem FGr.ofGrow (g : Grow Hb H Hb2 H2) : FGr F Hb H F Hb2 H2 := ⟨g.fz, g.in_, fun b o e _ => g.al b o e, fun b e => by
  cases q : H b with
  | none => exact absurd q e
  | some o => rw [g.al b o q]; simp, fun _ h => .inl h, g.nw⟩
def RFl (K : PySem.W.Frag) (p : Addr) (wv : V) (A : FA) (S : FS) : Res := ⟨fun _ Hb H => FlowAt K Hb H p wv A S, fun _ _ _ _ _ h g => h.grow g⟩
theorem EvG.refz {H0 H0' : Hp} {G : Ctx} {σ : L2.St} (E : EvG H0 G Hb H σ) (n : ∀ (i : Nat) (e : Ent), G[i]? = some e → e.mine = false) (s : Same Hb Hb2) : EvG H0' G Hb2 H2 σ := by
  refine ⟨E.len, fun i e q => ?_, fun i j e f l q1 _ m1 _ _ _ => ?_⟩
  · have z := E.ent i e q
    have m := n i e q
    cases e with
    | no => trivial
    | p P => obtain ⟨m1, v, h1, h2⟩ := z; exact ⟨m1, v, h1, m1 _ _ _ s h2⟩
    | own ds => cases m
    | ownD ds => cases m
  · rw [n i e q1] at m1; cases m1
theorem fk1 : ¬ (("works" : Str) = "sizes") := by decide +kernel
theorem lkF_works {a b c d : V} : List.lookup ("works" : Str) [(("works" : Str), a), (("sizes" : Str), b), (("done" : Str), c), (("kept" : Str), d)] = some a := by simp [List.lookup]
theorem lkF_sizes {a b c d : V} : List.lookup ("sizes" : Str) [(("works" : Str), a), (("sizes" : Str), b), (("done" : Str), c), (("kept" : Str), d)] = some b := by
  have h : (("sizes" : Str) == ("works" : Str)) = false := by decide +kernel
  simp [List.lookup, h]
theorem lkF_done {a b c d : V} : List.lookup ("done" : Str) [(("works" : Str), a), (("sizes" : Str), b), (("done" : Str), c), (("kept" : Str), d)] = some c := by
  have h : (("done" : Str) == ("works" : Str)) = false := by decide +kernel
  have h2 : (("done" : Str) == ("sizes" : Str)) = false := by decide +kernel
  simp [List.lookup, h, h2]
theorem lkF_kept {a b c d : V} : List.lookup ("kept" : Str) [(("works" : Str), a), (("sizes" : Str), b), (("done" : Str), c), (("kept" : Str), d)] = some d := by
  have h : (("kept" : Str) == ("works" : Str)) = false := by decide +kernel
  have h2 : (("kept" : Str) == ("sizes" : Str)) = false := by decide +kernel
  have h3 : (("kept" : Str) == ("done" : Str)) = false := by decide +kernel
  simp [List.lookup, h, h2, h3]
variable {G : Ctx} {te : TE}
theorem y_fworks (T : Tx K mg) (h : Y (RFl K p wv A S) te G (Cst (.ref p))) : Y (RFl K p wv A S) (tFld K te "works") G (Cst wv) := fun H0 Hb H σ E rr s Q q => h H0 Hb H σ E rr s _ fun v Hb2 H2 g e =>
  ⟨p, _, A.dx, _, _, e, (rr.grow g).ob, T.cls_Flow, T.no_Flow_works, lkF_works, q _ Hb2 H2 g rfl⟩
theorem y_fsizes (T : Tx K mg) (h : Y (RFl K p wv A S) te G (Cst (.ref p))) : Y (RFl K p wv A S) (tFld K te "sizes") G (Cst (.ref A.ds)) := fun H0 Hb H σ E rr s Q q => h H0 Hb H σ E rr s _ fun v Hb2 H2 g e =>
  ⟨p, _, A.dx, _, _, e, (rr.grow g).ob, T.cls_Flow, T.no_Flow_sizes, lkF_sizes, q _ Hb2 H2 g rfl⟩
theorem y_fdone (T : Tx K mg) (h : Y (RFl K p wv A S) te G (Cst (.ref p))) : Y (RFl K p wv A S) (tFld K te "done") G (Cst (.ref A.dd)) := fun H0 Hb H σ E rr s Q q => h H0 Hb H σ E rr s _ fun v Hb2 H2 g e =>
  ⟨p, _, A.dx, _, _, e, (rr.grow g).ob, T.cls_Flow, T.no_Flow_done, lkF_done, q _ Hb2 H2 g rfl⟩
theorem y_fkept (T : Tx K mg) (h : Y (RFl K p wv A S) te G (Cst (.ref p))) : Y (RFl K p wv A S) (tFld K te "kept") G (Cst (.ref A.dk)) := fun H0 Hb H σ E rr s Q q => h H0 Hb H σ E rr s _ fun v Hb2 H2 g e =>
  ⟨p, _, A.dx, _, _, e, (rr.grow g).ob, T.cls_Flow, T.no_Flow_kept, lkF_kept, q _ Hb2 H2 g rfl⟩
theorem upd_id {H : Hp} {a : Addr} {o : HO} (h : H a = some o) : upd H a o = H := by
  funext b
  by_cases e : b = a
  · subst e; rw [upd_same, h]
  · rw [upd_ne e]
theorem putK_same {κ : Type} [DecidableEq κ] : ∀ {kvs : List (κ × V)} {k : κ} {v : V}, (kvs.map (·.1)).Nodup → valV kvs k = some v → putK kvs k v = kvs := fun {kvs k v} hn h => by
  unfold putK
  have h2 := valV_any k kvs
  rw [h] at h2
  rw [if_pos (by rw [h2]; rfl)]
  have : kvs.map (fun kv => if kv.1 = k then (kv.1, v) else kv) = kvs.map id := by
    refine List.map_congr_left fun x hx => ?_
    by_cases e : x.1 = k
    · rw [if_pos e]
      have h3 : valV kvs x.1 = some x.2 := by
        clear h h2
        induction kvs with
        | nil => cases hx
        | cons y ys ih =>
          rw [List.map_cons, List.nodup_cons] at hn
          rcases List.mem_cons.mp hx with rfl | hx
          · exact valV_pos rfl
          · rw [valV_neg (fun z => hn.1 (List.mem_map.mpr ⟨x, hx, z.symm⟩))]
            exact ih hn.2 hx
      rw [e, h] at h3
      have : v = x.2 := Option.some.inj h3
      rw [this]; rfl
    · rw [if_neg e]; rfl
  rw [this, List.map_id]
theorem pvE_keys (l : PL) : (l.map pvE).map (·.1) = (l.map (·.1)).map (Sum.inl : Int → Key) := by
  rw [List.map_map, List.map_map]; rfl
theorem pvE_nd {l : PL} (h : (l.map (·.1)).Nodup) : ((l.map pvE).map (·.1)).Nodup := by
  rw [pvE_keys]
  exact List.Pairwise.map _ (fun a b h z => h (Sum.inl.inj z)) h
/-- a dict of the pending ones changes -/
theorem FlowAt.modPend (f : FlowAt K Hb H p wv A S) {size row many : Int} {a : Addr} {l : List (Int × Int)} (hn : (S.pend.map (·.1)).Nodup) (h : getP S.pend size = some (a, l)) :
    FlowAt K Hb (upd H a (.dK ((addI l row many).map kvI))) p wv A { S with pend := modP S.pend size row many } := by
  have hm := getP_some h
  have ha : a ∈ S.pend.map (·.2.1) := List.mem_map.mpr ⟨_, hm, rfl⟩
  have nd := f.nd
  simp only [foot, List.nodup_cons, List.mem_cons, List.mem_append, not_or, List.nodup_append] at nd
  obtain ⟨⟨_, _, _, n1, _⟩, ⟨_, _, n2, _⟩, ⟨_, n3, _⟩, ⟨n4, _⟩, n5, _, n6⟩ := nd
  have ne1 : p ≠ a := fun z => n1 (z ▸ ha)
  have ne2 : A.dd ≠ a := fun z => n2 (z ▸ ha)
  have ne3 : A.ds ≠ a := fun z => n3 (z ▸ ha)
  have ne4 : A.dk ≠ a := fun z => n4 (z ▸ ha)
  refine ⟨by rw [upd_ne ne1]; exact f.ob, by rw [upd_ne ne3, modP_pvE]; exact f.sz, fun e he => ?_, by rw [upd_ne ne2]; exact f.dn, by rw [upd_ne ne4]; exact f.kp, fun e he => ?_, ?_, fun b hb => ?_⟩
  · rcases modP_mem he with ⟨z, zn⟩ | ⟨e0, z, z2, rfl⟩
    · rw [upd_ne]
      · exact f.szI e z
      · intro q
        -- the addresses are unlike
        have : e = (size, a, l) := by
          clear he
          have key : ∀ (l0 : PL), (l0.map (·.2.1)).Nodup → ∀ x ∈ l0, ∀ y ∈ l0, x.2.1 = y.2.1 → x = y := by
            intro l0
            induction l0 with
            | nil => intro _ x hx; cases hx
            | cons c cs ih =>
              intro hnd x hx y hy e
              rw [List.map_cons, List.nodup_cons] at hnd
              rcases List.mem_cons.mp hx with ex | hx'
              · rcases List.mem_cons.mp hy with ey | hy'
                · rw [ex, ey]
                · exact absurd (List.mem_map.mpr ⟨y, hy', by rw [← e, ex]⟩) hnd.1
              · rcases List.mem_cons.mp hy with ey | hy'
                · exact absurd (List.mem_map.mpr ⟨x, hx', by rw [e, ey]⟩) hnd.1
                · exact ih hnd.2 x hx' y hy' e
          exact key S.pend n5 e z _ hm q
        rw [this] at zn
        exact zn rfl
    · have e1 : getP S.pend size = some e0.2 := getP_nd hn (by rw [← z2]; exact z)
      rw [h] at e1
      have e2 : (a, l) = e0.2 := Option.some.inj e1
      rw [← e2]
      exact upd_same
  · rw [upd_ne]
    · exact f.kpI e he
    · intro q
      exact n6 a ha e.2.1 (List.mem_map.mpr ⟨e, he, rfl⟩) q.symm
  · show (p :: A.dd :: A.ds :: A.dk :: ((modP S.pend size row many).map (·.2.1) ++ S.kept.map (·.2.1))).Nodup
    rw [modP_addrs]; exact f.nd
  · have hb' : b ∈ p :: A.dd :: A.ds :: A.dk :: ((modP S.pend size row many).map (·.2.1) ++ S.kept.map (·.2.1)) := hb
    rw [modP_addrs] at hb'
    exact f.out b hb'
/-- a new dict among the pending ones -/
theorem FlowAt.newPend (f : FlowAt K Hb H p wv A S) {size row many : Int} {a : Addr} (hs : Same Hb H) (ha : H a = none) (h : size ∉ S.pend.map (·.1)) :
    FlowAt K Hb (upd (upd H a (.dK ([(row, many)].map kvI))) A.ds (.dK ((S.pend ++ [(size, a, [(row, many)])]).map pvE))) p wv A { S with pend := S.pend ++ [(size, a, [(row, many)])] } := by
  have nf : a ∉ foot p A S := fun z => f.nn z ha
  have nd := f.nd
  simp only [foot, List.nodup_cons, List.mem_cons, List.mem_append, not_or, List.nodup_append] at nd nf
  obtain ⟨⟨np1, np2, np3, n1, n1k⟩, ⟨nd1, nd2, n2, n2k⟩, ⟨ns1, n3, n3k⟩, ⟨n4, n4k⟩, n5, n5k, n6⟩ := nd
  obtain ⟨m1, m2, m3, m4, m5, m6⟩ := nf
  have keep : ∀ b o, b ≠ a → b ≠ A.ds → H b = some o → (upd (upd H a (.dK ([(row, many)].map kvI))) A.ds (.dK ((S.pend ++ [(size, a, [(row, many)])]).map pvE))) b = some o := fun b o h1 h2 e => by
    rw [upd_ne h2, upd_ne h1]; exact e
  refine ⟨keep _ _ (Ne.symm m1) np2 f.ob, upd_same, fun e he => ?_, keep _ _ (Ne.symm m2) nd1 f.dn, keep _ _ (Ne.symm m4) (Ne.symm ns1) f.kp, fun e he => ?_, ?_, fun b hb => ?_⟩
  · rcases List.mem_append.mp he with z | z
    · have hm : e.2.1 ∈ S.pend.map (·.2.1) := List.mem_map.mpr ⟨e, z, rfl⟩
      exact keep _ _ (fun q => m5 (q ▸ hm)) (fun q => n3 (q ▸ hm)) (f.szI e z)
    · rw [List.mem_singleton.mp z]
      rw [upd_ne (fun q => m3 q), upd_same]
  · have hm : e.2.1 ∈ S.kept.map (·.2.1) := List.mem_map.mpr ⟨e, he, rfl⟩
    exact keep _ _ (fun q => m6 (q ▸ hm)) (fun q => n3k (q ▸ hm)) (f.kpI e he)
  · show (p :: A.dd :: A.ds :: A.dk :: ((S.pend ++ [(size, a, [(row, many)])]).map (·.2.1) ++ S.kept.map (·.2.1))).Nodup
    rw [List.map_append]
    simp only [List.map_cons, List.map_nil, List.nodup_cons, List.mem_cons, List.mem_append, not_or, List.nodup_append, List.not_mem_nil, not_false_iff, and_true, List.nodup_nil]
    refine ⟨⟨np1, np2, np3, ⟨n1, Ne.symm m1⟩, n1k⟩, ⟨nd1, nd2, ⟨n2, Ne.symm m2⟩, n2k⟩, ⟨ns1, ⟨n3, Ne.symm m3⟩, n3k⟩, ⟨⟨n4, Ne.symm m4⟩, n4k⟩, ⟨n5, trivial, ?_⟩, n5k, ?_⟩
    · intro x hx y hy q
      rcases hy with hy | hy
      · subst hy; exact m5 (q ▸ hx)
      · cases hy
    · intro x hx y hy q
      rcases hx with hx | hx | hx
      · exact n6 x hx y hy q
      · subst hx; exact m6 (q ▸ hy)
      · cases hx
  · have hb' : b ∈ p :: A.dd :: A.ds :: A.dk :: ((S.pend ++ [(size, a, [(row, many)])]).map (·.2.1) ++ S.kept.map (·.2.1)) := hb
    rw [List.map_append] at hb'
    simp only [List.mem_cons, List.mem_append, List.map_cons, List.map_nil, List.not_mem_nil, or_false] at hb'
    have old : b ∈ foot p A S → Hb b = none := f.out b
    simp only [foot, List.mem_cons, List.mem_append] at old
    rcases hb' with z | z | z | z | (z | z) | z
    · exact old (.inl z)
    · exact old (.inr (.inl z))
    · exact old (.inr (.inr (.inl z)))
    · exact old (.inr (.inr (.inr (.inl z))))
    · exact old (.inr (.inr (.inr (.inr (.inl z)))))
    · rw [z]; exact hs.free ha
    · exact old (.inr (.inr (.inr (.inr (.inr z)))))
end
theorem getD_int (o : Option Int) (d : Int) : (o.map V.int).getD (.int d) = .int (o.getD d) := by cases o <;> rfl
section
variable {P : Program} {w : World} {K : PySem.W.Frag} {mg : Str → Option Value} {base : Heap}
def sp_Flow_put (K : PySem.W.Frag) : Sp := fun vs H Q _ => ∃ (p : Addr) (wv : V) (A : FA) (S : FS) (Hb : Hp) (row size many : Int), vs = [.ref p, .int row, .int size, .int many] ∧ FlowAt K Hb H p wv A S ∧ Same Hb H ∧ (S.pend.map (·.1)).Nodup ∧ S.pend.length ≤ 1000000 ∧ (∀ e ∈ S.pend, e.2.2.length ≤ 1000000) ∧
  ∀ (a : Addr) (H2 : Hp), FlowAt K Hb H2 p wv A { S with pend := putP S.pend size row many a } → FGr (foot p A S) Hb H (foot p A { S with pend := putP S.pend size row many a }) Hb H2 → Q .non H2
theorem mt_Flow_put (T : Tx K mg) : Mth P w K mg base 1 (He.ga K "Flow") "put" ["self", "row", "size", "many"] (sp_Flow_put K) := by
  obtain ⟨fd, F⟩ := T.c.def_ 12 (d := d_Flow_put) rfl
  refine ⟨_, fd, T.me_Flow_put, FunD.bindsN (ps := ["self", "row", "size", "many"]) F fun _ _ _ _ _ _ us hl => match us, hl with | [_, _, _, _], _ => rfl, def_ok F sc_Flow_put ?_ fun cdv A outer s H vs Q E hr h => ?_⟩
  · rintro vs H Q E ⟨p, wv, A, S, Hb, row, size, many, rfl, _⟩
    rfl
  · obtain ⟨p, wv, A, S, Hb, row, size, many, rfl, f, sm, hn, hl1, hl2, k⟩ := h
    refine ⟨_, (pss_cons (ps_set (i := 4) sc_Flow_put.nd rfl (Or.inl rfl) (pe_dget2 (hu_of hr) (pe_fldK (K := K) rfl (pv 0) rfl) (pv 2) pe_dnewK ⟨rfl, rfl, rfl, rfl⟩))
  (pss_cons (ps_dput (hu_of hr) (pv 4) (pv 1) (pe_op op_add (pe_dget2 (hu_of hr) (pv 4) (pv 1) pe_int ⟨rfl, rfl, rfl, rfl⟩) (pv 3)) rfl)
  (pss_one (ps_dput (hu_of hr) (pe_fldK (K := K) rfl (pv 0) rfl) (pv 2) (pv 4) rfl)))), ?_⟩
    refine ⟨_, rfl, p, _, A.dx, _, _, rfl, f.ob, T.cls_Flow, T.no_Flow_sizes, lkF_sizes, A.ds, rfl, .inl ⟨_, .inl f.sz⟩, _, rfl, fun q hq => ?_⟩
    have nf : q ∉ foot p A S := fun z => f.nn z hq
    have gq : Grow Hb H Hb (upd H q (.dK [])) := .own sm hq
    have f1 := f.grow gq
    have dg : DGet (upd H q (.dK [])) A.ds (.int size) ((getP S.pend size).map fun v => V.ref v.1) := by
      rw [← valV_pvE]
      exact DGet.k (k := Sum.inl size) f1.sz
    refine ⟨_, dg, ?_⟩
    cases hg : getP S.pend size with
    | some al =>
      obtain ⟨a, l⟩ := al
      have hm := getP_some hg
      have hk : size ∈ S.pend.map (·.1) := List.mem_map.mpr ⟨_, hm, rfl⟩
      have ha := f1.szI _ hm
      have dg2 : DGet (upd H q (.dK [])) a (.int row) ((getI l row).map V.int) := by
        rw [← valV_kvI]
        exact DGet.k (k := Sum.inl row) ha
      refine ⟨_, rfl, a, rfl, .inl ⟨_, .inl ha⟩, _, rfl, _, dg2, _, rfl, (getI l row).getD 0, many, getD_int _ _, rfl, ?_⟩
      refine ⟨_, rfl, _, rfl, a, _, rfl, DPut.k (k := Sum.inl row) ha (by rw [List.length_map]; exact Nat.lt_of_le_of_lt (hl2 _ hm) (by decide)), ?_⟩
      rw [putK_kvI]
      have f2 := f1.modPend (row := row) (many := many) hn hg
      refine ⟨_, rfl, _, rfl, p, _, A.dx, _, _, rfl, f2.ob, T.cls_Flow, T.no_Flow_sizes, lkF_sizes, _, rfl, A.ds, _, rfl, DPut.k (k := Sum.inl size) f2.sz (by rw [modP_pvE, List.length_map]; exact Nat.lt_of_le_of_lt hl1 (by decide)), ?_⟩
      rw [putK_same (by rw [modP_pvE]; exact pvE_nd hn) (by rw [modP_pvE, valV_pvE, hg]; rfl), upd_id f2.sz]
      have eP : putP S.pend size row many q = modP S.pend size row many := by unfold putP; rw [if_pos hk]
      have am : a ∈ foot p A S := by
        simp only [foot, List.mem_cons, List.mem_append, List.mem_map]
        exact .inr (.inr (.inr (.inr (.inl ⟨_, hm, rfl⟩))))
      have hbq : Hb a = none := f.out a am
      refine k q _ (by rw [eP]; exact f2) ⟨Same.refl _, same_mut gq.in_ hbq, fun b o e nb => ?_, fun b e => ?_, fun b hb => ?_, fun _ n q => absurd n q⟩
      · rw [upd_ne (fun z => nb (by rw [z]; exact am))]
        exact gq.al b o e
      · by_cases z : b = a
        · subst z; rw [upd_same]; simp
        · rw [upd_ne z]
          cases e2 : H b with
          | none => exact absurd e2 e
          | some o => rw [gq.al b o e2]; simp
      · have hb2 : b ∈ p :: A.dd :: A.ds :: A.dk :: ((putP S.pend size row many q).map (·.2.1) ++ S.kept.map (·.2.1)) := hb
        rw [eP, modP_addrs] at hb2
        exact .inl hb2
    | none =>
      have hk : size ∉ S.pend.map (·.1) := getP_none.mp hg
      have hqq : (upd H q (.dK [])) q = some (.dK (([] : List (Int × Int)).map kvI)) := upd_same
      have dg2 : DGet (upd H q (.dK [])) q (.int row) none := DGet.k (k := Sum.inl row) hqq
      refine ⟨_, rfl, q, rfl, .inl ⟨_, .inl hqq⟩, _, rfl, _, dg2, _, rfl, 0, many, rfl, rfl, ?_⟩
      refine ⟨_, rfl, _, rfl, q, _, rfl, DPut.k (k := Sum.inl row) hqq (by decide), ?_⟩
      rw [upd_upd]
      have hq2 : q ≠ A.ds := fun z => nf (by rw [z]; simp [foot])
      have e1 : (upd H q (.dK (putK (([] : List (Int × Int)).map kvI) (Sum.inl row : Key) (.int (0 + many))))) = upd H q (.dK ([(row, many)].map kvI)) := by
        rw [Int.zero_add]; rfl
      rw [e1]
      have hsz : (upd H q (.dK ([(row, many)].map kvI))) A.ds = some (.dK (S.pend.map pvE)) := by rw [upd_ne (Ne.symm hq2)]; exact f.sz
      have hob : (upd H q (.dK ([(row, many)].map kvI))) p = some (.ins (He.ga K "Flow") A.dx [("works", wv), ("sizes", .ref A.ds), ("done", .ref A.dd), ("kept", .ref A.dk)]) := by
        rw [upd_ne (fun z => nf (by rw [← z]; simp [foot]))]; exact f.ob
      refine ⟨_, rfl, _, rfl, p, _, A.dx, _, _, rfl, hob, T.cls_Flow, T.no_Flow_sizes, lkF_sizes, _, rfl, A.ds, _, rfl, DPut.k (k := Sum.inl size) hsz (by rw [List.length_map]; exact Nat.lt_of_le_of_lt hl1 (by decide)), ?_⟩
      have eP : putP S.pend size row many q = S.pend ++ [(size, q, [(row, many)])] := by unfold putP; rw [if_neg hk]
      have f2 := f.newPend (row := row) (many := many) sm hq hk
      have e2 : putK (S.pend.map pvE) (Sum.inl size : Key) (V.ref q) = (S.pend ++ [(size, q, [(row, many)])]).map pvE := by
        rw [putK_new _ (by rw [valV_pvE, hg]; rfl), List.map_append]; rfl
      show Q .non (upd _ A.ds (.dK (putK (S.pend.map pvE) (Sum.inl size : Key) (V.ref q))))
      rw [e2]
      have dsm : A.ds ∈ foot p A S := by simp [foot]
      refine k q _ (by rw [eP]; exact f2) ⟨Same.refl _, same_mut (same_mut sm (sm.free hq)) (f.out _ dsm), fun b o e nb => ?_, fun b e => ?_, fun b hb => ?_, fun _ n q => absurd n q⟩
      · rw [upd_ne (fun z => nb (by rw [z]; exact dsm)), upd_ne (ne_of_none e hq)]; exact e
      · by_cases z : b = A.ds
        · subst z; rw [upd_same]; simp
        · by_cases z2 : b = q
          · subst z2; rw [upd_ne z, upd_same]; simp
          · rw [upd_ne z, upd_ne z2]; exact e
      · have hb2 : b ∈ p :: A.dd :: A.ds :: A.dk :: ((putP S.pend size row many q).map (·.2.1) ++ S.kept.map (·.2.1)) := hb
        rw [eP, List.map_append] at hb2
        simp only [List.mem_cons, List.mem_append, List.map_cons, List.map_nil, List.not_mem_nil, or_false] at hb2
        simp only [foot, List.mem_cons, List.mem_append]
        rcases hb2 with z | z | z | z | (z | z) | z
        · exact .inl (.inl z)
        · exact .inl (.inr (.inl z))
        · exact .inl (.inr (.inr (.inl z)))
        · exact .inl (.inr (.inr (.inr (.inl z))))
        · exact .inl (.inr (.inr (.inr (.inr (.inl z)))))
        · right; rw [z]; exact hq
        · exact .inl (.inr (.inr (.inr (.inr (.inr z)))))
end
end MW

/-! G3 -/
set_option Elab.async false
set_option linter.all false
set_option maxRecDepth 100000
set_option maxHeartbeats 400000
namespace MW
open PySem PySem.Spec L2

inductive PutAll : PL → PL → List (Int × Int × Int) → Prop
  | nil (l : PL) : PutAll l l []
  | snoc {l m : PL} {gs : List (Int × Int × Int)} (h : PutAll l m gs) (g : Int × Int × Int) (a : Addr) : PutAll l (putP m g.2.1 g.1 g.2.2 a) (gs ++ [g])
theorem PutAll.ok {U : List Int} {A B : Int → Prop} {l m : PL} {gs : List (Int × Int × Int)} (h : PutAll l m gs) (o : PlOk U A B l) (hg : ∀ g ∈ gs, A g.2.1 ∧ B g.1 ∧ 0 < g.2.2) : PlOk U A B m := by
  induction h with
  | nil => exact o
  | snoc h g a ih =>
    have hl := hg g (List.mem_append_right _ (List.mem_singleton.mpr rfl))
    exact (ih fun g' h' => hg g' (List.mem_append_left _ h')).put hl.1 hl.2.1 hl.2.2
theorem PutAll.sum {U : List Int} {A B : Int → Prop} {l m : PL} {gs : List (Int × Int × Int)} {f : Int → Int → Int} (h : PutAll l m gs) (o : PlOk U A B l) (hg : ∀ g ∈ gs, A g.2.1 ∧ B g.1 ∧ 0 < g.2.2) : sumP m f = sumP l f + (gs.map fun g => g.2.2 * f g.1 g.2.1).sum := by
  induction h with
  | nil => simp
  | snoc h g a ih =>
    have hg' := fun g' h' => hg g' (List.mem_append_left _ h')
    have om := h.ok o hg'
    rw [putP_sum om.nd om.ind, ih hg', List.map_append, List.sum_append]
    simp
    omega
theorem putP_ne {l : PL} {k r m : Int} {a : Addr} (h : ∀ e ∈ l, e.2.2 ≠ []) : ∀ e ∈ putP l k r m a, e.2.2 ≠ [] := fun e he => by
  unfold putP at he
  split at he
  · rcases modP_mem he with ⟨z, _⟩ | ⟨e0, _, _, rfl⟩
    · exact h e z
    · exact addI_ne
  · rcases List.mem_append.mp he with z | z
    · exact h e z
    · rw [List.mem_singleton.mp z]; simp
theorem PutAll.ne {l m : PL} {gs : List (Int × Int × Int)} (h : PutAll l m gs) (o : ∀ e ∈ l, e.2.2 ≠ []) : ∀ e ∈ m, e.2.2 ≠ [] := by
  induction h with
  | nil => exact o
  | snoc h g a ih => exact putP_ne ih
theorem PutAll.inp {l m : PL} {gs : List (Int × Int × Int)} {r x : Int} (h : PutAll l m gs) (i : InP m r x) : InP l r x ∨ ∃ g ∈ gs, g.1 = r ∧ g.2.1 = x := by
  induction h with
  | nil => exact .inl i
  | snoc h g a ih =>
    rcases putP_in i with z | ⟨z1, z2⟩
    · rcases ih z with y | ⟨g', y1, y2⟩
      · exact .inl y
      · exact .inr ⟨g', List.mem_append_left _ y1, y2⟩
    · exact .inr ⟨g, List.mem_append_right _ (List.mem_singleton.mpr rfl), z1.symm, z2.symm⟩
abbrev RowN (rows : List Rw) : Int → Prop := fun r => 0 ≤ r ∧ r < rows.length
structure Good (rows : List Rw) (U : List Int) (S : FS) : Prop where
  pend : PlOk U (· ∈ U) (RowN rows) S.pend
  ne : ∀ e ∈ S.pend, e.2.2 ≠ []
  dl : S.done.length = rows.length
  kept : PlOk U (fun b => Rw.bin b ∈ rows) (· ∈ U) S.kept
  kb : ∀ b, Rw.bin b ∈ rows → b ∈ S.kept.map (·.1)
def keptP (row : Rw) (l : PL) (size many : Int) : PL := match row with
  | .bin b => modP l b size many
  | _ => l
def gsOf (pt : Int) (row : Rw) (size many : Int) : List (Int × Int × Int) := (goesR pt row size).map fun g => ((g.1 : Int), g.2.1, g.2.2 * many)
theorem rows_len {rows : List Rw} {l : List (Int × Int)} (hn : (l.map (·.1)).Nodup) (h : ∀ q ∈ l, RowN rows q.1) : l.length ≤ rows.length := by
  have := nd_le (l := l.map (·.1)) (m := (List.range rows.length).map Int.ofNat) hn (fun x hx => by
    obtain ⟨q, hq, rfl⟩ := List.mem_map.mp hx
    obtain ⟨h1, h2⟩ := h q hq
    exact List.mem_map.mpr ⟨q.1.toNat, List.mem_range.mpr (by omega), Int.toNat_of_nonneg h1⟩)
  simpa using this
theorem u_len {U : List Int} {B : Int → Prop} {l : PL} (h : PlOk U (· ∈ U) B l) : l.length ≤ U.length := by
  have := nd_le (l := l.map (·.1)) (m := U) h.nd (fun x hx => by
    obtain ⟨q, hq, rfl⟩ := List.mem_map.mp hx
    exact h.key q hq)
  simpa using this
theorem PlOk.inner {rows : List Rw} {U : List Int} (h : PlOk U (· ∈ U) (RowN rows) l) : ∀ e ∈ l, e.2.2.length ≤ rows.length := fun e he => rows_len (h.ind e he) fun q hq => (h.sub e he q hq).1
/-- where the pieces of a grain go -/
theorem gsOf_ok {pt : Int} {rows : List Rw} {U : List Int} {r : Nat} {row : Rw} {size many : Int} (p1 : 2 ≤ pt) (p2 : pt ≤ 9) (ok : RowsOk rows) (u : Univ pt U) (hs : size ∈ U) (hm : 0 < many) (hr : rows[r]? = some row) :
    ∀ g ∈ gsOf pt row size many, g.2.1 ∈ U ∧ RowN rows g.1 ∧ 0 < g.2.2 := fun g hg => by
  unfold gsOf at hg
  obtain ⟨g0, h0, rfl⟩ := List.mem_map.mp hg
  have okr := ok row (List.mem_of_getElem? hr)
  have s1 := u.pos size hs
  cases row with
  | bin b => cases h0
  | mesh c a o =>
    obtain ⟨_, _, o1, o2⟩ := okr
    simp only [goesR] at h0
    split at h0
    · rw [List.mem_singleton.mp h0]; exact ⟨hs, ⟨by show (0 : Int) ≤ (a : Int); omega, by show (a : Int) < _; omega⟩, by show 0 < 1 * many; omega⟩
    · rw [List.mem_singleton.mp h0]; exact ⟨hs, ⟨by show (0 : Int) ≤ (o : Int); omega, by show (o : Int) < _; omega⟩, by show 0 < 1 * many; omega⟩
  | crush t =>
    have ot : t < rows.length := okr
    simp only [goesR] at h0
    obtain ⟨q, hq, rfl⟩ := List.mem_map.mp h0
    refine ⟨u.cl size hs q hq, ⟨by show (0 : Int) ≤ (t : Int); omega, by show (t : Int) < _; omega⟩, ?_⟩
    show 0 < q.2 * many
    have : 0 < q.2 := by
      rcases pieces_cases s1 p1 p2 with ⟨_, _, _, e⟩ | ⟨_, _, e⟩ | ⟨_, _, h3, h4, e⟩ <;> rw [e] at hq
      · rw [List.mem_singleton.mp hq]; show 0 < pt; omega
      · rw [List.mem_singleton.mp hq]; show 0 < size; omega
      · rcases List.mem_cons.mp hq with rfl | hq
        · show 0 < pt - size % pt; omega
        · rw [List.mem_singleton.mp hq]; show 0 < size % pt; omega
    exact Int.mul_pos this hm
section
variable {K : PySem.W.Frag} {mg : Str → Option Value} {Hb H Hb2 H2 : Hp} {p : Addr} {wv : V} {A : FA} {S : FS}
theorem FlowAt.setDone (f : FlowAt K Hb H p wv A S) (ds : List Int) : FlowAt K Hb (upd H A.dd (.lst (ds.map .int))) p wv A { S with done := ds } := by
  have nd := f.nd
  simp only [foot, List.nodup_cons, List.mem_cons, List.mem_append, not_or] at nd
  obtain ⟨⟨n1, _⟩, ⟨n2, n3, n4, n5⟩, _⟩ := nd
  have keep : ∀ b o, b ≠ A.dd → H b = some o → (upd H A.dd (.lst (ds.map .int))) b = some o := fun b o h e => by rw [upd_ne h]; exact e
  refine ⟨keep _ _ n1 f.ob, keep _ _ (Ne.symm n2) f.sz, fun e he => keep _ _ (fun q => n4 (q ▸ List.mem_map.mpr ⟨e, he, rfl⟩)) (f.szI e he), upd_same, keep _ _ (Ne.symm n3) f.kp, fun e he => keep _ _ (fun q => n5 (q ▸ List.mem_map.mpr ⟨e, he, rfl⟩)) (f.kpI e he), f.nd, f.out⟩
theorem FGr.updF {F : List Addr} {a : Addr} {o : HO} (s : Same Hb H) (h : a ∈ F) (hb : Hb a = none) (he : H a ≠ none) : FGr F Hb H F Hb (upd H a o) := ⟨Same.refl _, same_mut s hb, fun b o e n => by rw [upd_ne (fun z => n (by rw [z]; exact h))]; exact e, fun b e => by
  by_cases z : b = a
  · subst z; rw [upd_same]; simp
  · rw [upd_ne z]; exact e, fun _ h => .inl h, fun _ n q => absurd n q⟩
theorem FlowAt.modKept (f : FlowAt K Hb H p wv A S) {b size many : Int} {a : Addr} {l : List (Int × Int)} (hn : (S.kept.map (·.1)).Nodup) (h : getP S.kept b = some (a, l)) :
    FlowAt K Hb (upd H a (.dK ((addI l size many).map kvI))) p wv A { S with kept := modP S.kept b size many } := by
  have hm := getP_some h
  have ha : a ∈ S.kept.map (·.2.1) := List.mem_map.mpr ⟨_, hm, rfl⟩
  have nd := f.nd
  simp only [foot, List.nodup_cons, List.mem_cons, List.mem_append, not_or, List.nodup_append] at nd
  obtain ⟨⟨_, _, _, _, n1⟩, ⟨_, _, _, n2⟩, ⟨_, _, n3⟩, ⟨_, n4⟩, _, n5, n6⟩ := nd
  have ne1 : p ≠ a := fun z => n1 (z ▸ ha)
  have ne2 : A.dd ≠ a := fun z => n2 (z ▸ ha)
  have ne3 : A.ds ≠ a := fun z => n3 (z ▸ ha)
  have ne4 : A.dk ≠ a := fun z => n4 (z ▸ ha)
  refine ⟨by rw [upd_ne ne1]; exact f.ob, by rw [upd_ne ne3]; exact f.sz, fun e he => ?_, by rw [upd_ne ne2]; exact f.dn, by rw [upd_ne ne4, modP_pvE]; exact f.kp, fun e he => ?_, ?_, fun b' hb => ?_⟩
  · rw [upd_ne]
    · exact f.szI e he
    · intro q
      exact n6 e.2.1 (List.mem_map.mpr ⟨e, he, rfl⟩) a ha q
  · rcases modP_mem he with ⟨z, zn⟩ | ⟨e0, z, z2, rfl⟩
    · rw [upd_ne]
      · exact f.kpI e z
      · intro q
        have key : ∀ (l0 : PL), (l0.map (·.2.1)).Nodup → ∀ x ∈ l0, ∀ y ∈ l0, x.2.1 = y.2.1 → x = y := by
          intro l0
          induction l0 with
          | nil => intro _ x hx; cases hx
          | cons c cs ih =>
            intro hnd x hx y hy e
            rw [List.map_cons, List.nodup_cons] at hnd
            rcases List.mem_cons.mp hx with ex | hx'
            · rcases List.mem_cons.mp hy with ey | hy'
              · rw [ex, ey]
              · exact absurd (List.mem_map.mpr ⟨y, hy', by rw [← e, ex]⟩) hnd.1
            · rcases List.mem_cons.mp hy with ey | hy'
              · exact absurd (List.mem_map.mpr ⟨x, hx', by rw [e, ey]⟩) hnd.1
              · exact ih hnd.2 x hx' y hy' e
        rw [key S.kept n5 e z _ hm q] at zn
        exact zn rfl
    · have e1 : getP S.kept b = some e0.2 := getP_nd hn (by rw [← z2]; exact z)
      rw [h] at e1
      have e2 : (a, l) = e0.2 := Option.some.inj e1
      rw [← e2]
      exact upd_same
  · show (p :: A.dd :: A.ds :: A.dk :: (S.pend.map (·.2.1) ++ (modP S.kept b size many).map (·.2.1))).Nodup
    rw [modP_addrs]; exact f.nd
  · have hb' : b' ∈ p :: A.dd :: A.ds :: A.dk :: (S.pend.map (·.2.1) ++ (modP S.kept b size many).map (·.2.1)) := hb
    rw [modP_addrs] at hb'
    exact f.out b' hb'
def RFw (K : PySem.W.Frag) (p : Addr) (wv : V) (A : FA) (S : FS) (pt : Int) (rows : List Rw) : Res := ⟨fun _ Hb H => FlowAt K Hb H p wv A S ∧ Ws K pt rows Hb wv, fun _ _ _ _ _ h g => ⟨h.1.grow g, mono_Ws _ _ _ g.fz h.2⟩⟩
theorem y_fworksW {G : Ctx} {te : TE} {pt : Int} {rows : List Rw} (T : Tx K mg) (h : Y (RFw K p wv A S pt rows) te G (Cst (.ref p))) : Y (RFw K p wv A S pt rows) (tFld K te "works") G (Ws K pt rows) := fun H0 Hb H σ E rr s Q q => h H0 Hb H σ E rr s _ fun v Hb2 H2 g e =>
  ⟨p, _, A.dx, _, _, e, (rr.1.grow g).ob, T.cls_Flow, T.no_Flow_works, lkF_works, q _ Hb2 H2 g (mono_Ws _ _ _ g.fz rr.2)⟩
end
section
variable {P : Program} {w : World} {K : PySem.W.Frag} {mg : Str → Option Value} {base : Heap}
def sp_Flow_take_all (K : PySem.W.Frag) : Sp := fun vs H Q _ => ∃ (p : Addr) (wv : V) (A : FA) (S : FS) (Hb : Hp) (pt : Int) (rows : List Rw) (U : List Int) (r : Nat) (row : Rw) (size many : Int), vs = [.ref p, .int r, .int size, .int many] ∧
  (2 ≤ pt ∧ pt ≤ 9 ∧ RowsOk rows ∧ rows.length ≤ 1000 ∧ Univ pt U ∧ size ∈ U ∧ 0 < many ∧ rows[r]? = some row ∧ Good rows U S) ∧ FlowAt K Hb H p wv A S ∧ Ws K pt rows Hb wv ∧ Same Hb H ∧
  ∀ (S2 : FS) (Hb2 H2 : Hp), S2.done = S.done.set r (S.done.getD r 0 + many) → S2.kept = keptP row S.kept size many → PutAll S.pend S2.pend (gsOf pt row size many) → FlowAt K Hb2 H2 p wv A S2 → FGr (foot p A S) Hb H (foot p A S2) Hb2 H2 → Q .non H2
theorem mt_Flow_take_all (T : Tx K mg) : Mth P w K mg base 3 (He.ga K "Flow") "take_all" ["self", "row", "size", "many"] (sp_Flow_take_all K) := by
  have C_Flow_put := mt_Flow_put (P := P) (w := w) (base := base) T
  have C_goes_on := ok_goes_on (P := P) (w := w) (base := base) T
  obtain ⟨fd, F⟩ := T.c.def_ 13 (d := d_Flow_take_all) rfl
  refine ⟨_, fd, T.me_Flow_take_all, FunD.bindsN (ps := ["self", "row", "size", "many"]) F fun _ _ _ _ _ _ us hl => match us, hl with | [_, _, _, _], _ => rfl, def_ok F sc_Flow_take_all ?_ fun cdv A outer s H vs Q E hr h => ?_⟩
  · rintro vs H Q E ⟨p, wv, A, S, Hb, pt, rows, U, r, row, size, many, rfl, _⟩
    rfl
  · obtain ⟨p, wv, A, S, Hb, pt, rows, U, r, row, size, many, rfl, ⟨p1, p2, ok, hl, u, hs, hm, hrow, gd⟩, f, hw, sm, k⟩ := h
    refine ⟨_, (pss_cons (ps_asg (pe_op op_add (pe_ix (kxL (K := K) rfl) (pe_fldK (K := K) rfl (pv 0) rfl) (pv 1) (fun _ _ => rfl)) (pv 3)) (pg_sub (pe_fldK (K := K) rfl (pv 0) rfl) (pv 1) set_list))
  (pss_cons (ps_set (i := 4) sc_Flow_take_all.nd rfl (Or.inl rfl) (pe_ix (kxL (K := K) rfl) (pe_fldK (K := K) rfl (pe_fldK (K := K) rfl (pv 0) rfl) rfl) (pv 1) (fun _ _ => rfl)))
  (pss_cons (ps_if (pt_cmpR op_eq (pe_ix (kxT (K := K) rfl) (pv 4) pe_int (fun _ _ => rfl)) pe_str (nomark _))
    (pss_cons (ps_set (i := 5) sc_Flow_take_all.nd rfl (Or.inl rfl) (pe_dget (hu_of hr) (pe_fldK (K := K) rfl (pv 0) rfl) (pe_ix (kxT (K := K) rfl) (pv 4) pe_int (fun _ _ => rfl)) (fun _ _ => rfl)))
  (pss_one (ps_dput (hu_of hr) (pv 5) (pv 2) (pe_op op_add (pe_dget2 (hu_of hr) (pv 5) (pv 2) pe_int ⟨rfl, rfl, rfl, rfl⟩) (pv 3)) rfl)))
    pss_nil)
  (pss_one (ps_for PassesOwn.never rfl (pi_listK (K := K) rfl (pe_cal C_goes_on (hr.mono (by decide)) (by rfl) (pa_cons (pe_fldK (K := K) rfl (pv 0) rfl) (pa_cons (pv 1) (pa_cons (pv 2) pa_nil))))) (pg_tupK (K := K) rfl rfl (pgs_cons (pg_name (i := 6) sc_Flow_take_all.nd rfl (Or.inl rfl)) (pgs_cons (pg_name (i := 7) sc_Flow_take_all.nd rfl (Or.inl rfl)) (pgs_cons (pg_name (i := 8) sc_Flow_take_all.nd rfl (Or.inl rfl)) pgs_nil))))
    (pss_one (ps_expr (pe_mth T.cls_Flow C_Flow_put (hr.mono (by decide)) (pv 0) (pa_cons (pv 6) (pa_cons (pv 7) (pa_cons (pe_op op_mul (pv 8) (pv 3)) pa_nil))))))))))), ?_⟩
    have hrl : r < rows.length := (List.getElem?_eq_some_iff.mp hrow).1
    have hrd : r < S.done.length := by rw [gd.dl]; exact hrl
    have hd : S.done[r]? = some (S.done.getD r 0) := by simp [List.getD, hrd]
    -- self.done[row] = self.done[row] + many
    refine ⟨_, rfl, p, _, A.dx, _, _, rfl, f.ob, T.cls_Flow, T.no_Flow_done, lkF_done, _, rfl, A.dd, S.done.map .int, (r : Int), .int (S.done.getD r 0), rfl, rfl, .inl (.inl f.dn), atI_nat (by rw [List.getElem?_map, hd]; rfl), _, rfl, S.done.getD r 0, many, rfl, rfl, ?_⟩
    refine ⟨_, rfl, p, _, A.dx, _, _, rfl, f.ob, T.cls_Flow, T.no_Flow_done, lkF_done, _, rfl, A.dd, S.done.map .int, (r : Int), r, rfl, rfl, f.dn, ?_, ?_⟩
    · unfold ixN
      rw [if_pos (by omega), if_pos (by rw [List.length_map]; omega), Int.toNat_natCast]
    rw [show (S.done.map V.int).set r (.int (S.done.getD r 0 + many)) = (S.done.set r (S.done.getD r 0 + many)).map .int from (List.map_set).symm]
    have f1 := f.setDone (S.done.set r (S.done.getD r 0 + many))
    have ddm : A.dd ∈ foot p A S := by simp [foot]
    have g1 : FGr (foot p A S) Hb H (foot p A { S with done := S.done.set r (S.done.getD r 0 + many) }) Hb (upd H A.dd (.lst ((S.done.set r (S.done.getD r 0 + many)).map .int))) := FGr.updF sm ddm (f.out _ ddm) (f.nn ddm)
    generalize upd H A.dd (.lst ((S.done.set r (S.done.getD r 0 + many)).map .int)) = H1 at f1 g1
    generalize hS1 : ({ S with done := S.done.set r (S.done.getD r 0 + many) } : FS) = S1 at f1 g1
    have eS1 : S1.pend = S.pend ∧ S1.kept = S.kept ∧ S1.done = S.done.set r (S.done.getD r 0 + many) := by rw [← hS1]; exact ⟨rfl, rfl, rfl⟩
    -- told = self.works.rows[row]
    have E1 : EvG H [.p (Cst (.ref p)), .p (D (.int r)), .p (D (.int size)), .p (D (.int many)), .no, .no, .no, .no, .no] Hb H1 [some (.ref p), some (.int r), some (.int size), some (.int many), none, none, none, none, none] :=
      start_env (As := [Cst (.ref p), D (.int r), D (.int size), D (.int many)]) (N := N_Flow_take_all) (k := 5) ⟨_, _, rfl, rfl, _, _, rfl, rfl, _, _, rfl, rfl, _, _, rfl, rfl, rfl⟩ ⟨mono_Cst, mono_D _, mono_D _, mono_D _, trivial⟩ rfl
    refine (y_ixL (R := RFw K p wv A S1 pt rows) (d := rowD row) (y_rows T (y_fworksW T (y_var rfl))) (y_var rfl) (atI_nat (by rw [List.getElem?_map, hrow]; rfl))) H Hb H1 _ E1 ⟨f1, hw⟩ g1.in_ _ fun v Hb2 H2 g2 pv2 => ?_
    have f2 := f1.grow g2
    have g12 := g1.trans (FGr.ofGrow g2)
    have hw2 := mono_Ws _ _ _ g2.fz hw
    have E2 : EvG H [.p (Cst (.ref p)), .p (D (.int r)), .p (D (.int size)), .p (D (.int many)), .p (D (rowD row)), .no, .no, .no, .no] Hb2 H2 [some (.ref p), some (.int r), some (.int size), some (.int many), some v, none, none, none, none] := (E1.grow g2).put (i := 4) (mono_D _) pv2
    -- the kept grains of a bin
    suffices fin : ∀ (S3 : FS) (Hb3 H3 : Hp) (o5 : Option V), S3.done = S.done.set r (S.done.getD r 0 + many) → S3.kept = keptP row S.kept size many → S3.pend = S.pend → FlowAt K Hb3 H3 p wv A S3 → Ws K pt rows Hb3 wv → FGr (foot p A S) Hb H (foot p A S3) Hb3 H3 →
        tFor (iList K (tCall (sp_goes_on K) [] E0 (tCons (tFld K (tVar 0) "works") (tCons (tVar 1) (tCons (tVar 2) tNil))))) (gTup K 3 (gCons (gName 6) (gCons (gName 7) (gCons (gName 8) gNil)))) (tDrop (tMeth (He.ga K "Flow") "put" (sp_Flow_put K) [] E0 (tVar 0) (tCons (tVar 6) (tCons (tVar 7) (tCons (tOp (rI CMul fun i j => .int (i * j)) (tVar 8) (tVar 3)) tNil)))))
          { nx := fun _ H' => Q .non H', rt := Q } [some (.ref p), some (.int r), some (.int size), some (.int many), some v, o5, none, none, none] H3 by
      have gz : Hb2 = Hb2 := rfl
      cases row with
      | bin b =>
        have hb := gd.kb b (List.mem_of_getElem? hrow)
        cases hg : getP S.kept b with
        | none => exact absurd hb (getP_none.mp hg)
        | some al =>
          obtain ⟨a, l⟩ := al
          have hm2 := getP_some hg
          have hkd : H2 A.dk = some (.dK (S.kept.map pvE)) := by rw [← eS1.2.1]; exact f2.kp
          have hai : H2 a = some (.dK (l.map kvI)) := f2.kpI _ (by rw [eS1.2.1]; exact hm2)
          refine yt_is (b := true) (R := R0) (yt_test (y_eq (y_ixT (y_var (P := D (rowD (.bin b))) rfl) y_int rfl) y_str rfl)) (by simp [eqd]) H Hb2 H2 _ E2 trivial g2.in_ _ fun Hb4 H4 g4 => ?_
          have f4 := f2.grow g4
          have E4 := E2.grow g4
          have hkd4 := g4.al _ _ hkd
          have hai4 := g4.al _ _ hai
          -- held = self.kept[told[1]]
          refine ⟨_, rfl, p, _, A.dx, _, _, rfl, f4.ob, T.cls_Flow, T.no_Flow_kept, lkF_kept, ?_⟩
          refine (y_ixT (R := R0) (ds := [.str "bin", .int b]) (d := .int b) (y_var rfl) y_int rfl) H Hb4 H4 _ E4 trivial g4.in_ _ fun w5 Hb5 H5 g5 pv5 => ?_
          obtain rfl : w5 = .int b := pv5
          have f5 := f4.grow g5
          have hkd5 := g5.al _ _ hkd4
          have hai5 := g5.al _ _ hai4
          have dg : DGet H5 A.dk (.int b) (some (.ref a)) := by
            have := DGet.k (k := (Sum.inl b : Key)) hkd5
            rw [valV_pvE, hg] at this
            exact this
          refine ⟨A.dk, .ref a, rfl, dg, ?_⟩
          have dg2 : DGet H5 a (.int size) ((getI l size).map V.int) := by
            rw [← valV_kvI]
            exact DGet.k (k := Sum.inl size) hai5
          refine ⟨_, rfl, a, rfl, .inl ⟨_, .inl hai5⟩, _, rfl, _, dg2, _, rfl, (getI l size).getD 0, many, getD_int _ _, rfl, ?_⟩
          have kl : l.length ≤ 1000000 := by
            have h1 := nd_le (l := l.map (·.1)) (m := U) (gd.kept.ind _ hm2) (fun x hx => by
              obtain ⟨q, hq, rfl⟩ := List.mem_map.mp hx
              exact (gd.kept.sub _ hm2 q hq).1)
            rw [List.length_map] at h1
            have := u.len
            omega
          refine ⟨_, rfl, _, rfl, a, _, rfl, DPut.k (k := Sum.inl size) hai5 (by rw [List.length_map]; exact Nat.lt_of_le_of_lt kl (by decide)), ?_⟩
          rw [putK_kvI]
          have f6 := f5.modKept (b := b) (size := size) (many := many) (by rw [eS1.2.1]; exact gd.kept.nd) (by rw [eS1.2.1]; exact hg)
          have am : a ∈ foot p A S1 := by
            rw [foot, eS1.2.1]
            simp only [List.mem_cons, List.mem_append, List.mem_map]
            exact .inr (.inr (.inr (.inr (.inr ⟨_, hm2, rfl⟩))))
          refine fin { S1 with kept := modP S1.kept b size many } Hb5 _ (some (.ref a)) eS1.2.2 (by show modP S1.kept b size many = _; rw [eS1.2.1]; rfl) eS1.1 f6 (mono_Ws _ _ _ (g4.fz.trans g5.fz) hw2) ?_
          have g6 : FGr (foot p A S1) Hb5 H5 (foot p A S1) Hb5 (upd H5 a (.dK ((addI l size many).map kvI))) := FGr.updF g5.in_ am (f5.out _ am) (f5.nn am)
          have g7 := ((g12.trans (FGr.ofGrow g4)).trans (FGr.ofGrow g5)).trans g6
          refine ⟨g7.fz, g7.in_, g7.al, g7.mo, fun x hx => g7.fp x ?_, g7.nw⟩
          have hx' : x ∈ p :: A.dd :: A.ds :: A.dk :: (S1.pend.map (·.2.1) ++ (modP S1.kept b size many).map (·.2.1)) := hx
          rw [modP_addrs] at hx'
          exact hx'
      | mesh c0 x o =>
        refine yt_is (b := false) (R := R0) (yt_test (y_eq (y_ixT (y_var (P := D (rowD (.mesh c0 x o))) rfl) y_int rfl) y_str rfl)) (by simp [eqd, sx_mb]) H Hb2 H2 _ E2 trivial g2.in_ _ fun Hb4 H4 g4 => ?_
        exact fin S1 Hb4 H4 none eS1.2.2 eS1.2.1 eS1.1 (f2.grow g4) (mono_Ws _ _ _ g4.fz hw2) (g12.trans (FGr.ofGrow g4))
      | crush t =>
        refine yt_is (b := false) (R := R0) (yt_test (y_eq (y_ixT (y_var (P := D (rowD (.crush t))) rfl) y_int rfl) y_str rfl)) (by simp [eqd, sx_cb]) H Hb2 H2 _ E2 trivial g2.in_ _ fun Hb4 H4 g4 => ?_
        exact fin S1 Hb4 H4 none eS1.2.2 eS1.2.1 eS1.1 (f2.grow g4) (mono_Ws _ _ _ g4.fz hw2) (g12.trans (FGr.ofGrow g4))
    clear f1 g1 E1 E2 f2 g12 hw2 g2 pv2 hS1 eS1
    intro S3 Hb3 H3 o5 d3 k3 q3 f3 hw3 g3
    have E3 : EvG H [.p (Cst (.ref p)), .p (D (.int r)), .p (D (.int size)), .p (D (.int many)), .no, .no, .no, .no, .no] Hb3 H3 [some (.ref p), some (.int r), some (.int size), some (.int many), some v, o5, none, none, none] := by
      refine ⟨rfl, fun i e q => ?_, fun i j e f' l q1 _ m1 _ _ _ => ?_⟩
      · match i, q with
        | 0, q => cases q; exact ⟨mono_Cst, _, rfl, rfl⟩
        | 1, q => cases q; exact ⟨mono_D _, _, rfl, rfl⟩
        | 2, q => cases q; exact ⟨mono_D _, _, rfl, rfl⟩
        | 3, q => cases q; exact ⟨mono_D _, _, rfl, rfl⟩
        | 4, q => cases q; trivial
        | 5, q => cases q; trivial
        | 6, q => cases q; trivial
        | 7, q => cases q; trivial
        | 8, q => cases q; trivial
        | i + 9, q => cases q
      · match i, q1 with
        | 0, q => cases q; cases m1
        | 1, q => cases q; cases m1
        | 2, q => cases q; cases m1
        | 3, q => cases q; cases m1
        | 4, q => cases q; cases m1
        | 5, q => cases q; cases m1
        | 6, q => cases q; cases m1
        | 7, q => cases q; cases m1
        | 8, q => cases q; cases m1
        | i + 9, q => cases q
    refine (y_call (R := RFw K p wv A S3 pt rows) (As := [Ws K pt rows, D (.int r), D (.int size)]) (P := D (.list ((goesR pt row size).map tripD))) (ya_cons (y_fworksW T (y_var rfl)) mono_Ws (ya_cons (y_var rfl) (mono_D _) (ya_cons (y_var rfl) (mono_D _) ya_nil))) fun vs H Q h => ⟨pt, rows, r, size, row, ⟨p1, p2, hrow⟩, h⟩) H Hb3 H3 _ E3 ⟨f3, hw3⟩ g3.in_ _ fun lv Hb4 H4 g4 pv4 => ?_
    obtain ⟨la, ys, rfl, hla, hys⟩ := pv4
    have gs_ok := gsOf_ok p1 p2 ok u hs hm hrow (r := r)
    have yl : ys.length = (goesR pt row size).length := by rw [hys.length, List.length_map]
    refine ⟨la, rfl, ⟨ys, .inl (.inl (g4.in_ _ _ hla))⟩, for_list (xs := ys) (fun i σ' H' => ∃ (S5 : FS) (Hb5 : Hp) (o6 o7 o8 : Option V), σ' = [some (.ref p), some (.int r), some (.int size), some (.int many), some v, o5, o6, o7, o8] ∧ S5.done = S3.done ∧ S5.kept = S3.kept ∧ PutAll S.pend S5.pend ((gsOf pt row size many).take i) ∧ FlowAt K Hb5 H' p wv A S5 ∧ Same Hb4 Hb5 ∧ FGr (foot p A S) Hb H (foot p A S5) Hb5 H')
      ⟨S3, Hb4, none, none, none, rfl, rfl, rfl, by rw [q3]; exact .nil _, f3.grow g4, Same.refl _, g3.trans (FGr.ofGrow g4)⟩ (fun i σ' H' _ ⟨S5, Hb5, _, _, _, _, _, _, _, _, sb, gg⟩ => .inl (.inl (gg.in_ _ _ (sb _ _ hla)))) ?_ ?_⟩
    · rintro i x σ' H' hx ⟨S5, Hb5, o6, o7, o8, rfl, e1, e2, pa, f5, sb, gg⟩
      obtain ⟨d, z1, z2⟩ := hys.get' hx
      rw [List.getElem?_map] at z1
      cases hgi : (goesR pt row size)[i]? with
      | none => rw [hgi] at z1; cases z1
      | some g0 =>
        rw [hgi] at z1
        cases z1
        obtain ⟨ta, ts, rfl, hta, w1, r1, rfl, y1, w2, r2, rfl, y2, w3, r3, rfl, y3, rfl⟩ := Dv.mono sb _ _ z2
        obtain rfl : w1 = .int g0.1 := y1
        obtain rfl : w2 = .int g0.2.1 := y2
        obtain rfl : w3 = .int g0.2.2 := y3
        refine ⟨ta, _, rfl, .inl (.inl (gg.in_ _ _ hta)), rfl, _, _, rfl, _, _, rfl, _, _, rfl, rfl, ?_⟩
        have hgs : (gsOf pt row size many)[i]? = some ((g0.1 : Int), g0.2.1, g0.2.2 * many) := by
          unfold gsOf
          rw [List.getElem?_map, hgi]; rfl
        have pok := pa.ok gd.pend fun g hg => gs_ok g (List.mem_of_mem_take hg)
        have pl1 := u_len pok
        have pl2 := pok.inner
        have pu := u.len
        have g0p : 0 < g0.2.2 ∧ g0.2.2 ≤ 9 := by
          have hmem := List.mem_of_getElem? hgi
          cases row with
          | bin b => cases hmem
          | mesh c a o =>
            simp only [goesR] at hmem
            split at hmem <;> (rw [List.mem_singleton.mp hmem]; exact ⟨by show (0 : Int) < 1; decide, by show (1 : Int) ≤ 9; decide⟩)
          | crush t =>
            simp only [goesR] at hmem
            obtain ⟨q, hq, rfl⟩ := List.mem_map.mp hmem
            rcases pieces_cases (u.pos size hs) p1 p2 with ⟨_, _, _, e⟩ | ⟨s2, _, e⟩ | ⟨_, _, h3, h4, e⟩ <;> rw [e] at hq
            · rw [List.mem_singleton.mp hq]; exact ⟨by show 0 < pt; omega, by show pt ≤ 9; omega⟩
            · have := u.pos size hs
              rw [List.mem_singleton.mp hq]; exact ⟨by show 0 < size; omega, by show size ≤ 9; omega⟩
            · rcases List.mem_cons.mp hq with rfl | hq
              · exact ⟨by show 0 < pt - size % pt; omega, by show pt - size % pt ≤ 9; omega⟩
              · rw [List.mem_singleton.mp hq]; exact ⟨by show 0 < size % pt; omega, by show size % pt ≤ 9; omega⟩
        refine ⟨_, rfl, p, A.dx, _, rfl, f5.ob, ?_, _, rfl, _, rfl, _, rfl, _, rfl, g0.2.2, many, rfl, rfl, .inl ⟨by omega, by omega⟩, ?_⟩
        · have h1 : (("put" : Str) == ("works" : Str)) = false := by decide +kernel
          have h2 : (("put" : Str) == ("sizes" : Str)) = false := by decide +kernel
          have h3 : (("put" : Str) == ("done" : Str)) = false := by decide +kernel
          have h4 : (("put" : Str) == ("kept" : Str)) = false := by decide +kernel
          simp [List.lookup, h1, h2, h3, h4]
        refine ⟨p, wv, A, S5, Hb5, g0.1, g0.2.1, g0.2.2 * many, rfl, f5, gg.in_, pok.nd, by omega, fun e he => by have := pl2 e he; omega, fun a H6 f6 g6 => ?_⟩
        refine ⟨{ S5 with pend := putP S5.pend g0.2.1 g0.1 (g0.2.2 * many) a }, Hb5, _, _, _, rfl, e1, e2, ?_, f6, sb, gg.trans g6⟩
        rw [List.take_add_one, hgs]
        exact pa.snoc ((g0.1 : Int), g0.2.1, g0.2.2 * many) a
    · rintro σ' H' ⟨S5, Hb5, o6, o7, o8, rfl, e1, e2, pa, f5, sb, gg⟩
      rw [List.take_of_length_le (by unfold gsOf; rw [List.length_map, yl]; exact Nat.le_refl _)] at pa
      exact k S5 Hb5 H' (by rw [e1, d3]) (by rw [e2, k3]) pa f5 gg
end
end MW

/-! G4 -/
set_option Elab.async false
set_option linter.all false
set_option maxRecDepth 100000
set_option maxHeartbeats 400000
namespace MW
open PySem PySem.Spec L2

/-! ### what is weighed -/
structure Eqn (pt : Int) (rows : List Rw) (α : Nat → Int) (β : Int → Int → Int) (F : Nat → Int → Int) : Prop where
  eq : ∀ (r : Nat) (row : Rw) (s : Int), rows[r]? = some row → 1 ≤ s → F r s = α r + (match row with | .bin b => β b s | _ => 0) + ((goesR pt row s).map fun g => g.2.2 * F g.1 g.2.1).sum
def dsum : List Int → Nat → (Nat → Int) → Int
  | [], _, _ => 0
  | d :: ds, i, α => d * α i + dsum ds (i + 1) α
theorem dsum_set (α : Nat → Int) (m : Int) : ∀ (ds : List Int) (i r : Nat), r < ds.length → dsum (ds.set r (ds.getD r 0 + m)) i α = dsum ds i α + m * α (i + r)
  | [], _, r, h => absurd h (Nat.not_lt_zero r)
  | d :: ds, i, 0, _ => by
    show (d + m) * α i + dsum ds (i + 1) α = d * α i + dsum ds (i + 1) α + m * α (i + 0)
    rw [Int.add_mul]
    show d * α i + m * α i + dsum ds (i + 1) α = d * α i + dsum ds (i + 1) α + m * α i
    omega
  | d :: ds, i, r + 1, h => by
    have ih := dsum_set α m ds (i + 1) r (Nat.lt_of_succ_lt_succ h)
    show d * α i + dsum (ds.set r (ds.getD r 0 + m)) (i + 1) α = d * α i + dsum ds (i + 1) α + m * α (i + (r + 1))
    rw [ih, show i + 1 + r = i + (r + 1) by omega]; omega
def Vtot (S : FS) (α : Nat → Int) (β : Int → Int → Int) (F : Nat → Int → Int) : Int := dsum S.done 0 α + sumP S.kept (fun z b => β b z) + sumP S.pend (fun r s => F r.toNat s)
/-- grains of a size that a row takes -/
structure Taken (pt : Int) (r : Nat) (row : Rw) (size many : Int) (S S2 : FS) : Prop where
  d : S2.done = S.done.set r (S.done.getD r 0 + many)
  k : S2.kept = keptP row S.kept size many
  p : PutAll S.pend S2.pend (gsOf pt row size many)
theorem sum_mul (m : Int) (f : Nat → Int → Int) : ∀ gs : List (Nat × Int × Int), (gs.map fun g => g.2.2 * m * f g.1 g.2.1).sum = m * (gs.map fun g => g.2.2 * f g.1 g.2.1).sum
  | [] => by simp
  | g :: gs => by
    rw [List.map_cons, List.map_cons, List.sum_cons, List.sum_cons, sum_mul m f gs, Int.mul_add, Int.mul_comm g.2.2 m, Int.mul_assoc]
section
variable {pt : Int} {rows : List Rw} {U : List Int} {r : Nat} {row : Rw} {size many : Int} {S S2 : FS}
theorem Taken.V (t : Taken pt r row size many S S2) (p1 : 2 ≤ pt) (p2 : pt ≤ 9) (ok : RowsOk rows) (u : Univ pt U) (hs : size ∈ U) (hm : 0 < many) (hr : rows[r]? = some row) (gd : Good rows U S)
    {α : Nat → Int} {β : Int → Int → Int} {F : Nat → Int → Int} (e : Eqn pt rows α β F) : Vtot S2 α β F = Vtot S α β F + many * F r size := by
  have gs_ok := gsOf_ok p1 p2 ok u hs hm hr
  have hrl : r < S.done.length := by rw [gd.dl]; exact (List.getElem?_eq_some_iff.mp hr).1
  unfold Vtot
  rw [t.d, t.k, dsum_set α many S.done 0 r hrl, t.p.sum gd.pend gs_ok, Nat.zero_add, e.eq r row size hr (u.pos size hs)]
  have hg : ((gsOf pt row size many).map fun g => g.2.2 * F g.1.toNat g.2.1).sum = many * ((goesR pt row size).map fun g => g.2.2 * F g.1 g.2.1).sum := by
    unfold gsOf
    rw [List.map_map, ← sum_mul]
    congr 1
  rw [hg]
  cases row with
  | bin b =>
    show _ + sumP (modP S.kept b size many) _ + _ = _
    rw [modP_sum gd.kept.nd gd.kept.ind (gd.kb b (List.mem_of_getElem? hr))]
    simp only [goesR, List.map_nil, List.sum_nil, Int.mul_add, Int.mul_zero]
    omega
  | mesh c a o =>
    show _ + sumP S.kept _ + _ = _
    simp only [Int.mul_add, Int.mul_zero]
    omega
  | crush t =>
    show _ + sumP S.kept _ + _ = _
    simp only [Int.mul_add, Int.mul_zero]
    omega
theorem Taken.good (t : Taken pt r row size many S S2) (p1 : 2 ≤ pt) (p2 : pt ≤ 9) (ok : RowsOk rows) (u : Univ pt U) (hs : size ∈ U) (hm : 0 < many) (hr : rows[r]? = some row) (gd : Good rows U S) : Good rows U S2 := by
  have gs_ok := gsOf_ok p1 p2 ok u hs hm hr
  refine ⟨t.p.ok gd.pend gs_ok, t.p.ne gd.ne, by rw [t.d, List.length_set]; exact gd.dl, ?_, fun b hb => ?_⟩
  · rw [t.k]
    cases row with
    | bin b => exact gd.kept.mod hs hm
    | mesh c a o => exact gd.kept
    | crush t => exact gd.kept
  · rw [t.k]
    cases row with
    | bin b' => show b ∈ (modP S.kept b' size many).map (·.1); rw [modP_keys]; exact gd.kb b hb
    | mesh c a o => exact gd.kb b hb
    | crush t => exact gd.kb b hb
theorem goes_whole {g : Nat × Int × Int} (p1 : 2 ≤ pt) (p2 : pt ≤ 9) (hs : 1 ≤ size) (hg : g ∈ goesR pt row size) : g.2.1 ≤ size ∧ (g.2.1 = size → wholeR row size = some g.1) := by
  cases row with
  | bin b => cases hg
  | mesh c a o =>
    simp only [goesR] at hg
    simp only [wholeR]
    split at hg
    · rename_i h; rw [List.mem_singleton.mp hg, if_pos h]; exact ⟨Int.le_refl _, fun _ => rfl⟩
    · rename_i h; rw [List.mem_singleton.mp hg, if_neg h]; exact ⟨Int.le_refl _, fun _ => rfl⟩
  | crush t =>
    simp only [goesR] at hg
    obtain ⟨q, hq, rfl⟩ := List.mem_map.mp hg
    simp only [wholeR]
    rcases pieces_cases hs p1 p2 with ⟨_, h1, h2, e⟩ | ⟨h1, _, e⟩ | ⟨_, h3, _, _, e⟩ <;> rw [e] at hq
    · rw [List.mem_singleton.mp hq]
      exact ⟨by show size / pt ≤ size; omega, fun z => by exfalso; have z : size / pt = size := z; omega⟩
    · rw [List.mem_singleton.mp hq]
      exact ⟨hs, fun z => by have z : 1 = size := z; rw [if_pos z.symm]⟩
    · rcases List.mem_cons.mp hq with rfl | hq
      · exact ⟨by show size / pt ≤ size; omega, fun z => by exfalso; have z : size / pt = size := z; omega⟩
      · rw [List.mem_singleton.mp hq]
        exact ⟨by show size / pt + 1 ≤ size; omega, fun z => by exfalso; have z : size / pt + 1 = size := z; omega⟩
theorem Taken.inp (t : Taken pt r row size many S S2) (p1 : 2 ≤ pt) (p2 : pt ≤ 9) (hs : 1 ≤ size) {r' x : Int} (h : InP S2.pend r' x) : InP S.pend r' x ∨ x < size ∨ (x = size ∧ wholeR row size = some r'.toNat) := by
  rcases t.p.inp h with z | ⟨g, hg, e1, e2⟩
  · exact .inl z
  · right
    unfold gsOf at hg
    obtain ⟨g0, h0, rfl⟩ := List.mem_map.mp hg
    obtain ⟨w1, w2⟩ := goes_whole p1 p2 hs h0
    have e1 : ((g0.1 : Nat) : Int) = r' := e1
    have e2 : g0.2.1 = x := e2
    by_cases e : x = size
    · right
      refine ⟨e, ?_⟩
      rw [w2 (by rw [e2, e]), ← e1, Int.toNat_natCast]
    · left; omega
end
def dropP (l : PL) (k : Int) : PL := l.filter fun e => decide (e.1 ≠ k)
theorem dropP_pvE (l : PL) (k : Int) : dropK (l.map pvE) (Sum.inl k : Key) = (dropP l k).map pvE := by
  unfold dropK dropP
  rw [List.filter_map]
  congr 1
  refine List.filter_congr fun e _ => ?_
  show decide ((Sum.inl e.1 : Key) ≠ Sum.inl k) = decide (e.1 ≠ k)
  rw [Bool.eq_iff_iff]; simp
theorem dropP_sum {l : PL} {k : Int} {a : Addr} {d : List (Int × Int)} {f : Int → Int → Int} (hn : (l.map (·.1)).Nodup) (h : getP l k = some (a, d)) : sumP l f = sumP (dropP l k) f + sumF d (fun r => f r k) := by
  have hm := getP_some h
  clear h
  induction l with
  | nil => cases hm
  | cons e l ih =>
    rw [List.map_cons, List.nodup_cons] at hn
    unfold dropP
    rw [List.filter_cons, sumP_cons]
    rcases List.mem_cons.mp hm with z | z
    · have hk : e.1 = k := by rw [← z]
      have rest : l.filter (fun e => decide (e.1 ≠ k)) = l := List.filter_eq_self.mpr fun x hx => by
        simp only [decide_eq_true_eq]
        intro q
        exact hn.1 (List.mem_map.mpr ⟨x, hx, by rw [q, hk]⟩)
      rw [if_neg (by simp [hk]), rest, hk]
      have : e.2.2 = d := by rw [← z]
      rw [this]; omega
    · have hk : ¬ e.1 = k := fun q => hn.1 (List.mem_map.mpr ⟨(k, a, d), z, q.symm⟩)
      rw [if_pos (by simp [hk]), sumP_cons]
      have := ih hn.2 z
      unfold dropP at this
      rw [this]; omega
theorem dropP_mem {l : PL} {k : Int} {e : Int × Addr × List (Int × Int)} (h : e ∈ dropP l k) : e ∈ l ∧ e.1 ≠ k := by
  unfold dropP at h
  obtain ⟨h1, h2⟩ := List.mem_filter.mp h
  exact ⟨h1, of_decide_eq_true h2⟩
theorem dropP_ok {U : List Int} {A B : Int → Prop} {l : PL} {k : Int} (h : PlOk U A B l) : PlOk U A B (dropP l k) :=
  ⟨(List.filter_sublist.map _).nodup h.nd, fun e he => h.ind e (dropP_mem he).1, fun e he => h.key e (dropP_mem he).1, fun e he => h.sub e (dropP_mem he).1⟩
theorem dropP_inp {l : PL} {k r x : Int} (h : InP (dropP l k) r x) : InP l r x ∧ x ≠ k := by
  obtain ⟨e, h1, h2, h3⟩ := h
  obtain ⟨h4, h5⟩ := dropP_mem h1
  exact ⟨⟨e, h4, h2, h3⟩, by rw [← h2]; exact h5⟩
section
variable {K : PySem.W.Frag} {Hb H : Hp} {p : Addr} {wv : V} {A : FA} {S : FS}
theorem FlowAt.drop (f : FlowAt K Hb H p wv A S) (k : Int) : FlowAt K Hb (upd H A.ds (.dK ((dropP S.pend k).map pvE))) p wv A { S with pend := dropP S.pend k } := by
  have nd := f.nd
  simp only [foot, List.nodup_cons, List.mem_cons, List.mem_append, not_or] at nd
  obtain ⟨⟨n1, n1b, _⟩, ⟨n2, n3, _⟩, ⟨m1, m2, m3⟩, _⟩ := nd
  have keep : ∀ b o, b ≠ A.ds → H b = some o → (upd H A.ds (.dK ((dropP S.pend k).map pvE))) b = some o := fun b o h e => by rw [upd_ne h]; exact e
  refine ⟨keep _ _ n1b f.ob, upd_same, fun e he => keep _ _ (fun q => m2 (q ▸ List.mem_map.mpr ⟨e, (dropP_mem he).1, rfl⟩)) (f.szI e (dropP_mem he).1), keep _ _ n2 f.dn, keep _ _ (Ne.symm m1) f.kp, fun e he => keep _ _ (fun q => m3 (q ▸ List.mem_map.mpr ⟨e, he, rfl⟩)) (f.kpI e he), ?_, fun a ha => f.out a ?_⟩
  · have s : ((dropP S.pend k).map (·.2.1) ++ S.kept.map (·.2.1)).Sublist (S.pend.map (·.2.1) ++ S.kept.map (·.2.1)) := (List.filter_sublist.map _).append (List.Sublist.refl _)
    exact ((((s.cons₂ A.dk).cons₂ A.ds).cons₂ A.dd).cons₂ p).nodup f.nd
  · have s : ((dropP S.pend k).map (·.2.1) ++ S.kept.map (·.2.1)).Sublist (S.pend.map (·.2.1) ++ S.kept.map (·.2.1)) := (List.filter_sublist.map _).append (List.Sublist.refl _)
    exact ((((s.cons₂ A.dk).cons₂ A.ds).cons₂ A.dd).cons₂ p).subset ha
end
theorem take_sumF {l : List (Int × Int)} {i : Nat} {q : Int × Int} (h : l[i]? = some q) (f : Int → Int) : sumF (l.drop i) f = q.2 * f q.1 + sumF (l.drop (i + 1)) f := by
  obtain ⟨hi, e⟩ := List.getElem?_eq_some_iff.mp h
  rw [List.drop_eq_getElem_cons hi, sumF_cons, e]
section
variable {P : Program} {w : World} {K : PySem.W.Frag} {mg : Str → Option Value} {base : Heap}
/-- what a flow's going on keeps -/
structure Went (rows : List Rw) (pt : Int) (U : List Int) (S S2 : FS) : Prop where
  good : Good rows U S2
  v : ∀ α β F, Eqn pt rows α β F → Vtot S2 α β F = Vtot S α β F
def sp_Flow_go_size (K : PySem.W.Frag) : Sp := fun vs H Q _ => ∃ (p : Addr) (wv : V) (A : FA) (S : FS) (Hb : Hp) (pt : Int) (rows : List Rw) (U : List Int) (size : Int), vs = [.ref p, .int size] ∧
  (2 ≤ pt ∧ pt ≤ 9 ∧ RowsOk rows ∧ rows.length ≤ 1000 ∧ NoRing rows ∧ Univ pt U ∧ size ∈ U ∧ Good rows U S) ∧ FlowAt K Hb H p wv A S ∧ Ws K pt rows Hb wv ∧ Same Hb H ∧
  ∀ (S2 : FS) (Hb2 H2 : Hp), Went rows pt U S S2 → (∀ r x, InP S2.pend r x → (InP S.pend r x ∧ x ≠ size) ∨ x < size) → FlowAt K Hb2 H2 p wv A S2 → FGr (foot p A S) Hb H (foot p A S2) Hb2 H2 → Q .non H2
theorem mt_Flow_go_size (T : Tx K mg) : Mth P w K mg base 4 (He.ga K "Flow") "go_size" ["self", "size"] (sp_Flow_go_size K) := by
  have C_Flow_take_all := mt_Flow_take_all (P := P) (w := w) (base := base) T
  obtain ⟨fd, F⟩ := T.c.def_ 14 (d := d_Flow_go_size) rfl
  refine ⟨_, fd, T.me_Flow_go_size, FunD.bindsN (ps := ["self", "size"]) F fun _ _ _ _ _ _ us hl => match us, hl with | [_, _], _ => rfl, def_ok F sc_Flow_go_size ?_ fun cdv A outer s H vs Q E hr h => ?_⟩
  · rintro vs H Q E ⟨p, wv, A, S, Hb, pt, rows, U, size, rfl, _⟩
    rfl
  · obtain ⟨p, wv, A, S, Hb, pt, rows, U, size, rfl, ⟨p1, p2, ok, hl, nr, u, hs, gd⟩, f, hw, sm, k⟩ := h
    refine ⟨_, (pss_one (ps_while PassesOwn.never (pt_cmp (pc_din (hu_of hr) (pv 1) (pe_fldK (K := K) rfl (pv 0) rfl)))
    (pss_cons (ps_set (i := 2) sc_Flow_go_size.nd rfl (Or.inl rfl) (pe_dpop1 (pe_fldK (K := K) rfl (pv 0) rfl) (pv 1) ⟨rfl, rfl, rfl, rfl⟩))
  (pss_one (ps_for PassesOwn.never rfl (pi_listK (K := K) rfl (pe_callTy (c_listD rfl) (by rfl) T.list bb_list (pa_cons (pv 2) pa_nil))) (pg_name (i := 3) sc_Flow_go_size.nd rfl (Or.inl rfl))
    (pss_one (ps_expr (pe_mth T.cls_Flow C_Flow_take_all (hr.mono (by decide)) (pv 0) (pa_cons (pv 3) (pa_cons (pv 1) (pa_cons (pe_dget (hu_of hr) (pv 2) (pv 3) (fun _ _ => rfl)) pa_nil))))))))))), ?_⟩
    have s1 := u.pos size hs
    refine ⟨fun m σ' H' => ∃ (S2 : FS) (Hb2 : Hp) (o2 o3 : Option V), σ' = [some (.ref p), some (.int size), o2, o3] ∧ Went rows pt U S S2 ∧ (∀ r x, InP S2.pend r x → (InP S.pend r x ∧ x ≠ size) ∨ x < size ∨ x = size) ∧ (∀ r, InP S2.pend r size → itW rows size (some r.toNat) m = none) ∧ FlowAt K Hb2 H' p wv A S2 ∧ FGr (foot p A S) Hb H (foot p A S2) Hb2 H', ⟨1000, S, Hb, none, none, rfl, ⟨gd, fun _ _ _ _ => rfl⟩, fun r x h => ?_, fun r h => ?_, f, .refl sm⟩, ?_⟩
    · by_cases e : x = size
      · exact .inr (.inr e)
      · exact .inl ⟨h, e⟩
    · obtain ⟨e, he, e1, hre⟩ := h
      obtain ⟨q, hq, rfl⟩ := List.mem_map.mp hre
      obtain ⟨⟨b1, b2⟩, _⟩ := gd.pend.sub e he q hq
      obtain ⟨N, n1, n2⟩ := nr size s1 q.1.toNat (by omega)
      have := itW_none n2 (1000 - N)
      rw [show N + (1000 - N) = 1000 by omega] at this
      exact this
    rintro m σ' H' ⟨S2, Hb2, o2, o3, rfl, wt, kc, rk, f2, g2⟩
    have hw2 := mono_Ws _ _ _ g2.fz hw
    have dg : DGet H' A.ds (.int size) ((getP S2.pend size).map fun v => V.ref v.1) := by
      rw [← valV_pvE]
      exact DGet.k (k := Sum.inl size) f2.sz
    refine ⟨_, rfl, _, rfl, p, _, A.dx, _, _, rfl, f2.ob, T.cls_Flow, T.no_Flow_sizes, lkF_sizes, A.ds, _, rfl, dg, _, rfl, ?_⟩
    cases hg : getP S2.pend size with
    | none =>
      show if false = true then _ else _
      refine iteF ?_
      refine k S2 Hb2 H' wt (fun r x h => ?_) f2 g2
      rcases kc r x h with z | z | z
      · exact .inl z
      · exact .inr z
      · exfalso
        obtain ⟨e, he, e1, _⟩ := h
        exact getP_none.mp hg (List.mem_map.mpr ⟨e, he, by rw [e1, z]⟩)
    | some al =>
      obtain ⟨a, l⟩ := al
      show if true = true then _ else _
      refine iteT ?_
      have hm := getP_some hg
      have gd2 := wt.good
      have lne := gd2.ne _ hm
      have lnd := gd2.pend.ind _ hm
      have lsub := gd2.pend.sub _ hm
      -- a turn is left
      obtain ⟨m', rfl⟩ : ∃ m', m = m' + 1 := by
        cases m with
        | succ m' => exact ⟨m', rfl⟩
        | zero =>
          exfalso
          cases l with
          | nil => exact lne rfl
          | cons q l' =>
            have := rk q.1 ⟨_, hm, rfl, List.mem_map.mpr ⟨q, List.mem_cons_self, rfl⟩⟩
            cases this
      refine ⟨_, fun σ2 H2 h => ⟨m', Nat.lt_succ_self m', h⟩, ?_⟩
      -- lying = self.sizes.pop(size)
      have ha := f2.szI _ hm
      have am : a ∈ foot p A S2 := by
        simp only [foot, List.mem_cons, List.mem_append, List.mem_map]
        exact .inr (.inr (.inr (.inr (.inl ⟨_, hm, rfl⟩))))
      refine ⟨_, rfl, p, _, A.dx, _, _, rfl, f2.ob, T.cls_Flow, T.no_Flow_sizes, lkF_sizes, A.ds, rfl, .inl ⟨_, .inl f2.sz⟩, _, rfl, _, (Sum.inl size : Key), .ref a, f2.sz, rfl, by rw [valV_pvE, hg]; rfl, ?_⟩
      rw [dropP_pvE]
      have f3 := f2.drop size
      have dsm : A.ds ∈ foot p A S2 := by simp [foot]
      have g3 : FGr (foot p A S2) Hb2 H' (foot p A S2) Hb2 (upd H' A.ds (.dK ((dropP S2.pend size).map pvE))) := FGr.updF g2.in_ dsm (f2.out _ dsm) (f2.nn dsm)
      have g3' : FGr (foot p A S2) Hb2 H' (foot p A { S2 with pend := dropP S2.pend size }) Hb2 (upd H' A.ds (.dK ((dropP S2.pend size).map pvE))) := ⟨g3.fz, g3.in_, g3.al, g3.mo, fun x hx => by
        have s : ((dropP S2.pend size).map (·.2.1) ++ S2.kept.map (·.2.1)).Sublist (S2.pend.map (·.2.1) ++ S2.kept.map (·.2.1)) := (List.filter_sublist.map _).append (List.Sublist.refl _)
        exact .inl (((((s.cons₂ A.dk).cons₂ A.ds).cons₂ A.dd).cons₂ p).subset hx), g3.nw⟩
      have nda : a ∉ foot p A { S2 with pend := dropP S2.pend size } := by
        have nd := f2.nd
        simp only [foot, List.nodup_cons, List.mem_cons, List.mem_append, not_or, List.nodup_append] at nd
        obtain ⟨⟨_, _, _, n1, _⟩, ⟨_, _, n2, _⟩, ⟨_, n3, _⟩, ⟨n4, _⟩, n5, _, n6⟩ := nd
        have ha2 : a ∈ S2.pend.map (·.2.1) := List.mem_map.mpr ⟨_, hm, rfl⟩
        simp only [foot, List.mem_cons, List.mem_append, not_or]
        refine ⟨fun z => n1 (z ▸ ha2), fun z => n2 (z ▸ ha2), fun z => n3 (z ▸ ha2), fun z => n4 (z ▸ ha2), fun z => ?_, fun z => n6 a ha2 a z rfl⟩
        obtain ⟨e, he, e2⟩ := List.mem_map.mp z
        obtain ⟨h1, h2⟩ := dropP_mem he
        have key : ∀ (l0 : PL), (l0.map (·.2.1)).Nodup → ∀ x ∈ l0, ∀ y ∈ l0, x.2.1 = y.2.1 → x = y := by
          intro l0
          induction l0 with
          | nil => intro _ x hx; cases hx
          | cons c cs ih =>
            intro hnd x hx y hy e
            rw [List.map_cons, List.nodup_cons] at hnd
            rcases List.mem_cons.mp hx with ex | hx'
            · rcases List.mem_cons.mp hy with ey | hy'
              · rw [ex, ey]
              · exact absurd (List.mem_map.mpr ⟨y, hy', by rw [← e, ex]⟩) hnd.1
            · rcases List.mem_cons.mp hy with ey | hy'
              · exact absurd (List.mem_map.mpr ⟨x, hx', by rw [e, ey]⟩) hnd.1
              · exact ih hnd.2 x hx' y hy' e
        rw [key S2.pend n5 e h1 _ hm e2] at h2
        exact h2 rfl
      have ha3 : (upd H' A.ds (.dK ((dropP S2.pend size).map pvE))) a = some (.dK (l.map kvI)) := by
        rw [upd_ne (fun z => nda (by rw [z]; simp [foot]))]; exact ha
      generalize upd H' A.ds (.dK ((dropP S2.pend size).map pvE)) = H3 at f3 g3' ha3
      clear g3 dg
      have g23 := g2.trans g3'
      have gd3 : Good rows U { S2 with pend := dropP S2.pend size } := ⟨dropP_ok gd2.pend, fun e he => gd2.ne e (dropP_mem he).1, gd2.dl, gd2.kept, gd2.kb⟩
      have v3 : ∀ α β F, Eqn pt rows α β F → Vtot { S2 with pend := dropP S2.pend size } α β F + sumF l (fun r => F r.toNat size) = Vtot S α β F := fun α β F e => by
        rw [← wt.v α β F e]
        unfold Vtot
        rw [dropP_sum (k := size) (l := S2.pend) gd2.pend.nd hg]
        show dsum S2.done 0 α + sumP S2.kept (fun z b => β b z) + sumP (dropP S2.pend size) (fun r s => F r.toNat s) + _ = _
        omega
      have k3 : ∀ r x, InP (dropP S2.pend size) r x → (InP S.pend r x ∧ x ≠ size) ∨ x < size := fun r x h => by
        obtain ⟨h1, h2⟩ := dropP_inp h
        rcases kc r x h1 with z | z | z
        · exact .inl z
        · exact .inr z
        · exact absurd z h2
      generalize hS3 : ({ S2 with pend := dropP S2.pend size } : FS) = S3 at f3 g3' g23 gd3 v3 nda
      have eS3 : S3.pend = dropP S2.pend size := by rw [← hS3]
      rw [← eS3] at k3
      -- for row in list(lying)
      refine ⟨_, rfl, a, l.map kvI, rfl, ha3, fun la hla => ?_⟩
      have gl : Grow Hb2 H3 (upd Hb2 la (.lst (l.map fun q => V.int q.1))) (upd H3 la (.lst (l.map fun q => V.int q.1))) := .new g23.in_ hla
      have el : (l.map kvI).map (fun kv => kV kv.1) = l.map fun q => V.int q.1 := by rw [List.map_map]; rfl
      rw [el]
      have f4 := f3.grow gl
      have g4 := g23.trans (FGr.ofGrow gl)
      have ha4 := gl.al _ _ ha3
      have hb4 : (upd Hb2 la (.lst (l.map fun q => V.int q.1))) la = some (.lst (l.map fun q => V.int q.1)) := upd_same
      have hw4 := mono_Ws _ _ _ gl.fz hw2
      have in4 := gl.in_
      generalize upd Hb2 la (.lst (l.map fun q => V.int q.1)) = Hb4 at f4 g4 hb4 hw4 in4 gl
      generalize upd H3 la (.lst (l.map fun q => V.int q.1)) = H4 at f4 g4 ha4 in4 gl
      refine ⟨la, rfl, ⟨_, .inl (.inl (in4 _ _ hb4))⟩, for_list (xs := l.map fun q => V.int q.1) (fun i σ' H' => ∃ (S5 : FS) (Hb5 : Hp) (o3 : Option V), σ' = [some (.ref p), some (.int size), some (.ref a), o3] ∧ Good rows U S5 ∧ (∀ α β F, Eqn pt rows α β F → Vtot S5 α β F + sumF (l.drop i) (fun r => F r.toNat size) = Vtot S α β F) ∧
        (∀ r x, InP S5.pend r x → ((InP S.pend r x ∧ x ≠ size) ∨ x < size) ∨ (x = size ∧ ∃ q ∈ l, wholeAt rows size q.1.toNat = some r.toNat)) ∧ FlowAt K Hb5 H' p wv A S5 ∧ FGr (foot p A S3) Hb4 H4 (foot p A S5) Hb5 H')
        ⟨S3, Hb4, o3, rfl, gd3, fun α β F e => by rw [List.drop_zero]; exact v3 α β F e, fun r x h => .inl (k3 r x h), f4, .refl in4⟩ (fun i σ' H' _ ⟨S5, Hb5, _, _, _, _, _, _, gg⟩ => .inl (.inl (gg.in_ _ _ (gg.fz _ _ hb4)))) ?_ ?_⟩
      · rintro i x σ' H5 hx ⟨S5, Hb5, o3, rfl, gd5, v5, k5, f5, g5⟩
        rw [List.getElem?_map] at hx
        cases hq : l[i]? with
        | none => rw [hq] at hx; cases hx
        | some q =>
          rw [hq] at hx
          cases hx
          have hql := List.mem_of_getElem? hq
          obtain ⟨⟨b1, b2⟩, b3⟩ := lsub q hql
          have hrow : rows[q.1.toNat]? = some (rows[q.1.toNat]'(by omega)) := by simp
          have ha5 := g5.al _ _ ha4 nda
          have dg2 : DGet H5 a (.int q.1) (some (.int q.2)) := by
            have := DGet.k (k := (Sum.inl q.1 : Key)) ha5
            rw [valV_kvI, getI_nd lnd hql] at this
            exact this
          refine ⟨_, rfl, p, A.dx, _, rfl, f5.ob, ?_, _, rfl, _, rfl, _, rfl, _, rfl, a, .int q.2, rfl, dg2, ?_⟩
          · have h1 : (("take_all" : Str) == ("works" : Str)) = false := by decide +kernel
            have h2 : (("take_all" : Str) == ("sizes" : Str)) = false := by decide +kernel
            have h3 : (("take_all" : Str) == ("done" : Str)) = false := by decide +kernel
            have h4 : (("take_all" : Str) == ("kept" : Str)) = false := by decide +kernel
            simp [List.lookup, h1, h2, h3, h4]
          have er : V.int q.1 = V.int ((q.1.toNat : Nat) : Int) := by rw [Int.toNat_of_nonneg b1]
          refine ⟨p, wv, A, S5, Hb5, pt, rows, U, q.1.toNat, rows[q.1.toNat]'(by omega), size, q.2, congrArg (fun z => [V.ref p, z, V.int size, V.int q.2]) er, ⟨p1, p2, ok, hl, u, hs, b3, hrow, gd5⟩, f5, mono_Ws _ _ _ g5.fz hw4, g5.in_, fun S6 Hb6 H6 d6 k6 q6 f6 g6 => ?_⟩
          have t : Taken pt q.1.toNat (rows[q.1.toNat]'(by omega)) size q.2 S5 S6 := ⟨d6, k6, q6⟩
          refine ⟨S6, Hb6, _, rfl, t.good p1 p2 ok u hs b3 hrow gd5, fun α β F e => ?_, fun r x h => ?_, f6, g5.trans g6⟩
          · rw [t.V p1 p2 ok u hs b3 hrow gd5 e]
            have := v5 α β F e
            rw [take_sumF hq] at this
            omega
          · rcases t.inp p1 p2 s1 h with z | z | ⟨z1, z2⟩
            · exact k5 r x z
            · exact .inl (.inr z)
            · refine .inr ⟨z1, q, hql, ?_⟩
              unfold wholeAt
              rw [hrow]
              exact z2
      · rintro σ' H5 ⟨S5, Hb5, o3, rfl, gd5, v5, k5, f5, g5⟩
        refine ⟨S5, Hb5, some (.ref a), o3, rfl, ⟨gd5, fun α β F e => ?_⟩, fun r x h => ?_, fun r h => ?_, f5, g4.trans g5⟩
        · have := v5 α β F e
          rw [List.length_map, List.drop_length, sumF_nil] at this
          omega
        · rcases k5 r x h with (z | z) | ⟨z, _⟩
          · exact .inl z
          · exact .inr (.inl z)
          · exact .inr (.inr z)
        · rcases k5 r size h with (⟨_, z⟩ | z) | ⟨_, q, hq, z⟩
          · exact absurd rfl z
          · exact absurd z (Int.lt_irrefl _)
          · have h1 := rk q.1 ⟨_, hm, rfl, List.mem_map.mpr ⟨q, hq, rfl⟩⟩
            rw [show m' + 1 = 1 + m' by omega, itW_add] at h1
            have h2 : itW rows size (some q.1.toNat) 1 = some r.toNat := z
            rw [h2] at h1
            exact h1
end
end MW

/-! G5 -/
set_option Elab.async false
set_option linter.all false
set_option maxRecDepth 100000
set_option maxHeartbeats 400000
namespace MW
open PySem PySem.Spec L2

theorem exists_bound : ∀ U : List Int, ∃ m : Nat, ∀ x ∈ U, x ≤ (m : Int)
  | [] => ⟨0, fun x h => nomatch h⟩
  | u :: U => by
    obtain ⟨m, h⟩ := exists_bound U
    refine ⟨m + u.toNat, fun x hx => ?_⟩
    rcases List.mem_cons.mp hx with rfl | hx
    · omega
    · have := h x hx; omega
section
variable {K : PySem.W.Frag} {mg : Str → Option Value} {p : Addr} {wv : V} {A : FA}
def RFo (K : PySem.W.Frag) (p : Addr) (wv : V) (A : FA) (pt : Int) (rows : List Rw) : Res := ⟨fun _ Hb H => H p = some (.ins (He.ga K "Flow") A.dx [("works", wv), ("sizes", .ref A.ds), ("done", .ref A.dd), ("kept", .ref A.dk)]) ∧ Ws K pt rows Hb wv, fun _ _ _ _ _ h g => ⟨g.al _ _ h.1, mono_Ws _ _ _ g.fz h.2⟩⟩
theorem y_fworksO {G : Ctx} {te : TE} {pt : Int} {rows : List Rw} (T : Tx K mg) (h : Y (RFo K p wv A pt rows) te G (Cst (.ref p))) : Y (RFo K p wv A pt rows) (tFld K te "works") G (Ws K pt rows) := fun H0 Hb H σ E rr s Q q => h H0 Hb H σ E rr s _ fun v Hb2 H2 g e =>
  ⟨p, _, A.dx, _, _, e, g.al _ _ rr.1, T.cls_Flow, T.no_Flow_works, lkF_works, q _ Hb2 H2 g (mono_Ws _ _ _ g.fz rr.2)⟩
end
theorem no_mine4 {a b c d : Ent} (h1 : a.mine = false) (h2 : b.mine = false) (h3 : c.mine = false) (h4 : d.mine = false) : ∀ (i : Nat) (e : Ent), ([a, b, c, d] : Ctx)[i]? = some e → e.mine = false := fun i e q => by
  match i, q with
  | 0, q => cases q; exact h1
  | 1, q => cases q; exact h2
  | 2, q => cases q; exact h3
  | 3, q => cases q; exact h4
  | i + 4, q => cases q
/-- slots that are told -/
theorem ev_told {H0 Hb H : Hp} {G : Ctx} {σ : L2.St} (hl : σ.length = G.length) (n : ∀ (i : Nat) (e : Ent), G[i]? = some e → e.mine = false) (h : ∀ (i : Nat) (P : Pr), G[i]? = some (.p P) → Mono P ∧ ∃ v, σ[i]? = some (some v) ∧ P Hb v) : EvG H0 G Hb H σ := by
  refine ⟨hl, fun i e q => ?_, fun i j e f l q1 _ m1 _ _ _ => ?_⟩
  · have m := n i e q
    cases e with
    | no => trivial
    | p P => exact h i P q
    | own ds => cases m
    | ownD ds => cases m
  · rw [n i e q1] at m1; cases m1
section
variable {P : Program} {w : World} {K : PySem.W.Frag} {mg : Str → Option Value} {base : Heap}
def sp_Flow_go (K : PySem.W.Frag) : Sp := fun vs H Q _ => ∃ (p : Addr) (wv : V) (A : FA) (S : FS) (Hb : Hp) (pt : Int) (rows : List Rw) (U : List Int), vs = [.ref p] ∧
  (2 ≤ pt ∧ pt ≤ 9 ∧ RowsOk rows ∧ rows.length ≤ 1000 ∧ NoRing rows ∧ Univ pt U ∧ Good rows U S) ∧ FlowAt K Hb H p wv A S ∧ Ws K pt rows Hb wv ∧ Same Hb H ∧
  ∀ (S2 : FS) (Hb2 H2 : Hp), Went rows pt U S S2 → S2.pend = [] → FlowAt K Hb2 H2 p wv A S2 → FGr (foot p A S) Hb H (foot p A S2) Hb2 H2 → Q .non H2
theorem mt_Flow_go (T : Tx K mg) : Mth P w K mg base 5 (He.ga K "Flow") "go" ["self"] (sp_Flow_go K) := by
  have C_Flow_go_size := mt_Flow_go_size (P := P) (w := w) (base := base) T
  obtain ⟨fd, F⟩ := T.c.def_ 15 (d := d_Flow_go) rfl
  refine ⟨_, fd, T.me_Flow_go, FunD.bindsN (ps := ["self"]) F fun _ _ _ _ _ _ us hl => match us, hl with | [_], _ => rfl, def_ok F sc_Flow_go ?_ fun cdv A outer s H vs Q E hr h => ?_⟩
  · rintro vs H Q E ⟨p, wv, A, S, Hb, pt, rows, U, rfl, _⟩
    rfl
  · obtain ⟨p, wv, A, S, Hb, pt, rows, U, rfl, ⟨p1, p2, ok, hl, nr, u, gd⟩, f, hw, sm, k⟩ := h
    refine ⟨_, (pss_one (ps_while PassesOwn.never (pt_cmpR op_gt (pe_callB call_lenD (by rfl) T.len bb_len (pa_cons (pe_fldK (K := K) rfl (pv 0) rfl) pa_nil)) pe_int (nomark _))
    (pss_cons (ps_set (i := 1) sc_Flow_go.nd rfl (Or.inr rfl) (pe_callB (kMax (K := K) rfl rfl) (by rfl) T.max bb_max (pa_cons (pe_callTy (c_listD rfl) (by rfl) T.list bb_list (pa_cons (pe_fldK (K := K) rfl (pv 0) rfl) pa_nil)) pa_nil)))
  (pss_cons (ps_lock (ps_setLc (i := 2) (own := [("size", 3)]) (g := (gName 3)) rfl sc_Flow_go.nd rfl rfl (sw_true rfl rfl rfl (by decide +kernel)) (pi_keys (pe_fldK (K := K) rfl (pv 0) rfl)) (blkOk_by (own := [("size", 3)]) (N := N_Flow_go) (sc := defScope s_Flow_go) (by decide +kernel)) (fun _ _ _ _ _ => (pg_name (i := 3) sc_Flow_go.nd rfl (Or.inl rfl))) (fun _ _ _ _ _ => (pts_one ((pw_or (pt_cmpR op_eq (pv 3) (pv 1) (nomark _)) (pw_or1 (pt_cmpR op_gt (pv 3) (pe_op op_add (pe_op op_fdiv (pv 1) (pe_fldK (K := K) rfl (pe_fldK (K := K) rfl (pv 0) rfl) rfl)) pe_int) (nomark _))))).pt)) (fun _ _ _ _ _ => (pv 3))))
  (pss_one (ps_for PassesOwn.never rfl (pi_listK (K := K) rfl (pe_callBK (kSortedRev (K := K) (b := true) rfl) (by rfl) T.sorted bb_sorted (pa_cons (pv 2) pa_nil) (pk_cons pe_bl pk_nil))) (pg_name (i := 3) sc_Flow_go.nd rfl (Or.inl rfl))
    (pss_one (ps_expr (pe_mth T.cls_Flow C_Flow_go_size (hr.mono (by decide)) (pv 0) (pa_cons (pv 3) pa_nil)))))))))), ?_⟩
    obtain ⟨mx, hmx⟩ := exists_bound U
    have inU : ∀ {S2 : FS}, Good rows U S2 → ∀ r x, InP S2.pend r x → x ∈ U := fun g r x h => by
      obtain ⟨e, he, e1, _⟩ := h
      rw [← e1]; exact g.pend.key e he
    refine ⟨fun m σ' H' => ∃ (S2 : FS) (Hb2 : Hp) (o1 o2 o3 : Option V), σ' = [some (.ref p), o1, o2, o3] ∧ Went rows pt U S S2 ∧ (∀ r x, InP S2.pend r x → x ≤ (m : Int)) ∧ FlowAt K Hb2 H' p wv A S2 ∧ FGr (foot p A S) Hb H (foot p A S2) Hb2 H',
      ⟨mx, S, Hb, none, none, none, rfl, ⟨gd, fun _ _ _ _ => rfl⟩, fun r x h => hmx x (inU gd r x h), f, .refl sm⟩, ?_⟩
    rintro m σ' H' ⟨S2, Hb2, o1, o2, o3, rfl, wt, kb, f2, g2⟩
    have gd2 := wt.good
    have hw2 := mono_Ws _ _ _ g2.fz hw
    refine ⟨_, rfl, p, _, A.dx, _, _, rfl, f2.ob, T.cls_Flow, T.no_Flow_sizes, lkF_sizes, A.ds, _, rfl, f2.sz, _, _, rfl, rfl, _, rfl, ?_⟩
    refine ite2 (fun hc => ?_) (fun hc => ?_)
    · have hpos : 0 < (S2.pend.map pvE).length := by have := of_decide_eq_true hc; omega
      rw [List.length_map] at hpos
      -- the greatest
      refine ⟨fun σ2 H2 => ∃ m', m' < m ∧ ∃ (S3 : FS) (Hb3 : Hp) (o1 o2 o3 : Option V), σ2 = [some (.ref p), o1, o2, o3] ∧ Went rows pt U S S3 ∧ (∀ r x, InP S3.pend r x → x ≤ (m' : Int)) ∧ FlowAt K Hb3 H2 p wv A S3 ∧ FGr (foot p A S) Hb H (foot p A S3) Hb3 H2, fun σ2 H2 h => h, ?_⟩
      refine ⟨_, rfl, p, _, A.dx, _, _, rfl, f2.ob, T.cls_Flow, T.no_Flow_sizes, lkF_sizes, A.ds, _, rfl, f2.sz, fun la hla => ?_⟩
      have el : (S2.pend.map pvE).map (fun kv => kV kv.1) = (S2.pend.map (·.1)).map V.int := by rw [List.map_map, List.map_map]; rfl
      rw [el]
      have gl : Grow Hb2 H' (upd Hb2 la (.lst ((S2.pend.map (·.1)).map V.int))) (upd H' la (.lst ((S2.pend.map (·.1)).map V.int))) := .new g2.in_ hla
      have f3 := f2.grow gl
      have g3 := g2.trans (FGr.ofGrow gl)
      have hw3 := mono_Ws _ _ _ gl.fz hw2
      refine ⟨la, S2.pend.map (·.1), rfl, .inl (.inl upd_same), by rw [List.length_map]; exact hpos, fun top ht htm => ?_⟩
      generalize upd Hb2 la (.lst ((S2.pend.map (·.1)).map V.int)) = Hb3 at f3 g3 hw3 gl
      generalize upd H' la (.lst ((S2.pend.map (·.1)).map V.int)) = H3 at f3 g3 gl
      clear f2 hc
      -- great = [..]
      refine ⟨A.ds, .dK (S2.pend.map pvE), f3.sz, trivial, fun od => ?_⟩
      have dsm : A.ds ∈ foot p A S2 := by simp [foot]
      have bds := f3.out _ dsm
      have pne : p ≠ A.ds := by
        have nd := f3.nd
        simp only [foot, List.nodup_cons, List.mem_cons, not_or] at nd
        exact nd.1.2.1
      have sL : Same Hb3 (upd H3 A.ds (.frz od (.dK (S2.pend.map pvE)))) := same_mut g3.in_ bds
      have obL : (upd H3 A.ds (.frz od (.dK (S2.pend.map pvE)))) p = some (.ins (He.ga K "Flow") A.dx [("works", wv), ("sizes", .ref A.ds), ("done", .ref A.dd), ("kept", .ref A.dk)]) := by rw [upd_ne pne]; exact f3.ob
      generalize hHL : upd H3 A.ds (.frz od (.dK (S2.pend.map pvE))) = HL at sL obL
      have frL : HL A.ds = some (.frz od (.dK (S2.pend.map pvE))) := by rw [← hHL]; exact upd_same
      refine ⟨_, rfl, p, _, A.dx, _, _, rfl, obL, T.cls_Flow, T.no_Flow_sizes, lkF_sizes, A.ds, od, rfl, .inl ⟨_, frL, fun Dl hD => ?_⟩⟩
      have hbD : Hb3 Dl = none := sL.free hD
      let bb : Int → Bool := fun x => decide (x = top) || decide (top / pt + 1 < x)
      let ff : Int × Addr × List (Int × Int) → List PyData := fun e => if bb e.1 then [.int e.1] else []
      have tU : top ∈ U := by
        obtain ⟨e, he, e1⟩ := List.mem_map.mp ht
        rw [← e1]; exact gd2.pend.key e he
      have topp := u.pos top tU
      refine lc_it walk_keys (fun i H'' => Acc Hb3 HL Dl ((S2.pend.take i).flatMap ff) H'') ⟨Hb3, [], .own sL hD, hbD, upd_same, rfl⟩ (fun i H'' _ ⟨Hb4, acc, g4, _⟩ => g4.al _ _ frL) ?_ ?_
      · rintro i x H5 H4 hi Ac ⟨rfl, kk, vv, hik, rfl⟩
        rw [List.getElem?_map] at hik
        cases he : S2.pend[i]? with
        | none => rw [he] at hik; cases hik
        | some e =>
          rw [he] at hik
          cases hik
          obtain ⟨Hb4, acc, g4, n4, d4, a4⟩ := Ac
          refine ⟨by simp [wipe], ?_⟩
          rw [take_step ff he]
          have E4 : EvG H [.p (Cst (.ref p)), .p (D (.int top)), .no, .p (D (.int e.1))] Hb4 H4 [some (.ref p), some (.int top), o2, some (.int e.1)] := ev_told rfl (no_mine4 rfl rfl rfl rfl) fun i P q => by
            match i, q with
            | 0, q => cases q; exact ⟨mono_Cst, _, rfl, rfl⟩
            | 1, q => cases q; exact ⟨mono_D _, _, rfl, rfl⟩
            | 2, q => cases q
            | 3, q => cases q; exact ⟨mono_D _, _, rfl, rfl⟩
            | i + 4, q => cases q
          refine acc_turn (R := RFo K p wv A pt rows) (H0 := H) g4 n4 d4 a4 hD ?_ ⟨g4.al _ _ obL, mono_Ws _ _ _ g4.fz hw3⟩ E4 (b := bb e.1) (e := .int e.1) ?_ (fun _ => y_var rfl)
          · refine Nat.lt_of_le_of_lt (flat_len (fun e : Int × Addr × List (Int × Int) => bb e.1) (fun e => PyData.int e.1) _) ?_
            have h1 := u_len gd2.pend
            have h2 := u.len
            have h3 := (List.getElem?_eq_some_iff.mp he).1
            rw [List.length_take]; omega
          · refine yt_or (yt_is (b := decide (e.1 = top)) (yt_test (y_eq (y_var rfl) (y_var rfl) rfl)) rfl) fun _ => y_B0_t (y_var rfl) (y_I0 (y_IC (y_var rfl) (y_parts T (y_fworksO T (y_var rfl))) ⟨by omega, by omega⟩) y_int)
      · intro H4 Ac
        rw [List.length_map, List.take_length, flat_filter (fun e : Int × Addr × List (Int × Int) => bb e.1) (fun e => PyData.int e.1)] at Ac
        obtain ⟨Hb4, acc, g4, n4, d4, a4⟩ := Ac
        have fr4 := g4.al _ _ frL
        refine ⟨fr4, ?_⟩
        have eg : (S2.pend.filter fun e => bb e.1).map (fun e => PyData.int e.1) = ((S2.pend.filter fun e => bb e.1).map (·.1)).map PyData.int := by rw [List.map_map]; rfl
        rw [eg] at a4
        have hacc := DvAll.ints.mp a4
        subst hacc
        generalize hgr : (S2.pend.filter fun e => bb e.1).map (·.1) = great at d4 a4
        have g5 : Grow Hb3 H3 (upd Hb4 Dl (.lst (great.map V.int))) (upd H4 A.ds (.dK (S2.pend.map pvE))) := by
          have g6 := g4.freeze n4 hD d4
          have dne : Dl ≠ A.ds := fun z => by rw [z, fr4] at d4; cases d4
          refine ⟨g6.fz, fun b o e => ?_, fun b o e => ?_, fun a n1 n2 => ?_⟩
          · by_cases z : b = A.ds
            · subst z; rw [upd_same]; rw [f3.sz] at e; exact e
            · rw [upd_ne z]
              exact g6.al _ _ (by rw [← hHL, upd_ne z]; exact e)
          · by_cases z : b = A.ds
            · subst z
              exfalso
              rw [upd_ne (Ne.symm dne)] at e
              cases q : Hb4 A.ds with
              | none => rw [q] at e; cases e
              | some o2 => have := g4.nw A.ds bds (by rw [q]; simp); rw [frL] at this; cases this
            · rw [upd_ne z]; exact g6.in_ _ _ e
          · have := g6.nw a n1 n2
            by_cases z : a = A.ds
            · subst z; rw [frL] at this; cases this
            · rw [← hHL, upd_ne z] at this; exact this
        have f5 := f3.grow g5
        have g35 := g3.trans (FGr.ofGrow g5)
        have hw5 := mono_Ws _ _ _ g5.fz hw3
        have dl5 : (upd H4 A.ds (.dK (S2.pend.map pvE))) Dl = some (.lst (great.map V.int)) := g5.in_ _ _ upd_same
        generalize upd Hb4 Dl (.lst (great.map V.int)) = Hb5 at f5 g35 hw5 g5
        generalize upd H4 A.ds (.dK (S2.pend.map pvE)) = H5 at f5 g35 dl5 g5
        -- for size in sorted(great, reverse=True)
        refine ⟨_, rfl, Dl, great, rfl, rfl, .inl (.inl dl5), fun ns' q hp hord hq => ?_⟩
        have gq : Grow Hb5 H5 (upd Hb5 q (.lst (ns'.map V.int))) (upd H5 q (.lst (ns'.map V.int))) := .new g35.in_ hq
        have f6 := f5.grow gq
        have g6 := g35.trans (FGr.ofGrow gq)
        have hw6 := mono_Ws _ _ _ gq.fz hw5
        have hb6 : (upd Hb5 q (.lst (ns'.map V.int))) q = some (.lst (ns'.map V.int)) := upd_same
        generalize upd Hb5 q (.lst (ns'.map V.int)) = Hb6 at f6 g6 hw6 hb6 gq
        generalize upd H5 q (.lst (ns'.map V.int)) = H6 at f6 g6 gq
        have mem_great : ∀ x ∈ ns', x ∈ S2.pend.map (·.1) := fun x hx => by
          have h1 := hp.mem_iff.mp hx
          rw [← hgr] at h1
          obtain ⟨e, he, e1⟩ := List.mem_map.mp h1
          exact List.mem_map.mpr ⟨e, (List.mem_filter.mp he).1, e1⟩
        have top_great : top ∈ ns' := by
          refine hp.mem_iff.mpr ?_
          rw [← hgr]
          obtain ⟨e, he, e1⟩ := List.mem_map.mp ht
          exact List.mem_map.mpr ⟨e, List.mem_filter.mpr ⟨he, by show (decide (e.1 = top) || _) = true; rw [decide_eq_true e1]; rfl⟩, e1⟩
        refine ⟨q, rfl, ⟨_, .inl (.inl (g6.in_ _ _ hb6))⟩, for_list (xs := ns'.map V.int) (fun i σ' H' => ∃ (S5 : FS) (Hb7 : Hp) (o3 : Option V), σ' = [some (.ref p), some (.int top), some (.ref Dl), o3] ∧ Went rows pt U S S5 ∧ (∀ r x, InP S5.pend r x → x < top ∨ (x = top ∧ top ∈ ns'.drop i)) ∧ FlowAt K Hb7 H' p wv A S5 ∧ Same Hb6 Hb7 ∧ FGr (foot p A S) Hb H (foot p A S5) Hb7 H')
          ⟨S2, Hb6, o3, rfl, wt, fun r x h => ?_, f6, Same.refl _, g6⟩ (fun i σ' H' _ ⟨S5, Hb7, _, _, _, _, _, sb, gg⟩ => .inl (.inl (gg.in_ _ _ (sb _ _ hb6)))) ?_ ?_⟩
        · obtain ⟨e, he, e1, _⟩ := h
          have := htm e.1 (List.mem_map.mpr ⟨e, he, rfl⟩)
          by_cases z : x = top
          · exact .inr ⟨z, top_great⟩
          · left; omega
        · rintro i x σ' H7 hx ⟨S5, Hb7, o3, rfl, wt5, k5, f7, sb, g7⟩
          rw [List.getElem?_map] at hx
          cases hy : ns'[i]? with
          | none => rw [hy] at hx; cases hx
          | some y =>
            rw [hy] at hx
            cases hx
            have hyg := mem_great y (List.mem_of_getElem? hy)
            obtain ⟨e, he, e1⟩ := List.mem_map.mp hyg
            have yU : y ∈ U := by rw [← e1]; exact gd2.pend.key e he
            have yt : y ≤ top := htm y hyg
            refine ⟨_, rfl, p, A.dx, _, rfl, f7.ob, ?_, _, rfl, ?_⟩
            · have h1 : (("go_size" : Str) == ("works" : Str)) = false := by decide +kernel
              have h2 : (("go_size" : Str) == ("sizes" : Str)) = false := by decide +kernel
              have h3 : (("go_size" : Str) == ("done" : Str)) = false := by decide +kernel
              have h4 : (("go_size" : Str) == ("kept" : Str)) = false := by decide +kernel
              simp [List.lookup, h1, h2, h3, h4]
            refine ⟨p, wv, A, S5, Hb7, pt, rows, U, y, rfl, ⟨p1, p2, ok, hl, nr, u, yU, wt5.good⟩, f7, mono_Ws _ _ _ g7.fz hw, g7.in_, fun S6 Hb8 H8 wt6 k6 f8 g8 => ?_⟩
            refine ⟨S6, Hb8, _, rfl, ⟨wt6.good, fun α β F e => by rw [wt6.v α β F e, wt5.v α β F e]⟩, fun r x h => ?_, f8, sb.trans g8.fz, g7.trans g8⟩
            rcases k6 r x h with ⟨z1, z2⟩ | z
            · rcases k5 r x z1 with y1 | ⟨y1, y2⟩
              · exact .inl y1
              · right
                refine ⟨y1, ?_⟩
                obtain ⟨hil, hiy⟩ := List.getElem?_eq_some_iff.mp hy
                rw [List.drop_eq_getElem_cons hil, hiy] at y2
                rcases List.mem_cons.mp y2 with w1 | w1
                · exact absurd (by rw [y1, w1]) z2
                · exact w1
            · left; omega
        · rintro σ' H7 ⟨S5, Hb7, o3, rfl, wt5, k5, f7, sb, g7⟩
          have tm : top ≤ (m : Int) := by
            obtain ⟨e, he, e1⟩ := List.mem_map.mp ht
            have hne := gd2.ne e he
            cases hl2 : e.2.2 with
            | nil => exact absurd hl2 hne
            | cons q0 q1 => exact kb q0.1 top ⟨e, he, e1, by rw [hl2]; exact List.mem_map.mpr ⟨q0, List.mem_cons_self, rfl⟩⟩
          refine ⟨(top - 1).toNat, by omega, S5, Hb7, _, _, _, rfl, wt5, fun r x h => ?_, f7, g7⟩
          rcases k5 r x h with z | ⟨_, z⟩
          · omega
          · rw [List.length_map, List.drop_length] at z; cases z
    · have h0 : (S2.pend.map pvE).length = 0 := by
        have : ¬ (0 : Int) < ((S2.pend.map pvE).length : Int) := fun z => hc (decide_eq_true z)
        omega
      rw [List.length_map] at h0
      exact k S2 Hb2 H' wt (List.eq_nil_of_length_eq_zero h0) f2 g2
end
end MW

/-! MF -/
set_option Elab.async false
set_option linter.all false
set_option maxRecDepth 100000
set_option maxHeartbeats 400000
namespace MW
open PySem PySem.Spec L2
/-! ### dicts from ints to data -/
@[reducible] def dD (l : List (Int × PyData)) : PyData := .dict (l.map fun q => (PyData.int q.1, q.2))
def lkD (l : List (Int × PyData)) (k : Int) : Option PyData := (l.find? fun q => decide (q.1 = k)).map (·.2)
theorem DvKv.at {H : Hp} : ∀ {l : List (Int × PyData)} {ps : List (Key × V)}, DvKv H (l.map fun q => (PyData.int q.1, q.2)) ps → ps.map (fun kv => kV kv.1) = (l.map (·.1)).map V.int ∧ ps.length = l.length ∧ ∀ k : Int, match lkD l k with
    | some d => ∃ v, valV ps (Sum.inl k : Key) = some v ∧ Dv H d v
    | none => valV ps (Sum.inl k : Key) = none
  | [], ps, h => by
    obtain rfl : ps = [] := h
    exact ⟨rfl, rfl, fun k => rfl⟩
  | q :: l, ps, h => by
    obtain ⟨i, v, r, e1, rfl, h1, h2⟩ := h
    obtain rfl : q.1 = i := PyData.int.inj e1
    obtain ⟨k1, k2, k3⟩ := DvKv.at h2
    refine ⟨by simp only [List.map_cons, k1]; rfl, by simp [k2], fun k => ?_⟩
    unfold lkD
    rw [List.find?_cons]
    by_cases e : q.1 = k
    · rw [decide_eq_true e]
      refine ⟨v, ?_, h1⟩
      rw [valV_pos (by show (Sum.inl q.1 : Key) = Sum.inl k; rw [e])]
    · rw [decide_eq_false e]
      have hne : ¬ ((Sum.inl q.1 : Key) = Sum.inl k) := fun z => e (Sum.inl.inj z)
      have := k3 k
      unfold lkD at this
      rw [valV_neg (p := ((Sum.inl q.1 : Key), v)) hne]
      exact this
theorem DvKv.get {H : Hp} {l : List (Int × PyData)} {ps : List (Key × V)} {k : Int} {d : PyData} (h : DvKv H (l.map fun q => (PyData.int q.1, q.2)) ps) (e : lkD l k = some d) : ∃ v, valV ps (Sum.inl k : Key) = some v ∧ Dv H d v := by
  have := (DvKv.at h).2.2 k
  rw [e] at this
  exact this
theorem DvKv.no {H : Hp} {l : List (Int × PyData)} {ps : List (Key × V)} {k : Int} (h : DvKv H (l.map fun q => (PyData.int q.1, q.2)) ps) (e : lkD l k = none) : valV ps (Sum.inl k : Key) = none := by
  have := (DvKv.at h).2.2 k
  rw [e] at this
  exact this
/-- a store -/
def stD (l : List (Int × PyData)) (k : Int) (d : PyData) : List (Int × PyData) := if k ∈ l.map (·.1) then l.map (fun q => if q.1 = k then (q.1, d) else q) else l ++ [(k, d)]
theorem lkD_none {l : List (Int × PyData)} {k : Int} : lkD l k = none ↔ k ∉ l.map (·.1) := by
  unfold lkD
  rw [Option.map_eq_none_iff, List.find?_eq_none]
  constructor
  · intro h hm
    obtain ⟨q, h1, h2⟩ := List.mem_map.mp hm
    exact h q h1 (by simpa using h2)
  · intro h q hq e
    exact h (List.mem_map.mpr ⟨q, hq, by simpa using e⟩)
theorem DvKv.app {H : Hp} : ∀ {l m : List (PyData × PyData)} {ps qs : List (Key × V)}, DvKv H l ps → DvKv H m qs → DvKv H (l ++ m) (ps ++ qs)
  | [], _, _, _, h, k => by subst h; exact k
  | (a, d) :: l, _, _, _, ⟨i, v, q, e1, e2, h, r⟩, k => by subst e2; exact ⟨i, v, _, e1, rfl, h, DvKv.app r k⟩
theorem DvKv.mapK {H : Hp} {k : Int} {d : PyData} {v : V} (hd : Dv H d v) : ∀ {l : List (Int × PyData)} {ps : List (Key × V)}, DvKv H (l.map fun q => (PyData.int q.1, q.2)) ps → DvKv H ((l.map fun q => if q.1 = k then (q.1, d) else q).map fun q => (PyData.int q.1, q.2)) (ps.map fun kv => if kv.1 = (Sum.inl k : Key) then (kv.1, v) else kv)
  | [], _, h => by obtain rfl := show _ = _ from h; rfl
  | q :: l, _, h => by
    obtain ⟨i, u, r, e1, rfl, h1, h2⟩ := h
    obtain rfl : q.1 = i := PyData.int.inj e1
    rw [List.map_cons, List.map_cons, List.map_cons]
    by_cases e : q.1 = k
    · rw [if_pos e, if_pos (by show (Sum.inl q.1 : Key) = _; rw [e])]
      exact ⟨q.1, v, _, rfl, rfl, hd, DvKv.mapK hd h2⟩
    · rw [if_neg e, if_neg (fun z => e (Sum.inl.inj z))]
      exact ⟨q.1, u, _, rfl, rfl, h1, DvKv.mapK hd h2⟩
theorem DvKv.put {H : Hp} {l : List (Int × PyData)} {ps : List (Key × V)} {k : Int} {d : PyData} {v : V} (h : DvKv H (l.map fun q => (PyData.int q.1, q.2)) ps) (hd : Dv H d v) : DvKv H ((stD l k d).map fun q => (PyData.int q.1, q.2)) (putK ps (Sum.inl k : Key) v) := by
  unfold stD putK
  rw [valV_any]
  by_cases e : k ∈ l.map (·.1)
  · have h1 : (valV ps (Sum.inl k : Key)).isSome = true := by
      cases q : lkD l k with
      | none => exact absurd e (lkD_none.mp q)
      | some d' => obtain ⟨v', e', _⟩ := h.get q; rw [e']; rfl
    rw [if_pos e, if_pos h1]
    exact DvKv.mapK hd h
  · have h1 : valV ps (Sum.inl k : Key) = none := h.no (lkD_none.mpr e)
    rw [if_neg e, h1, if_neg (by simp), List.map_append]
    exact DvKv.app h ⟨k, v, [], rfl, rfl, hd, rfl⟩
section
variable {R : Res} {K : PySem.W.Frag} {G : Ctx} {ta tb tc : TE} {l : List (Int × PyData)} {k : Int} {d e : PyData}
theorem y_dget (ha : Y R ta G (D (dD l))) (hb : Y R tb G (D (.int k))) (h : lkD l k = some d) : Y R (tDGet ta tb) G (D d) := fun H0 Hb H σ E rr s Q q =>
  ha H0 Hb H σ E rr s _ fun x Hb1 H1 g1 p1 => hb H0 Hb1 H1 σ (E.grow g1) (R.st _ _ _ _ _ rr g1) g1.in_ _ fun y Hb2 H2 g2 p2 => by
    obtain ⟨a, ps, rfl, h1, r1⟩ := p1
    obtain rfl : y = .int k := p2
    obtain ⟨v, e1, e2⟩ := DvKv.get r1 h
    refine ⟨a, v, rfl, ?_, q v Hb2 H2 (g1.trans g2) (Dv.mono g2.fz _ _ e2)⟩
    rw [← e1]
    exact DGet.k (k := (Sum.inl k : Key)) (g2.in_ _ _ (g2.fz _ _ h1))
/-- d.get(k, e) -/
theorem y_dget2 (ha : Y R ta G (D (dD l))) (hb : Y R tb G (D (.int k))) (hc : Y R tc G (D e)) : Y R (tDGet2 ta tb tc) G (D ((lkD l k).getD e)) := fun H0 Hb H σ E rr s Q q =>
  ha H0 Hb H σ E rr s _ fun x Hb1 H1 g1 p1 => by
    obtain ⟨a, ps, rfl, h1, r1⟩ := p1
    refine ⟨a, rfl, .inl ⟨ps, .inl (g1.in_ _ _ h1)⟩, hb H0 Hb1 H1 σ (E.grow g1) (R.st _ _ _ _ _ rr g1) g1.in_ _ fun y Hb2 H2 g2 p2 => hc H0 Hb2 H2 σ ((E.grow g1).grow g2) (R.st _ _ _ _ _ (R.st _ _ _ _ _ rr g1) g2) g2.in_ _ fun z Hb3 H3 g3 p3 => ?_⟩
    obtain rfl : y = .int k := p2
    have h3 := g3.in_ _ _ ((g2.fz.trans g3.fz) _ _ h1)
    refine ⟨_, DGet.k (k := (Sum.inl k : Key)) h3, ?_⟩
    cases w : lkD l k with
    | none => rw [DvKv.no r1 w]; exact q _ Hb3 H3 (g1.trans (g2.trans g3)) (by rw [w]; exact p3)
    | some d =>
      obtain ⟨v, e1, e2⟩ := DvKv.get r1 w
      rw [e1]
      exact q _ Hb3 H3 (g1.trans (g2.trans g3)) (by rw [w]; exact Dv.mono (g2.fz.trans g3.fz) d v e2)
theorem y_listD (ha : Y R ta G (D (dD l))) : Y R (tCB rListD (tCons ta tNil)) G (D (.list ((l.map (·.1)).map .int))) := fun H0 Hb H σ E rr s Q q =>
  ha H0 Hb H σ E rr s _ fun x Hb1 H1 g1 p1 => by
    obtain ⟨a, ps, rfl, h1, r1⟩ := p1
    refine ⟨a, ps, rfl, g1.in_ _ _ h1, fun p hp => ?_⟩
    rw [(DvKv.at r1).1]
    exact q _ _ _ (g1.trans (.new g1.in_ hp)) ⟨p, _, rfl, upd_same, DvAll.ints.mpr rfl⟩
/-- dict of pairs -/
def mkD (ps : List (Int × PyData)) : List (Int × PyData) := ps.foldl (fun acc q => stD acc q.1 q.2) []
theorem y_dictP {ps : List (Int × PyData)} (ha : Y R ta G (D (.list (ps.map fun q => .tuple [.int q.1, q.2])))) : Y R (tCB (rDictP K) (tCons ta tNil)) G (D (dD (mkD ps))) := fun H0 Hb H σ E rr s Q q =>
  ha H0 Hb H σ E rr s _ fun x Hb1 H1 g1 p1 => by
    obtain ⟨a, vs, rfl, h1, r1⟩ := p1
    have key : ∀ {ps : List (Int × PyData)} {vs : List V}, DvAll Hb1 (ps.map fun q => PyData.tuple [.int q.1, q.2]) vs → ∃ (as : List Addr) (kvs : List (Key × V)), vs = as.map V.ref ∧ Paired (fun p kv => SqT K H1 p [kV kv.1, kv.2]) as kvs ∧ ∀ (l : List (Int × PyData)) (qs : List (Key × V)), DvKv Hb1 (l.map fun q => (PyData.int q.1, q.2)) qs → DvKv Hb1 ((ps.foldl (fun acc q => stD acc q.1 q.2) l).map fun q => (PyData.int q.1, q.2)) (mergeK qs kvs) := by
      intro ps
      induction ps with
      | nil =>
        intro vs h
        obtain rfl := show vs = [] from h
        exact ⟨[], [], rfl, .nil, fun l qs h => h⟩
      | cons x ps ih =>
        rintro vs ⟨v, r, rfl, ⟨b, us, rfl, hb, u1, r1, rfl, k1, u2, r2, rfl, k2, rfl⟩, h⟩
        obtain ⟨as, kvs, rfl, c, z⟩ := ih h
        obtain rfl := show u1 = V.int x.1 from k1
        exact ⟨b :: as, ((Sum.inl x.1 : Key), u2) :: kvs, rfl, .cons (.inl (.inl (g1.in_ _ _ hb))) c, fun l qs hh => z _ _ (DvKv.put hh k2)⟩
    obtain ⟨as, kvs, rfl, c, z⟩ := key r1
    refine ⟨a, as, kvs, rfl, .inl (.inl (g1.in_ _ _ h1)), c, fun p hp => ?_⟩
    exact q _ _ _ (g1.trans (.new g1.in_ hp)) ⟨p, _, rfl, upd_same, DvKv.mono (same_upd (g1.in_.free hp)) _ _ (z [] [] rfl)⟩
end
end MW

/-! G6 -/
set_option Elab.async false
set_option linter.all false
set_option maxRecDepth 100000
set_option maxHeartbeats 400000
namespace MW
open PySem PySem.Spec L2

@[reducible] def dI (l : List (Int × Int)) : PyData := dD (l.map fun q => (q.1, PyData.int q.2))
@[reducible] def encP (q : Int × Int) : PyData := .tuple [.int q.1, .int q.2]
def risingL (l : List (Int × Int)) : List (Int × Int) := ((isort (l.map (·.1))).filter fun k => decide (0 < (getI l k).getD 0)).map fun k => (k, (getI l k).getD 0)
theorem lkD_dI (l : List (Int × Int)) (k : Int) : lkD (l.map fun q => (q.1, PyData.int q.2)) k = (getI l k).map PyData.int := by
  unfold lkD getI
  induction l with
  | nil => rfl
  | cons q l ih =>
    rw [List.map_cons, List.find?_cons, List.find?_cons]
    by_cases e : q.1 = k
    · simp [e]
    · simp only [decide_eq_false e]; exact ih
theorem getI_mem {l : List (Int × Int)} {k : Int} (h : k ∈ l.map (·.1)) : getI l k = some ((getI l k).getD 0) := by
  cases e : getI l k with
  | none => exact absurd h (getI_none.mp e)
  | some v => rfl
theorem dI_keys (l : List (Int × Int)) : (l.map fun q => (q.1, PyData.int q.2)).map (·.1) = l.map (·.1) := by rw [List.map_map]; rfl
/-- a dict of ints in the heap is data -/
theorem dv_dI {H : Hp} {a : Addr} {l : List (Int × Int)} (h : H a = some (.dK (l.map kvI))) : Dv H (dI l) (.ref a) := by
  refine ⟨a, _, rfl, h, ?_⟩
  clear h
  induction l with
  | nil => rfl
  | cons q l ih => exact ⟨q.1, .int q.2, _, rfl, rfl, rfl, ih⟩
theorem isort_len (ns : List Int) : (isort ns).length = ns.length := (isort_perm ns).length_eq
section
variable {P : Program} {w : World} {K : PySem.W.Frag} {mg : Str → Option Value} {base : Heap}
def sp_rising : Sp := fun vs H Q E => ∃ (l : List (Int × Int)), (l.length ≤ 900000) ∧ spP [D (dI l)] (D (.list ((risingL l).map encP))) vs H Q E
theorem ok_rising (T : Tx K mg) : Cal P w K mg base 1 "rising" ["counted"] sp_rising := by
  obtain ⟨fd, F⟩ := T.c.def_ 10 (d := d_rising) rfl
  refine ⟨_, fd, T.g_rising, F.kp, FunD.bindsN (ps := ["counted"]) F fun _ _ _ _ _ _ us hl => match us, hl with | [_], _ => rfl, def_ok F sc_rising ?_ fun cdv A outer s H vs Q E hr h => ?_⟩
  · intro vs H Q E h
    obtain ⟨_, _, h⟩ := h
    exact h.len
  · obtain ⟨l, hl, Hb, sm, ha, k⟩ := h
    have c := start_cur (N := N_rising) (k := 1) sm ha (by repeat' (first | exact trivial | exact mono_D _ | exact mono_Ws | exact mono_Sc | refine ⟨?_, ?_⟩)) rfl
    refine ⟨_, (pss_one (ps_ret (pe_lc (own := [("size", 1)]) (g := (gName 1)) rfl sc_rising.nd (pi_listK (K := K) rfl (pe_callB (kSortedI (K := K) rfl) (by rfl) T.sorted bb_sorted (pa_cons (pe_callTy (c_listD rfl) (by rfl) T.list bb_list (pa_cons (pv 0) pa_nil)) pa_nil))) (blkOk_by (own := [("size", 1)]) (N := N_rising) (sc := defScope s_rising) (by decide +kernel)) (fun _ _ _ _ _ => (pg_name (i := 1) sc_rising.nd rfl (Or.inl rfl))) (fun _ _ _ _ _ => (pts_one (pt_cmpR op_gt (pe_dget (hu_of hr) (pv 0) (pv 1) (fun _ _ => rfl)) pe_int (nomark _)))) (fun _ _ _ _ _ => (pe_tup (pa_cons (pv 1) (pa_cons (pe_dget (hu_of hr) (pv 0) (pv 1) (fun _ _ => rfl)) pa_nil))))))), ?_⟩
    have ek : ∀ x ∈ isort (l.map (·.1)), lkD (l.map fun q => (q.1, PyData.int q.2)) x = some (.int ((getI l x).getD 0)) := fun x hx => by
      rw [lkD_dI, getI_mem ((isort_perm _).mem_iff.mp hx)]; rfl
    refine z_ret c (y_is (y_lcL (xs := isort (l.map (·.1))) (enc := .int) (e := fun k => encP (k, (getI l k).getD 0)) (b := fun k => decide (0 < (getI l k).getD 0)) (fun x => [.p (D (dI l)), .p (D (.int x))]) (y_sortedC (y_is (y_listD (y_var rfl)) (by rw [dI_keys]))) (by rw [isort_len, List.length_map]; omega) (fun x _ => yg_name) (fun x hx => yt_is (yt_test (y_B0 (y_dget (y_var rfl) (y_var rfl) (ek x hx)) y_int)) (by simp)) (fun x hx _ => y_tup (ya_consD (y_var rfl) (ya_consD (y_dget (y_var rfl) (y_var rfl) (ek x hx)) ya_nilD)) (by simp))) (by unfold risingL; rw [List.map_map]; rfl)) k
end
end MW

/-! G7 -/
set_option Elab.async false
set_option linter.all false
set_option maxRecDepth 100000
set_option maxHeartbeats 400000
namespace MW
open PySem PySem.Spec L2

@[reducible] def keptD (l : PL) : PyData := dD (l.map fun e => (e.1, dI e.2.2))
def lotAt (l : PL) (b : Int) : List (Int × Int) := (getP l b).elim [] (·.2)
def binsOf (l : PL) : List (Int × List (Int × Int)) := (isort (l.map (·.1))).map fun b => (b, risingL (lotAt l b))
@[reducible] def encB (q : Int × List (Int × Int)) : PyData := .tuple [.int q.1, .list (q.2.map encP)]
@[reducible] def toldD (bins : List (Int × List (Int × Int))) (done : List Int) : PyData := .tuple [.list (bins.map encB), .list (done.map .int)]
theorem lkD_kept (l : PL) (k : Int) : lkD (l.map fun e => (e.1, dI e.2.2)) k = (getP l k).map fun v => dI v.2 := by
  unfold lkD getP
  induction l with
  | nil => rfl
  | cons q l ih =>
    rw [List.map_cons, List.find?_cons, List.find?_cons]
    by_cases e : q.1 = k
    · simp [e]
    · simp only [decide_eq_false e]; exact ih
theorem keptD_keys (l : PL) : (l.map fun e => (e.1, dI e.2.2)).map (·.1) = l.map (·.1) := by rw [List.map_map]; rfl
theorem getP_at {l : PL} {b : Int} (h : b ∈ l.map (·.1)) : ∃ e ∈ l, e.1 = b ∧ getP l b = some e.2 := by
  cases e : getP l b with
  | none => exact absurd h (getP_none.mp e)
  | some v => exact ⟨_, getP_some e, rfl, rfl⟩
theorem dv_kept {H : Hp} : ∀ {l : PL}, (∀ e ∈ l, H e.2.1 = some (.dK (e.2.2.map kvI))) → DvKv H ((l.map fun e => (e.1, dI e.2.2)).map fun q => (PyData.int q.1, q.2)) (l.map pvE)
  | [], _ => rfl
  | e :: l, h => ⟨e.1, .ref e.2.1, _, rfl, rfl, dv_dI (h e List.mem_cons_self), dv_kept fun e' he => h e' (List.mem_cons_of_mem _ he)⟩
def Fz (K : PySem.W.Frag) (l : PL) (ds : List Int) : Pr := fun Hb v => ∃ (p dx : Addr) (wv sv : V) (a b : Addr), v = .ref p ∧ Hb p = some (.ins (He.ga K "Flow") dx [("works", wv), ("sizes", sv), ("done", .ref a), ("kept", .ref b)]) ∧ Dv Hb (keptD l) (.ref b) ∧ Dv Hb (.list (ds.map .int)) (.ref a)
theorem mono_Fz {K : PySem.W.Frag} {l : PL} {ds : List Int} : Mono (Fz K l ds) := fun _ _ _ s ⟨p, dx, wv, sv, a, b, e, h1, h2, h3⟩ => ⟨p, dx, wv, sv, a, b, e, s _ _ h1, Dv.mono s _ _ h2, Dv.mono s _ _ h3⟩
section
variable {R : Res} {G : Ctx} {K : PySem.W.Frag} {mg : Str → Option Value} {te : TE} {l : PL} {ds : List Int}
theorem y_zkept (T : Tx K mg) (h : Y R te G (Fz K l ds)) : Y R (tFld K te "kept") G (D (keptD l)) := fun H0 Hb H σ E rr s Q q => h H0 Hb H σ E rr s _ fun v Hb2 H2 g ⟨p, dx, wv, sv, a, b, e, h1, h2, h3⟩ =>
  ⟨p, _, dx, _, _, e, g.in_ _ _ h1, T.cls_Flow, T.no_Flow_kept, lkF_kept, q _ Hb2 H2 g h2⟩
theorem y_zdone (T : Tx K mg) (h : Y R te G (Fz K l ds)) : Y R (tFld K te "done") G (D (.list (ds.map .int))) := fun H0 Hb H σ E rr s Q q => h H0 Hb H σ E rr s _ fun v Hb2 H2 g ⟨p, dx, wv, sv, a, b, e, h1, h2, h3⟩ =>
  ⟨p, _, dx, _, _, e, g.in_ _ _ h1, T.cls_Flow, T.no_Flow_done, lkF_done, q _ Hb2 H2 g h3⟩
end
/-- the flow is frozen -/
def frz (Hb H : Hp) (F : List Addr) : Hp := fun a => if a ∈ F then H a else Hb a
section
variable {P : Program} {w : World} {K : PySem.W.Frag} {mg : Str → Option Value} {base : Heap}
def sp_Flow_told (K : PySem.W.Frag) : Sp := fun vs H Q _ => ∃ (p : Addr) (wv : V) (A : FA) (S : FS) (Hb : Hp), vs = [.ref p] ∧ FlowAt K Hb H p wv A S ∧ Same Hb H ∧ S.kept.length ≤ 900000 ∧ (∀ e ∈ S.kept, e.2.2.length ≤ 900000) ∧
  ∀ (v : V) (Hb2 H2 : Hp), Same Hb Hb2 → Same H H2 → Same Hb2 H2 → (∀ a, Hb a = none → Hb2 a ≠ none → H a = none ∨ a ∈ foot p A S) → Dv Hb2 (toldD (binsOf S.kept) S.done) v → Q v H2
theorem mt_Flow_told (T : Tx K mg) : Mth P w K mg base 2 (He.ga K "Flow") "told" ["self"] (sp_Flow_told K) := by
  have C_rising := ok_rising (P := P) (w := w) (base := base) T
  obtain ⟨fd, F⟩ := T.c.def_ 16 (d := d_Flow_told) rfl
  refine ⟨_, fd, T.me_Flow_told, FunD.bindsN (ps := ["self"]) F fun _ _ _ _ _ _ us hl => match us, hl with | [_], _ => rfl, def_ok F sc_Flow_told ?_ fun cdv A outer s H vs Q E hr h => ?_⟩
  · rintro vs H Q E ⟨p, wv, A, S, Hb, rfl, _⟩
    rfl
  · obtain ⟨p, wv, A, S, Hb, rfl, f, sm, kl, ki, k⟩ := h
    refine ⟨_, (pss_cons (ps_setLc (i := 1) (own := [("number", 2)]) (g := (gName 2)) rfl sc_Flow_told.nd rfl rfl (sw_true rfl rfl rfl (by decide +kernel)) (pi_listK (K := K) rfl (pe_callB (kSortedI (K := K) rfl) (by rfl) T.sorted bb_sorted (pa_cons (pe_callTy (c_listD rfl) (by rfl) T.list bb_list (pa_cons (pe_fldK (K := K) rfl (pv 0) rfl) pa_nil)) pa_nil))) (blkOk_by (own := [("number", 2)]) (N := N_Flow_told) (sc := defScope s_Flow_told) (by decide +kernel)) (fun _ _ _ _ _ => (pg_name (i := 2) sc_Flow_told.nd rfl (Or.inl rfl))) (fun _ _ _ _ _ => pts_nil) (fun _ _ _ _ _ => (pe_tup (pa_cons (pv 2) (pa_cons (pe_cal C_rising (hr.mono (by decide)) (by rfl) (pa_cons (pe_dget (hu_of hr) (pe_fldK (K := K) rfl (pv 0) rfl) (pv 2) (fun _ _ => rfl)) pa_nil)) pa_nil)))))
  (pss_one (ps_ret (pe_tup (pa_cons (pv 1) (pa_cons (pe_callTy (kListOf (K := K) rfl) (by rfl) T.list bb_list (pa_cons (pe_fldK (K := K) rfl (pv 0) rfl) pa_nil)) pa_nil)))))), ?_⟩
    have f1 : ∀ a ∈ foot p A S, frz Hb H (foot p A S) a = H a := fun a h => if_pos h
    have f2 : Same Hb (frz Hb H (foot p A S)) := fun b o e => by
      unfold frz
      by_cases q : b ∈ foot p A S
      · have := f.out b q; rw [e] at this; cases this
      · rw [if_neg q]; exact e
    have f3 : Same (frz Hb H (foot p A S)) H := fun b o e => by
      unfold frz at e
      by_cases q : b ∈ foot p A S
      · rw [if_pos q] at e; exact e
      · rw [if_neg q] at e; exact sm _ _ e
    have fz : Fz K S.kept S.done (frz Hb H (foot p A S)) (.ref p) := by
      refine ⟨p, A.dx, wv, .ref A.ds, A.dd, A.dk, rfl, ?_, ⟨A.dk, _, rfl, ?_, dv_kept fun e he => ?_⟩, ⟨A.dd, _, rfl, ?_, DvAll.ints.mpr rfl⟩⟩
      · rw [f1 p (by simp [foot])]; exact f.ob
      · rw [f1 A.dk (by simp [foot])]; exact f.kp
      · rw [f1 e.2.1 (by simp only [foot, List.mem_cons, List.mem_append]; exact .inr (.inr (.inr (.inr (.inr (List.mem_map.mpr ⟨e, he, rfl⟩))))))]; exact f.kpI e he
      · rw [f1 A.dd (by simp [foot])]; exact f.dn
    have hk : ∀ v Hb2 H2, Grow (frz Hb H (foot p A S)) H Hb2 H2 → Dv Hb2 (toldD (binsOf S.kept) S.done) v → Q v H2 := fun v Hb2 H2 g d => by
      refine k v Hb2 H2 (f2.trans g.fz) g.al g.in_ (fun a n1 n2 => ?_) d
      by_cases q : a ∈ foot p A S
      · exact .inr q
      · left
        refine g.nw a ?_ n2
        unfold frz
        rw [if_neg q]; exact n1
    clear k
    have c := start_cur (As := [Fz K S.kept S.done]) (vs := [.ref p]) (N := N_Flow_told) (k := 2) f3 ⟨_, _, rfl, fz, rfl⟩ ⟨mono_Fz, trivial⟩ rfl
    have kx : ∀ b ∈ isort (S.kept.map (·.1)), lkD (S.kept.map fun e => (e.1, dI e.2.2)) b = some (dI (lotAt S.kept b)) ∧ (lotAt S.kept b).length ≤ 900000 := fun b hb => by
      obtain ⟨e, he, e1, e2⟩ := getP_at ((isort_perm _).mem_iff.mp hb)
      rw [lkD_kept]
      unfold lotAt
      rw [e2]
      exact ⟨rfl, ki e he⟩
    refine q_asgD c (d := .list ((binsOf S.kept).map encB)) (y_is (y_lcL (xs := isort (S.kept.map (·.1))) (enc := .int) (e := fun b => encB (b, risingL (lotAt S.kept b))) (b := fun _ => true) (fun x => [.p (Fz K S.kept S.done), .no, .p (D (.int x))]) (y_sortedC (y_is (y_listD (y_zkept T (y_var rfl))) (by rw [keptD_keys]))) (by rw [isort_len, List.length_map]; omega) (fun x _ => yg_name) (fun x _ => yt_yes) (fun x hx _ => y_tup (ya_consD (y_var rfl) (ya_consD (y_call (As := [D (dI (lotAt S.kept x))]) (ya_cons (y_dget (y_zkept T (y_var rfl)) (y_var rfl) (kx x hx).1) (mono_D _) ya_nil) fun vs H Q h => ⟨_, (kx x hx).2, h⟩) ya_nilD)) (by simp))) ?_) fun σ1 H1 c1 => ?_
    · rw [List.filter_eq_self.mpr (fun _ _ => rfl)]
      unfold binsOf
      rw [List.map_map]; rfl
    · exact z_ret c1 (y_tup (ya_consD (y_var rfl) (ya_consD (y_listOf (y_zdone T (y_var rfl))) ya_nilD)) (by simp)) hk
end
end MW

/-! G8 -/
set_option Elab.async false
set_option linter.all false
set_option maxRecDepth 100000
set_option maxHeartbeats 400000
namespace MW
open PySem PySem.Spec L2

/-- a new object whose fields are being set -/
structure Ini (Hb0 H0 Hb H : Hp) (x : Addr) (o : HO) : Prop where
  fz : Same Hb0 Hb
  in_ : Same Hb H
  ob : H x = some o
  al : ∀ b o', H0 b = some o' → b ≠ x → H b = some o'
  out : Hb x = none
  nw : ∀ a, Hb0 a = none → Hb a ≠ none → H0 a = none
section
variable {Hb0 H0 Hb H Hb2 H2 : Hp} {x : Addr} {o o2 : HO}
theorem Ini.set (i : Ini Hb0 H0 Hb H x o) : Ini Hb0 H0 Hb (upd H x o2) x o2 := ⟨i.fz, same_mut i.in_ i.out, upd_same, fun b o' e n => by rw [upd_ne n]; exact i.al b o' e n, i.out, i.nw⟩
theorem Ini.nx (i : Ini Hb0 H0 Hb H x o) {p : Addr} (hp : H p = none) : p ≠ x := fun z => by rw [z, i.ob] at hp; cases hp
theorem Ini.free (i : Ini Hb0 H0 Hb H x o) {p : Addr} (hp : H p = none) : H0 p = none := by
  cases q : H0 p with
  | none => rfl
  | some o' => have := i.al p o' q (i.nx hp); rw [hp] at this; cases this
theorem Ini.new (i : Ini Hb0 H0 Hb H x o) {p : Addr} (hp : H p = none) : Ini Hb0 H0 Hb (upd H p o2) x o := ⟨i.fz, same_mut i.in_ (i.in_.free hp), by rw [upd_ne (Ne.symm (i.nx hp))]; exact i.ob, fun b o' e n => by
  rw [upd_ne (ne_of_none (i.al b o' e n) hp)]; exact i.al b o' e n,
  i.out, i.nw⟩
theorem Ini.grow (i : Ini Hb0 H0 Hb H x o) (g : Grow Hb H Hb2 H2) : Ini Hb0 H0 Hb2 H2 x o := ⟨i.fz.trans g.fz, g.in_, g.al _ _ i.ob, fun b o' e n => g.al _ _ (i.al b o' e n), by
  cases q : Hb2 x with
  | none => rfl
  | some o' => exact absurd (g.nw x i.out (by rw [q]; simp)) (by rw [i.ob]; simp),
  fun a n1 n2 => by
  by_cases q : Hb a = none
  · exact i.free (g.nw a q n2)
  · exact i.nw a n1 q⟩
theorem Ini.more (i : Ini Hb0 H0 Hb H x o) (s : Same H H2) : Ini Hb0 H0 Hb H2 x o := ⟨i.fz, i.in_.trans s, s _ _ i.ob, fun b o' e n => s _ _ (i.al b o' e n), i.out, i.nw⟩
end
/-- a list made, not frozen -/
theorem y_lcOwn {R : Res} {K : PySem.W.Frag} {G : Ctx} {tl te : TE} {tt : TT} {g : TG} {vs : List Nat} {α : Type} {xs : List α} {enc e : α → PyData} {b : α → Bool} (Gx : α → Ctx) (hl : Y R tl G (D (.list (xs.map enc)))) (hz : xs.length ≤ 900000) (hg : ∀ x ∈ xs, YG g vs (wipeG G vs) (enc x) (Gx x))
    (ht : ∀ x ∈ xs, YT R tt (Gx x) (b x)) (he : ∀ x ∈ xs, b x = true → Y R te (Gx x) (D (e x))) {H0 Hb H : Hp} {σ : L2.St} (E : EvG H0 G Hb H σ) (rr : R.p H0 Hb H) (s : Same Hb H) (Q : VK)
    (q : ∀ Dl acc Hb2 H2, Grow Hb H Hb2 H2 → Hb2 Dl = none → H Dl = none → H2 Dl = some (.lst acc) → DvAll Hb2 ((xs.filter b).map e) acc → Q (.ref Dl) H2) : tLc (iList K tl) g tt te vs σ H Q :=
  hl H0 Hb H σ E rr s _ fun v Hb1 H1 g1 p => by
    obtain ⟨a, ys, rfl, ha, hr⟩ := p
    have hlen : ys.length = xs.length := by rw [hr.length, List.length_map]
    refine ⟨a, rfl, ⟨ys, .inl (.inl (g1.in_ _ _ ha))⟩, fun Dl hD => ?_⟩
    have hbD : Hb1 Dl = none := g1.in_.free hD
    let f : α → List PyData := fun x => if b x then [e x] else []
    refine lc_list (xs := ys) (fun i H' => Acc Hb1 H1 Dl ((xs.take i).flatMap f) H') ⟨Hb1, [], .own g1.in_ hD, hbD, upd_same, rfl⟩ (fun i H' _ ⟨Hb2, acc, g2, _⟩ => .inl (.inl (g2.in_ _ _ (g2.fz _ _ ha)))) (fun i x H' hx A => ?_) (fun H' A => ?_)
    · obtain ⟨d, e1, e2⟩ := hr.get' hx
      rw [List.getElem?_map] at e1
      cases hxi : xs[i]? with
      | none => rw [hxi] at e1; cases e1
      | some y =>
        rw [hxi] at e1
        cases e1
        have hm : y ∈ xs := List.mem_of_getElem? hxi
        obtain ⟨Hb2, acc, g2, n2, d2, a2⟩ := id A
        refine hg y hm H0 Hb2 H' (wipe σ vs) x (((E.grow g1).grow g2).wipe vs) g2.in_ (Dv.mono g2.fz _ _ e2) _ fun σ2 E2 hw => ⟨by rw [hw, wipe_idem], ?_⟩
        rw [take_step f hxi]
        refine acc_turn (G2 := Gx y) (H0 := H0) g2 n2 d2 a2 hD ?_ (R.st _ _ _ _ _ (R.st _ _ _ _ _ rr g1) g2) E2 (ht y hm) (he y hm)
        refine Nat.lt_of_le_of_lt (flat_len b e _) ?_
        rw [List.length_take]; omega
    · rw [hlen, List.take_length, flat_filter] at A
      obtain ⟨Hb2, acc, g2, n2, d2, a2⟩ := A
      exact q Dl acc Hb2 H' (g1.trans g2) n2 (g1.al.free hD) d2 a2
/-! dict of pairs (number, {}) -/
def kpE (l : PL) (b : Int) (a : Addr) : PL := if b ∈ l.map (·.1) then l.map (fun e => if e.1 = b then (e.1, a, []) else e) else l ++ [(b, a, [])]
theorem rep_keys (l : PL) (b : Int) (a : Addr) : (l.map fun e => if e.1 = b then (e.1, a, []) else e).map (·.1) = l.map (·.1) := by
  rw [List.map_map]
  refine List.map_congr_left fun e _ => ?_
  show (if e.1 = b then (e.1, a, []) else e : Int × Addr × List (Int × Int)).1 = e.1
  split <;> rfl
theorem rep_mem {l : PL} {b : Int} {a : Addr} {e : Int × Addr × List (Int × Int)} (h : e ∈ l.map fun e => if e.1 = b then (e.1, a, []) else e) : e ∈ l ∨ (e.2.1 = a ∧ e.2.2 = []) := by
  obtain ⟨e0, h0, h1⟩ := List.mem_map.mp h
  by_cases z : e0.1 = b
  · rw [if_pos z] at h1; rw [← h1]; exact .inr ⟨rfl, rfl⟩
  · rw [if_neg z] at h1; rw [← h1]; exact .inl h0
theorem rep_nd {b : Int} {a : Addr} : ∀ {l : PL}, (l.map (·.1)).Nodup → (l.map (·.2.1)).Nodup → a ∉ l.map (·.2.1) → ((l.map fun e => if e.1 = b then (e.1, a, []) else e).map (·.2.1)).Nodup
  | [], _, _, _ => by simp
  | e :: l, n1, n2, n3 => by
    rw [List.map_cons, List.nodup_cons] at n1 n2
    have n3' : a ≠ e.2.1 ∧ a ∉ l.map (·.2.1) := by simpa using n3
    have ih := rep_nd (b := b) n1.2 n2.2 n3'.2
    rw [List.map_cons, List.map_cons, List.nodup_cons]
    refine ⟨fun h => ?_, ih⟩
    obtain ⟨e', h1, h2⟩ := List.mem_map.mp h
    by_cases z : e.1 = b
    · rw [if_pos z] at h2
      obtain ⟨e0, h3, rfl⟩ := List.mem_map.mp h1
      have : e0.1 ≠ b := fun y => n1.1 (List.mem_map.mpr ⟨e0, h3, by rw [y, z]⟩)
      rw [if_neg this] at h2
      exact n3'.2 (List.mem_map.mpr ⟨e0, h3, h2⟩)
    · rw [if_neg z] at h2
      rcases rep_mem h1 with y | ⟨y, _⟩
      · exact n2.1 (List.mem_map.mpr ⟨e', y, h2⟩)
      · exact n3'.1 (by rw [← y, h2])
theorem kp_put (l : PL) (b : Int) (a : Addr) : putK (l.map pvE) (Sum.inl b : Key) (.ref a) = (kpE l b a).map pvE := by
  unfold putK kpE
  have h : ((l.map pvE).any fun kv => decide (kv.1 = (Sum.inl b : Key))) = decide (b ∈ l.map (·.1)) := by
    rw [List.any_map]
    induction l with
    | nil => rfl
    | cons e l ih =>
      rw [List.any_cons, ih, List.map_cons]
      by_cases z : e.1 = b
      · simp [z]
      · have : ¬ b = e.1 := fun y => z y.symm
        simp [z, this]
  rw [h]
  by_cases z : b ∈ l.map (·.1)
  · rw [if_pos (by simpa using z), if_pos z, List.map_map, List.map_map]
    refine List.map_congr_left fun e _ => ?_
    show (if (Sum.inl e.1 : Key) = Sum.inl b then ((Sum.inl e.1 : Key), V.ref a) else pvE e) = pvE (if e.1 = b then (e.1, a, []) else e)
    by_cases y : e.1 = b
    · rw [if_pos (by rw [y]), if_pos y]
    · rw [if_neg (fun w => y (Sum.inl.inj w)), if_neg y]
  · rw [if_neg (by simpa using z), if_neg z, List.map_append]; rfl
structure KpOk (l : PL) : Prop where
  kn : (l.map (·.1)).Nodup
  an : (l.map (·.2.1)).Nodup
  em : ∀ e ∈ l, e.2.2 = []
theorem KpOk.step {l : PL} {b : Int} {a : Addr} (h : KpOk l) (ha : a ∉ l.map (·.2.1)) : KpOk (kpE l b a) ∧ (∀ x ∈ (kpE l b a).map (·.2.1), x ∈ l.map (·.2.1) ∨ x = a) ∧ ∀ k, k ∈ (kpE l b a).map (·.1) ↔ k ∈ l.map (·.1) ∨ k = b := by
  unfold kpE
  by_cases z : b ∈ l.map (·.1)
  · rw [if_pos z]
    refine ⟨⟨by rw [rep_keys]; exact h.kn, rep_nd h.kn h.an ha, fun e he => ?_⟩, fun x hx => ?_, fun k => ?_⟩
    · rcases rep_mem he with y | ⟨_, y⟩
      · exact h.em e y
      · exact y
    · obtain ⟨e, he, rfl⟩ := List.mem_map.mp hx
      rcases rep_mem he with y | ⟨y, _⟩
      · exact .inl (List.mem_map.mpr ⟨e, y, rfl⟩)
      · exact .inr y
    · rw [rep_keys]
      exact ⟨.inl, fun y => y.elim id fun y => y ▸ z⟩
  · rw [if_neg z]
    refine ⟨⟨?_, ?_, fun e he => ?_⟩, fun x hx => ?_, fun k => ?_⟩
    · rw [List.map_append, List.nodup_append]
      exact ⟨h.kn, by simp, fun p hp q hq e => by
        have : q = b := by simpa using hq
        rw [this] at e
        exact z (e ▸ hp)⟩
    · rw [List.map_append, List.nodup_append]
      exact ⟨h.an, by simp, fun p hp q hq e => by
        have : q = a := by simpa using hq
        rw [this] at e
        exact ha (e ▸ hp)⟩
    · rcases List.mem_append.mp he with y | y
      · exact h.em e y
      · rw [List.mem_singleton.mp y]
    · rw [List.map_append] at hx
      rcases List.mem_append.mp hx with y | y
      · exact .inl y
      · exact .inr (by simpa using y)
    · rw [List.map_append, List.mem_append]; simp
theorem kp_all : ∀ (es : List (Int × Addr)) (l : PL), KpOk l → (∀ x ∈ l.map (·.2.1), x ∉ es.map (·.2)) → (es.map (·.2)).Nodup → ∃ l2 : PL, mergeK (l.map pvE) (es.map fun e => ((Sum.inl e.1 : Key), V.ref e.2)) = l2.map pvE ∧ KpOk l2 ∧ (∀ x ∈ l2.map (·.2.1), x ∈ l.map (·.2.1) ∨ x ∈ es.map (·.2)) ∧ ∀ k, k ∈ l2.map (·.1) ↔ k ∈ l.map (·.1) ∨ k ∈ es.map (·.1)
  | [], l, h, _, _ => ⟨l, rfl, h, fun _ => .inl, fun k => by simp⟩
  | e :: es, l, h, hd, hn => by
    rw [List.map_cons, List.nodup_cons] at hn
    have ha : e.2 ∉ l.map (·.2.1) := fun z => hd _ z (by simp)
    obtain ⟨h1, h2, h3⟩ := h.step (b := e.1) ha
    obtain ⟨l2, k1, k2, k3, k4⟩ := kp_all es (kpE l e.1 e.2) h1 (fun x hx => by
      rcases h2 x hx with y | y
      · exact fun w => hd x y (by rw [List.map_cons]; exact List.mem_cons_of_mem _ w)
      · rw [y]; exact hn.1) hn.2
    refine ⟨l2, ?_, k2, fun x hx => ?_, fun k => ?_⟩
    · rw [← k1, ← kp_put]; rfl
    · rw [List.map_cons]
      rcases k3 x hx with y | y
      · rcases h2 x y with w | w
        · exact .inl w
        · exact .inr (by rw [w]; exact List.mem_cons_self)
      · exact .inr (List.mem_cons_of_mem _ y)
    · rw [k4, h3, List.map_cons, List.mem_cons, or_assoc]
def binN : Rw → List Int
  | .bin b => [b]
  | _ => []
end MW

/-! G9 -/
set_option Elab.async false
set_option linter.all false
set_option maxRecDepth 100000
set_option maxHeartbeats 400000
namespace MW
open PySem PySem.Spec L2

theorem row_at {Hb : Hp} {r : Rw} {v : V} (h : Dv Hb (rowD r) v) : ∃ a, v = .ref a ∧ ((∃ b, r = .bin b ∧ Hb a = some (.tup [.str "bin", .int b])) ∨ ((∀ b, r ≠ .bin b) ∧ ∃ (s : Str) (vs : List V), s ≠ "bin" ∧ Hb a = some (.tup vs) ∧ L2.atI vs 0 = some (.str s))) := by
  cases r with
  | mesh c u o =>
    obtain ⟨a, vs, rfl, h1, v1, r1, rfl, h2, v2, r2, rfl, h3, v3, r3, rfl, h4, v4, r4, rfl, h5, h6⟩ := h
    obtain rfl := show v1 = V.str "mesh" from h2
    obtain rfl := show r4 = [] from h6
    exact ⟨a, rfl, .inr ⟨fun b => by simp, _, _, by decide, h1, rfl⟩⟩
  | crush t =>
    obtain ⟨a, vs, rfl, h1, v1, r1, rfl, h2, v2, r2, rfl, h3, h6⟩ := h
    obtain rfl := show v1 = V.str "crush" from h2
    obtain rfl := show r2 = [] from h6
    exact ⟨a, rfl, .inr ⟨fun b => by simp, _, _, by decide, h1, rfl⟩⟩
  | bin b =>
    obtain ⟨a, vs, rfl, h1, v1, r1, rfl, h2, v2, r2, rfl, h3, h4⟩ := h
    obtain rfl := show v1 = V.str "bin" from h2
    obtain rfl := show v2 = V.int b from h3
    obtain rfl := show r2 = [] from h4
    exact ⟨a, rfl, .inl ⟨b, rfl, h1⟩⟩
/-- the made pairs -/
structure KA (H3 : Hp) (Dl : Addr) (bs : List Int) (H : Hp) : Prop where
  ex : ∃ (es : List (Int × Addr)) (ts : List Addr), H Dl = some (.lst (ts.map V.ref)) ∧ Paired (fun t (e : Int × Addr) => H t = some (.tup [.int e.1, .ref e.2])) ts es ∧ (∀ e ∈ es, H e.2 = some (.dK []) ∧ H3 e.2 = none) ∧ (es.map (·.2)).Nodup ∧ es.map (·.1) = bs
  al : Same H3 H
theorem Paired.same {H H' : Hp} {ts : List Addr} {es : List (Int × Addr)} (h : Paired (fun t (e : Int × Addr) => H t = some (.tup [.int e.1, .ref e.2])) ts es) (s : ∀ t ys, H t = some (.tup ys) → H' t = some (.tup ys)) : Paired (fun t (e : Int × Addr) => H' t = some (.tup [.int e.1, .ref e.2])) ts es := Paired.mapP h fun _ _ => s _ _
theorem Paired.snoc {α β : Type} {F : α → β → Prop} : ∀ {l : List α} {m : List β} {a : α} {b : β}, Paired F l m → F a b → Paired F (l ++ [a]) (m ++ [b])
  | [], [], _, _, _, h => .cons h .nil
  | _ :: _, _ :: _, _, _, .cons x y, h => .cons x (Paired.snoc y h)
theorem KA.turn {H3 H : Hp} {Dl : Addr} {bs : List Int} {b : Int} (h : KA H3 Dl bs H) (hD : H3 Dl = none) {q t : Addr} (hq : H q = none) (ht : (upd H q (.dK [])) t = none) :
    ∃ acc, (upd (upd H q (.dK [])) t (.tup [.int b, .ref q])) Dl = some (.lst acc) ∧ acc.length = bs.length ∧ KA H3 Dl (bs ++ [b]) (upd (upd (upd H q (.dK [])) t (.tup [.int b, .ref q])) Dl (.lst (acc ++ [.ref t]))) := by
  obtain ⟨⟨es, ts, h1, h2, h3, h4, h5⟩, al⟩ := h
  have n1 : Dl ≠ q := ne_of_none h1 hq
  have n2 : Dl ≠ t := ne_of_none (by rw [upd_ne n1]; exact h1) ht
  have n3 : q ≠ t := ne_of_none (show upd H q (.dK []) q = some (.dK []) from upd_same) ht
  have ht' : H t = none := by rw [upd_ne (Ne.symm n3)] at ht; exact ht
  have old : ∀ c o, H c = some o → c ≠ Dl → (upd (upd (upd H q (.dK [])) t (.tup [.int b, .ref q])) Dl (.lst (ts.map V.ref ++ [.ref t]))) c = some o := fun c o e n => by
    rw [upd_ne n, upd_ne (ne_of_none e ht'), upd_ne (ne_of_none e hq)]; exact e
  refine ⟨ts.map V.ref, by rw [upd_ne n2, upd_ne n1]; exact h1, ?_, ⟨es ++ [(b, q)], ts ++ [t], ?_, ?_, ?_, ?_, ?_⟩, fun c o e => old c o (al c o e) (ne_of_none e hD)⟩
  · rw [List.length_map, Paired.length h2, ← h5, List.length_map]
  · rw [upd_same, List.map_append]; rfl
  · refine Paired.snoc (Paired.same h2 fun c ys e => old c _ e fun z => ?_) ?_
    · rw [z, h1] at e; cases e
    · show (upd _ Dl _) t = _
      rw [upd_ne (Ne.symm n2), upd_same]
  · intro e he
    rcases List.mem_append.mp he with y | y
    · exact ⟨old _ _ (h3 e y).1 fun z => (by have := (h3 e y).1; rw [z, h1] at this; cases this), (h3 e y).2⟩
    · rw [List.mem_singleton.mp y]
      exact ⟨by show (upd _ Dl _) q = _; rw [upd_ne (Ne.symm n1), upd_ne n3, upd_same], al.free hq⟩
  · rw [List.map_append, List.nodup_append]
    refine ⟨h4, by simp, fun x hx y hy z => ?_⟩
    have : y = q := by simpa using hy
    obtain ⟨e, he, e1⟩ := List.mem_map.mp hx
    have := (h3 e he).1
    rw [e1, z, ‹y = q›, hq] at this
    cases this
  · rw [List.map_append, h5]; rfl
theorem put1 {a : V} : putF "works" a [] = [(("works" : Str), a)] := rfl
theorem put2 {a b : V} : putF "sizes" b [(("works" : Str), a)] = [(("works" : Str), a), (("sizes" : Str), b)] := by
  have h : ¬ (("works" : Str) = "sizes") := by decide +kernel
  unfold putF; rw [if_neg h]; rfl
theorem put3 {a b c : V} : putF "done" c [(("works" : Str), a), (("sizes" : Str), b)] = [(("works" : Str), a), (("sizes" : Str), b), (("done" : Str), c)] := by
  have h : ¬ (("works" : Str) = "done") := by decide +kernel
  have h2 : ¬ (("sizes" : Str) = "done") := by decide +kernel
  unfold putF; rw [if_neg h]; unfold putF; rw [if_neg h2]; rfl
theorem put4 {a b c d : V} : putF "kept" d [(("works" : Str), a), (("sizes" : Str), b), (("done" : Str), c)] = [(("works" : Str), a), (("sizes" : Str), b), (("done" : Str), c), (("kept" : Str), d)] := by
  have h : ¬ (("works" : Str) = "kept") := by decide +kernel
  have h2 : ¬ (("sizes" : Str) = "kept") := by decide +kernel
  have h3 : ¬ (("done" : Str) = "kept") := by decide +kernel
  unfold putF; rw [if_neg h]; unfold putF; rw [if_neg h2]; unfold putF; rw [if_neg h3]; rfl
theorem z_fldS {K : PySem.W.Frag} {ta tv : TE} {f : Str} {tz : TS} {De : Ends} {σ : L2.St} {H : Hp} (h : tv σ H fun y H1 => ta σ H1 fun x H2 => ∃ a C dx fs, x = .ref a ∧ H2 a = some (.ins C dx fs) ∧ Cls K C ∧ NoAttr K C f ∧ fs.length < 1000 ∧ tz De σ (upd H2 a (.ins C dx (putF f y fs)))) : tSeq (sFld K ta tv f) tz De σ H := h
structure Start (rows : List Rw) (S : FS) : Prop where
  pend : S.pend = []
  done : S.done = List.replicate rows.length 0
  kp : KpOk S.kept
  keys : ∀ b, b ∈ S.kept.map (·.1) ↔ Rw.bin b ∈ rows
section
variable {P : Program} {w : World} {K : PySem.W.Frag} {mg : Str → Option Value} {base : Heap}
def sp_Flow_init (K : PySem.W.Frag) : Sp := fun vs H Q _ => ∃ (x dx : Addr) (pt : Int) (rows : List Rw) (Hb : Hp) (wv : V), rows.length ≤ 1000 ∧ vs = [.ref x, wv] ∧ H x = some (.ins (He.ga K "Flow") dx []) ∧ Hb x = none ∧ Same Hb H ∧ Ws K pt rows Hb wv ∧
  ∀ (Hb2 H2 : Hp) (A : FA) (S : FS), A.dx = dx → Start rows S → FlowAt K Hb2 H2 x wv A S → Same Hb Hb2 → (∀ b o, H b = some o → b ≠ x → H2 b = some o) → Same Hb2 H2 → (∀ a ∈ foot x A S, a = x ∨ H a = none) → (∀ a, Hb a = none → Hb2 a ≠ none → H a = none) → Q .non H2
theorem mk_Flow (T : Tx K mg) : Mak P w K mg base 1 "Flow" (He.ga K "Flow") ["self", "works"] (sp_Flow_init K) := by
  obtain ⟨fd, F⟩ := T.c.def_ 11 (d := d_Flow_init) rfl
  refine ⟨_, fd, T.g_Flow, T.mk_Flow, FunD.bindsN (ps := ["self", "works"]) F fun _ _ _ _ _ _ us hl => match us, hl with | [_, _], _ => rfl, def_ok F sc_Flow_init ?_ fun cdv A outer s H vs Q E hr h => ?_⟩
  · rintro vs H Q E ⟨x, dx, pt, rows, Hb, wv, _, rfl, _⟩
    rfl
  · obtain ⟨x, dx, pt, rows, Hb, wv, hl, rfl, hx, hbx, sm, hw, k⟩ := h
    refine ⟨_, (pss_cons (ps_fld (pv 0) (pv 1) rfl)
  (pss_cons (ps_fld (pv 0) pe_dnewK rfl)
  (pss_cons (ps_fld (pv 0) (pe_lc (own := [("row", 2)]) (g := (gName 2)) rfl sc_Flow_init.nd (pi_listK (K := K) rfl (pe_fldK (K := K) rfl (pv 1) rfl)) (blkOk_by (own := [("row", 2)]) (N := N_Flow_init) (sc := defScope s_Flow_init) (by decide +kernel)) (fun _ _ _ _ _ => (pg_name (i := 2) sc_Flow_init.nd rfl (Or.inl rfl))) (fun _ _ _ _ _ => pts_nil) (fun _ _ _ _ _ => pe_int)) rfl)
  (pss_one (ps_fld (pv 0) (pe_callTy (kDictP (K := K) rfl rfl) (by rfl) T.dict bb_dict (pa_cons (pe_lc (own := [("row", 2)]) (g := (gName 2)) rfl sc_Flow_init.nd (pi_listK (K := K) rfl (pe_fldK (K := K) rfl (pv 1) rfl)) (blkOk_by (own := [("row", 2)]) (N := N_Flow_init) (sc := defScope s_Flow_init) (by decide +kernel)) (fun _ _ _ _ _ => (pg_name (i := 2) sc_Flow_init.nd rfl (Or.inl rfl))) (fun _ _ _ _ _ => (pts_one (pt_cmpR op_eq (pe_ix (kxT (K := K) rfl) (pv 2) pe_int (fun _ _ => rfl)) pe_str (nomark _)))) (fun _ _ _ _ _ => (pe_tup (pa_cons (pe_ix (kxT (K := K) rfl) (pv 2) pe_int (fun _ _ => rfl)) (pa_cons pe_dnewK pa_nil))))) pa_nil)) rfl))))), ?_⟩
    have i0 : Ini Hb H Hb H x (.ins (He.ga K "Flow") dx []) := ⟨Same.refl _, sm, hx, fun _ _ e _ => e, hbx, fun _ n q => absurd n q⟩
    refine ⟨_, rfl, _, rfl, x, _, dx, [], rfl, i0.ob, T.cls_Flow, T.no_Flow_works, (show 0 < 1000 by decide), ?_⟩
    rw [put1]
    have i1 := i0.set (o2 := .ins (He.ga K "Flow") dx [("works", wv)])
    generalize upd H x (.ins (He.ga K "Flow") dx [("works", wv)]) = H1 at i1
    -- sizes
    refine fun ds hds => ⟨_, rfl, x, _, dx, _, rfl, (i1.new hds).ob, T.cls_Flow, T.no_Flow_sizes, (show 1 < 1000 by decide), ?_⟩
    rw [put2]
    have i2 := (i1.new (o2 := .dK []) hds).set (o2 := .ins (He.ga K "Flow") dx [("works", wv), ("sizes", .ref ds)])
    have nds := i1.nx hds
    have fds := i1.free hds
    have e2 : (upd (upd H1 ds (.dK [])) x (.ins (He.ga K "Flow") dx [("works", wv), ("sizes", .ref ds)])) ds = some (.dK []) := by rw [upd_ne nds]; exact upd_same
    have b2 : Hb ds = none := sm.free fds
    generalize upd (upd H1 ds (.dK [])) x (.ins (He.ga K "Flow") dx [("works", wv), ("sizes", .ref ds)]) = H2 at i2 e2
    -- done
    have E2 : EvG H2 [.no, .p (Ws K pt rows), .no] Hb H2 [some (.ref x), some wv, none] := ev_told rfl (fun i e q => by
      match i, q with
      | 0, q => cases q; rfl
      | 1, q => cases q; rfl
      | 2, q => cases q; rfl
      | i + 3, q => cases q) fun i P q => by
      match i, q with
      | 0, q => cases q
      | 1, q => cases q; exact ⟨mono_Ws, _, rfl, hw⟩
      | 2, q => cases q
      | i + 3, q => cases q
    dsimp only
    refine z_fldS ?_
    refine y_lcOwn (K := K) (R := R0) (g := gName 2) (vs := [2]) (H0 := H2) (Hb := Hb) (xs := rows) (enc := rowD) (e := fun _ => .int 0) (b := fun _ => true) (fun x => [.no, .p (Ws K pt rows), .p (D (rowD x))]) (y_rows T (y_var (i := 1) rfl)) (by omega) (fun x _ => yg_name) (fun _ _ => yt_yes) (fun _ _ _ => y_int) E2 trivial i2.in_ _ fun dd acc Hb3 H3 g3 n3 d3 a3 da => ?_
    have i3 := i2.grow g3
    have e3 := g3.al _ _ e2
    have b3 : Hb3 ds = none := by
      cases q : Hb3 ds with
      | none => rfl
      | some o => have := g3.nw ds b2 (by rw [q]; simp); rw [e2] at this; cases this
    have fdd := i2.free d3
    have ndd : dd ≠ x := i2.nx d3
    have ndds : dd ≠ ds := fun z => by rw [z, e2] at d3; cases d3
    have hacc : acc = (List.replicate rows.length (0 : Int)).map V.int := by
      refine (DvAll.ints (H := Hb3)).mp ?_
      rw [List.filter_eq_self.mpr (fun _ _ => rfl)] at da
      have : rows.map (fun _ => PyData.int 0) = (List.replicate rows.length (0 : Int)).map PyData.int := by
        rw [List.map_replicate, ← List.map_const']
      rw [← this]; exact da
    subst hacc
    have hw3 := mono_Ws _ _ _ g3.fz hw
    refine ⟨_, rfl, x, _, dx, _, rfl, i3.ob, T.cls_Flow, T.no_Flow_done, (show 2 < 1000 by decide), ?_⟩
    rw [put3]
    have i4 := i3.set (o2 := .ins (He.ga K "Flow") dx [("works", wv), ("sizes", .ref ds), ("done", .ref dd)])
    have e4 : (upd H3 x (.ins (He.ga K "Flow") dx [("works", wv), ("sizes", .ref ds), ("done", .ref dd)])) ds = some (.dK []) := by rw [upd_ne nds]; exact e3
    have a4 : (upd H3 x (.ins (He.ga K "Flow") dx [("works", wv), ("sizes", .ref ds), ("done", .ref dd)])) dd = some (.lst ((List.replicate rows.length (0 : Int)).map V.int)) := by rw [upd_ne ndd]; exact a3
    generalize upd H3 x (.ins (He.ga K "Flow") dx [("works", wv), ("sizes", .ref ds), ("done", .ref dd)]) = H4 at i4 e4 a4
    clear i3 a3 e3 da g3 i2 E2 e2 i1 i0 d3 hds H1 H2 H3
    -- kept
    obtain ⟨wa, wdx, rl, rfl, hwa, rl', rvs, hrl, hrv, hra⟩ := hw3
    obtain rfl := V.ref.inj hrl
    refine ⟨_, rfl, wa, _, wdx, _, _, rfl, i4.in_ _ _ hwa, T.cls_Works, T.no_Works_rows, lk_rows, rl, rfl, ⟨rvs, .inl (.inl (i4.in_ _ _ hrv))⟩, fun Dl hD => ?_⟩
    have hlen : rvs.length = rows.length := by rw [hra.length, List.length_map]
    refine lc_list (xs := rvs) (fun i H' => KA H4 Dl ((rows.take i).flatMap binN) H') ⟨⟨[], [], upd_same, .nil, (fun _ h => nomatch h), .nil, rfl⟩, same_upd hD⟩ (fun i H' _ c => .inl (.inl (c.al _ _ (i4.in_ _ _ hrv)))) (fun i v H' hx c => ?_) (fun H' c => ?_)
    · obtain ⟨d, q1, q2⟩ := hra.get' hx
      rw [List.getElem?_map] at q1
      cases hxi : rows[i]? with
      | none => rw [hxi] at q1; cases q1
      | some r =>
        rw [hxi] at q1
        cases q1
        have hil : i < rows.length := (List.getElem?_eq_some_iff.mp hxi).1
        rw [take_step binN hxi]
        obtain ⟨ra, rfl, q3⟩ := row_at q2
        refine ⟨rfl, ?_⟩
        rcases q3 with ⟨b, rfl, q3⟩ | ⟨q4, st, rvs', q5, q3, q7⟩
        · have q6 := c.al _ _ (i4.in_ _ _ q3)
          refine ⟨_, rfl, ra, _, 0, _, rfl, rfl, .inl (.inl q6), rfl, rfl, true, rfl, ?_⟩
          refine ⟨_, rfl, ra, _, 1, _, rfl, rfl, .inl (.inl q6), rfl, fun q hq => ⟨(show 2 ≤ sizeLine by decide), fun t ht => ?_⟩⟩
          obtain ⟨acc, z1, z2, z3⟩ := c.turn (b := b) hD hq ht
          refine ⟨acc, z1, ?_, z3⟩
          rw [z2]
          have : ((rows.take i).flatMap binN).length ≤ rows.length := by
            have key : ∀ l : List Rw, (l.flatMap binN).length ≤ l.length := fun l => by
              induction l with
              | nil => exact Nat.le_refl _
              | cons r l ih =>
                rw [List.flatMap_cons, List.length_append, List.length_cons]
                have : (binN r).length ≤ 1 := by cases r <;> simp [binN]
                omega
            have := key (rows.take i)
            rw [List.length_take] at this
            omega
          exact Nat.lt_of_le_of_lt (Nat.le_trans this hl) (by decide)
        · have q6 := c.al _ _ (i4.in_ _ _ q3)
          refine ⟨_, rfl, ra, _, 0, _, rfl, rfl, .inl (.inl q6), q7, ⟨rfl, false, ?_, ?_⟩⟩
          · show V.bl _ = V.bl _
            congr 1
            exact decide_eq_false fun z => q5 (V.str.inj z)
          · show KA H4 Dl _ H'
            have : binN r = [] := by cases r <;> first | rfl | exact absurd rfl (q4 _)
            rw [this, List.append_nil]
            exact c
    · rw [hlen, List.take_length] at c
      obtain ⟨⟨es, ts, h1, h2, h3, h4, h5⟩, al⟩ := c
      refine ⟨Dl, ts, es.map fun e => ((Sum.inl e.1 : Key), V.ref e.2), rfl, .inl (.inl h1), ?_, fun dk hdk => ?_⟩
      · clear h1 h3 h4 h5
        induction h2 with
        | nil => exact .nil
        | cons a b ih => exact .cons (.inl (.inl a)) ih
      · have i5 := i4.more al
        refine ⟨_, rfl, x, _, dx, _, rfl, (i5.new hdk).ob, T.cls_Flow, T.no_Flow_kept, (show 3 < 1000 by decide), ?_⟩
        rw [put4]
        obtain ⟨l2, k1, k2, k3, k4⟩ := kp_all es [] ⟨.nil, .nil, (fun _ h => nomatch h)⟩ (fun x h => nomatch h) h4
        have k1' : mergeK [] (es.map fun e => ((Sum.inl e.1 : Key), V.ref e.2)) = l2.map pvE := k1
        rw [k1']
        have i6 := (i5.new (o2 := .dK (l2.map pvE)) hdk).set (o2 := .ins (He.ga K "Flow") dx [("works", .ref wa), ("sizes", .ref ds), ("done", .ref dd), ("kept", .ref dk)])
        have ndk : dk ≠ x := i5.nx hdk
        have dks : dk ≠ ds := fun z => by rw [z, al _ _ e4] at hdk; cases hdk
        have dkd : dk ≠ dd := fun z => by rw [z, al _ _ a4] at hdk; cases hdk
        have inE : ∀ a ∈ l2.map (·.2.1), ∃ e ∈ es, e.2 = a := fun a h => by
          rcases k3 a h with z | z
          · cases z
          · exact List.mem_map.mp z
        have ne_es : ∀ e ∈ es, e.2 ≠ x ∧ e.2 ≠ ds ∧ e.2 ≠ dd ∧ e.2 ≠ dk := fun e he => by
          obtain ⟨y1, y2⟩ := h3 e he
          exact ⟨i4.nx y2, (fun z => by rw [z, e4] at y2; cases y2), (fun z => by rw [z, a4] at y2; cases y2), (fun z => by rw [z, hdk] at y1; cases y1)⟩
        refine k Hb3 _ ⟨dx, ds, dd, dk⟩ ⟨[], List.replicate rows.length 0, l2⟩ rfl ⟨rfl, rfl, k2, fun b => ?_⟩ ⟨i6.ob, ?_, (fun _ h => nomatch h), ?_, ?_, fun e he => ?_, ?_, fun a ha => ?_⟩ i6.fz i6.al i6.in_ (fun a ha => ?_) i6.nw
        · show b ∈ l2.map (·.1) ↔ _
          rw [k4, h5]
          constructor
          · rintro (z | z)
            · cases z
            · obtain ⟨r, hr, hb⟩ := List.mem_flatMap.mp z
              cases r with
              | bin b' => rw [List.mem_singleton.mp hb]; exact hr
              | mesh c u o => cases hb
              | crush t => cases hb
          · exact fun z => .inr (List.mem_flatMap.mpr ⟨_, z, List.mem_singleton.mpr rfl⟩)
        · rw [upd_ne nds, upd_ne (Ne.symm dks)]; exact al _ _ e4
        · rw [upd_ne ndd, upd_ne (Ne.symm dkd)]; exact al _ _ a4
        · rw [upd_ne ndk]; exact upd_same
        · obtain ⟨e0, z1, z2⟩ := inE _ (List.mem_map.mpr ⟨e, he, rfl⟩)
          obtain ⟨n1, n2, n3, n4⟩ := ne_es e0 z1
          rw [← z2, upd_ne n1, upd_ne n4, k2.em e he]
          exact (h3 e0 z1).1
        · show (x :: dd :: ds :: dk :: ([] ++ l2.map (·.2.1))).Nodup
          simp only [List.nil_append, List.nodup_cons, List.mem_cons, not_or]
          refine ⟨⟨Ne.symm ndd, Ne.symm nds, Ne.symm ndk, fun z => ?_⟩, ⟨ndds, Ne.symm dkd, fun z => ?_⟩, ⟨Ne.symm dks, fun z => ?_⟩, fun z => ?_, k2.an⟩
          · obtain ⟨e0, z1, z2⟩ := inE _ z; exact (ne_es e0 z1).1 z2
          · obtain ⟨e0, z1, z2⟩ := inE _ z; exact (ne_es e0 z1).2.2.1 z2
          · obtain ⟨e0, z1, z2⟩ := inE _ z; exact (ne_es e0 z1).2.1 z2
          · obtain ⟨e0, z1, z2⟩ := inE _ z; exact (ne_es e0 z1).2.2.2 z2
        · have ha' : a = x ∨ a = dd ∨ a = ds ∨ a = dk ∨ a ∈ l2.map (·.2.1) := by simpa [foot] using ha
          rcases ha' with z | z | z | z | z
          · rw [z]; exact i4.out
          · rw [z]; exact n3
          · rw [z]; exact b3
          · rw [z]; exact i5.in_.free hdk
          · obtain ⟨e0, z1, z2⟩ := inE _ z
            rw [← z2]; exact i4.in_.free (h3 e0 z1).2
        · have ha' : a = x ∨ a = dd ∨ a = ds ∨ a = dk ∨ a ∈ l2.map (·.2.1) := by simpa [foot] using ha
          rcases ha' with z | z | z | z | z
          · exact .inl z
          · right; rw [z]; exact fdd
          · right; rw [z]; exact fds
          · right; rw [z]; exact i5.free hdk
          · obtain ⟨e0, z1, z2⟩ := inE _ z
            right; rw [← z2]; exact i4.free (h3 e0 z1).2
end
end MW

/-! G10 -/
set_option Elab.async false
set_option linter.all false
set_option maxRecDepth 100000
set_option maxHeartbeats 400000
namespace MW
open PySem PySem.Spec L2

/-- what `worked` tells -/
structure Worked (pt : Int) (rows : List Rw) (U : List Int) (r : Nat) (lot : List (Int × Int)) (bins : List (Int × List (Int × Int))) (done : List Int) : Prop where
  dl : done.length = rows.length
  bs : (bins.map (·.1)).Pairwise (· < ·)
  bk : ∀ b, b ∈ bins.map (·.1) ↔ Rw.bin b ∈ rows
  ls : ∀ q ∈ bins, (q.2.map (·.1)).Pairwise (· < ·)
  lk : ∀ q ∈ bins, ∀ x ∈ q.2, x.1 ∈ U ∧ 0 < x.2
  v : ∀ α β F, Eqn pt rows α β F → dsum done 0 α + (bins.map fun q => sumF q.2 (β q.1)).sum = (lot.map fun q => q.2 * F r q.1).sum
theorem perm_sum {α : Type} {l m : List α} (h : l.Perm m) (f : α → Int) : (l.map f).sum = (m.map f).sum := by
  induction h with
  | nil => rfl
  | cons x _ ih => rw [List.map_cons, List.map_cons, List.sum_cons, List.sum_cons, ih]
  | swap x y l => simp only [List.map_cons, List.sum_cons]; omega
  | trans _ _ a b => rw [a, b]
theorem flat_binN : ∀ l : List Rw, (l.flatMap binN).length ≤ l.length := fun l => by
  induction l with
  | nil => exact Nat.le_refl _
  | cons r l ih =>
    rw [List.flatMap_cons, List.length_append, List.length_cons]
    have : (binN r).length ≤ 1 := by cases r <;> simp [binN]
    omega
theorem le_nd_lt : ∀ {l : List Int}, l.Pairwise (· ≤ ·) → l.Nodup → l.Pairwise (· < ·)
  | [], _, _ => .nil
  | x :: l, h, n => by
    rw [List.pairwise_cons] at h ⊢
    rw [List.nodup_cons] at n
    exact ⟨fun y hy => by
      have h1 := h.1 y hy
      have h2 : x ≠ y := fun z => n.1 (z ▸ hy)
      omega, le_nd_lt h.2 n.2⟩
theorem isort_lt {ns : List Int} (h : ns.Nodup) : (isort ns).Pairwise (· < ·) := le_nd_lt (isort_sorted ns) ((isort_perm ns).nodup_iff.mpr h)
theorem rising_keys {l : List (Int × Int)} (h : (l.map (·.1)).Nodup) : ((risingL l).map (·.1)).Pairwise (· < ·) := by
  unfold risingL
  rw [List.map_map]
  have : ((fun x : Int × Int => x.1) ∘ fun k => (k, (getI l k).getD 0)) = id := rfl
  rw [this, List.map_id]
  exact (isort_lt h).sublist List.filter_sublist
theorem rising_mem {l : List (Int × Int)} {x : Int × Int} (hx : x ∈ risingL l) : x ∈ l := by
  unfold risingL at hx
  obtain ⟨k, hk, rfl⟩ := List.mem_map.mp hx
  have h1 := (isort_perm _).mem_iff.mp (List.mem_filter.mp hk).1
  exact getI_some (getI_mem h1)
theorem rising_sum {l : List (Int × Int)} (h : (l.map (·.1)).Nodup) (hp : ∀ q ∈ l, 0 < q.2) (f : Int → Int) : sumF (risingL l) f = sumF l f := by
  unfold risingL sumF
  rw [List.filter_eq_self.mpr, List.map_map, perm_sum (isort_perm _), List.map_map]
  · congr 1
    refine List.map_congr_left fun q hq => ?_
    show (getI l q.1).getD 0 * f q.1 = q.2 * f q.1
    rw [getI_nd h (v := q.2) hq]; rfl
  · intro k hk
    have h1 := (isort_perm _).mem_iff.mp hk
    obtain ⟨q, hq, rfl⟩ := List.mem_map.mp h1
    rw [getI_nd h (v := q.2) hq]
    exact decide_eq_true (hp q hq)
theorem bins_sum {U : List Int} {A : Int → Prop} {l : PL} (h : PlOk U A (· ∈ U) l) (β : Int → Int → Int) : ((binsOf l).map fun q => sumF q.2 (β q.1)).sum = sumP l (fun z b => β b z) := by
  unfold binsOf sumP
  rw [List.map_map, perm_sum (isort_perm _), List.map_map]
  congr 1
  refine List.map_congr_left fun e he => ?_
  show sumF (risingL (lotAt l e.1)) (β e.1) = sumF e.2.2 (β e.1)
  have : lotAt l e.1 = e.2.2 := by unfold lotAt; rw [getP_nd h.nd (v := e.2) he]; rfl
  rw [this]
  exact rising_sum (h.ind e he) (fun q hq => (h.sub e he q hq).2) _
theorem worked_of {pt : Int} {rows : List Rw} {U : List Int} {r : Nat} {lot : List (Int × Int)} {S S2 : FS} (g : Good rows U S2) (hp : S2.pend = []) (hv : ∀ α β F, Eqn pt rows α β F → Vtot S2 α β F = (lot.map fun q => q.2 * F r q.1).sum) : Worked pt rows U r lot (binsOf S2.kept) S2.done := by
  have ek : (binsOf S2.kept).map (·.1) = isort (S2.kept.map (·.1)) := by
    unfold binsOf
    rw [List.map_map]
    exact List.map_id _
  have inn : ∀ q ∈ binsOf S2.kept, ∃ e ∈ S2.kept, q.2 = risingL e.2.2 := fun q hq => by
    unfold binsOf at hq
    obtain ⟨b, hb, rfl⟩ := List.mem_map.mp hq
    obtain ⟨e, he, e1, e2⟩ := getP_at ((isort_perm _).mem_iff.mp hb)
    refine ⟨e, he, ?_⟩
    show risingL (lotAt _ _) = _
    unfold lotAt
    rw [e2]; rfl
  refine ⟨g.dl, by rw [ek]; exact isort_lt g.kept.nd, fun b => ?_, fun q hq => ?_, fun q hq x hx => ?_, fun α β F e => ?_⟩
  · rw [ek, (isort_perm _).mem_iff]
    constructor
    · intro h
      obtain ⟨e, he, rfl⟩ := List.mem_map.mp h
      exact g.kept.key e he
    · exact g.kb b
  · obtain ⟨e, he, z⟩ := inn q hq
    rw [z]; exact rising_keys (g.kept.ind e he)
  · obtain ⟨e, he, z⟩ := inn q hq
    rw [z] at hx
    exact g.kept.sub e he x (rising_mem hx)
  · have := hv α β F e
    unfold Vtot at this
    rw [hp, sumP_nil] at this
    rw [bins_sum g.kept]; omega
theorem Start.good {rows : List Rw} {U : List Int} {S S1 : FS} {gs : List (Int × Int × Int)} (st : Start rows S) (h : PutAll [] S1.pend gs) (h1 : S1.done = S.done) (h2 : S1.kept = S.kept) (hg : ∀ g ∈ gs, g.2.1 ∈ U ∧ RowN rows g.1 ∧ 0 < g.2.2) : Good rows U S1 := by
  refine ⟨h.ok ⟨.nil, (fun _ h => nomatch h), (fun _ h => nomatch h), fun _ h => nomatch h⟩ hg, h.ne (fun _ h => nomatch h), by rw [h1, st.done, List.length_replicate], ?_, fun b hb => by rw [h2]; exact (st.keys b).mpr hb⟩
  rw [h2]
  exact ⟨st.kp.kn, (fun e he => by rw [st.kp.em e he]; exact .nil), fun e he => (st.keys e.1).mp (List.mem_map.mpr ⟨e, he, rfl⟩), fun e he q hq => by rw [st.kp.em e he] at hq; cases hq⟩
theorem dsum_zero (α : Nat → Int) : ∀ n i, dsum (List.replicate n 0) i α = 0
  | 0, _ => rfl
  | n + 1, i => by
    show 0 * α i + dsum (List.replicate n 0) (i + 1) α = 0
    rw [dsum_zero α n]; omega
theorem sumP_em (f : Int → Int → Int) : ∀ {l : PL}, (∀ e ∈ l, e.2.2 = []) → sumP l f = 0
  | [], _ => rfl
  | e :: l, h => by
    rw [sumP_cons, h e List.mem_cons_self, sumF_nil, sumP_em f fun e' he => h e' (List.mem_cons_of_mem _ he)]; rfl
theorem Start.v {rows : List Rw} {U : List Int} {r : Nat} {lot : List (Int × Int)} {S S1 : FS} (st : Start rows S) (h : PutAll [] S1.pend (lot.map fun q => ((r : Int), q.1, q.2))) (h1 : S1.done = S.done) (h2 : S1.kept = S.kept) (hg : ∀ g ∈ lot.map (fun q => ((r : Int), q.1, q.2)), g.2.1 ∈ U ∧ RowN rows g.1 ∧ 0 < g.2.2) (α : Nat → Int) (β : Int → Int → Int) (F : Nat → Int → Int) : Vtot S1 α β F = (lot.map fun q => q.2 * F r q.1).sum := by
  unfold Vtot
  have e1 := h.sum (U := U) (A := (· ∈ U)) (B := RowN rows) (f := fun r s => F r.toNat s) ⟨.nil, (fun _ h => nomatch h), (fun _ h => nomatch h), fun _ h => nomatch h⟩ hg
  rw [e1, h1, h2, st.done, dsum_zero, sumP_em _ st.kp.em, sumP_nil, List.map_map]
  simp only [Function.comp_def, Int.toNat_natCast]
  omega
theorem no_m {m : Str} {a b c d : V} (h1 : (m == ("works" : Str)) = false) (h2 : (m == ("sizes" : Str)) = false) (h3 : (m == ("done" : Str)) = false) (h4 : (m == ("kept" : Str)) = false) : List.lookup m [(("works" : Str), a), (("sizes" : Str), b), (("done" : Str), c), (("kept" : Str), d)] = none := by
  simp [List.lookup, h1, h2, h3, h4]
section
variable {P : Program} {w : World} {K : PySem.W.Frag} {mg : Str → Option Value} {base : Heap}
def WkP (pt : Int) (rows : List Rw) (U : List Int) (r : Nat) (lot : List (Int × Int)) : Pr := fun Hb v => ∃ bins done, Worked pt rows U r lot bins done ∧ Dv Hb (toldD bins done) v
def WPre (pt : Int) (rows : List Rw) (U : List Int) (lot : List (Int × Int)) : Prop := 2 ≤ pt ∧ pt ≤ 9 ∧ RowsOk rows ∧ rows.length ≤ 1000 ∧ NoRing rows ∧ Univ pt U ∧ lot.length ≤ 100000 ∧ ∀ q ∈ lot, q.1 ∈ U ∧ 0 < q.2
def sp_laid_on (K : PySem.W.Frag) : Sp := fun vs H Q E => ∃ (pt : Int) (rows : List Rw) (U : List Int) (r : Nat) (lot : List (Int × Int)), (WPre pt rows U lot ∧ r < rows.length) ∧ spP [Ws K pt rows, D (.int r), D (.list (lot.map encP))] (WkP pt rows U r lot) vs H Q E
theorem ok_laid_on (T : Tx K mg) : Cal P w K mg base 6 "laid_on" ["works", "row", "lot"] (sp_laid_on K) := by
  have M_Flow := mk_Flow (P := P) (w := w) (base := base) T
  have C_Flow_go := mt_Flow_go (P := P) (w := w) (base := base) T
  have C_Flow_put := mt_Flow_put (P := P) (w := w) (base := base) T
  have C_Flow_told := mt_Flow_told (P := P) (w := w) (base := base) T
  have C_ring_of := ok_ring_of (P := P) (w := w) (base := base) T
  obtain ⟨fd, F⟩ := T.c.def_ 17 (d := d_laid_on) rfl
  refine ⟨_, fd, T.g_laid_on, F.kp, FunD.bindsN (ps := ["works", "row", "lot"]) F fun _ _ _ _ _ _ us hl => match us, hl with | [_, _, _], _ => rfl, def_ok F sc_laid_on ?_ fun cdv A outer s H vs Q E hr h => ?_⟩
  · rintro vs H Q E ⟨_, _, _, _, _, _, h⟩
    exact h.len
  · obtain ⟨pt, rows, U, r, lot, ⟨⟨p1, p2, ok, hl, nr, u, ll, lo⟩, rl⟩, Hb, sm, ha, k⟩ := h
    obtain ⟨wv, _, rfl, hw, v1, _, rfl, h1, lv, _, rfl, h2, rfl⟩ := ha
    obtain rfl := show v1 = V.int r from h1
    have c := start_cur (As := [Ws K pt rows, D (.int r), D (.list (lot.map encP))]) (vs := [wv, .int r, lv]) (N := N_laid_on) (k := 3) sm ⟨_, _, rfl, hw, _, _, rfl, rfl, _, _, rfl, h2, rfl⟩ ⟨mono_Ws, mono_D _, mono_D _, trivial⟩ rfl
    refine ⟨_, (pss_cons (ps_if (pt_cmpR op_notN_ (pe_cal C_ring_of (hr.mono (by decide)) (by rfl) (pa_cons (pv 0) pa_nil)) pe_non (nomark _))
    pss_never
    pss_nil)
  (pss_cons (ps_set (i := 3) sc_laid_on.nd rfl (Or.inl rfl) (pe_mk M_Flow (hr.mono (by decide)) (by rfl) (pa_cons (pv 0) pa_nil)))
  (pss_cons (ps_for PassesOwn.never rfl (pi_listK (K := K) rfl (pv 2)) (pg_tupK (K := K) rfl rfl (pgs_cons (pg_name (i := 4) sc_laid_on.nd rfl (Or.inl rfl)) (pgs_cons (pg_name (i := 5) sc_laid_on.nd rfl (Or.inl rfl)) pgs_nil)))
    (pss_one (ps_expr (pe_mth T.cls_Flow C_Flow_put (hr.mono (by decide)) (pv 3) (pa_cons (pv 1) (pa_cons (pv 4) (pa_cons (pv 5) pa_nil)))))))
  (pss_cons (ps_expr (pe_mth0 T.cls_Flow C_Flow_go (hr.mono (by decide)) (pv 3)))
  (pss_one (ps_ret (pe_mth0 T.cls_Flow C_Flow_told (hr.mono (by decide)) (pv 3)))))))), ?_⟩
    refine z_no c (yt_is (yt_test (y_notN (d := .none) (y_call (As := [Ws K pt rows]) (ya_cons (y_var rfl) mono_Ws ya_nil) fun vs H Q h => ⟨pt, rows, ⟨p1, p2, ok, hl, nr⟩, h⟩))) rfl) fun H1 ⟨Hb1, g1, _⟩ => ?_
    clear c
    refine ⟨_, rfl, fun x dx nx ndx ndd => ?_⟩
    have s1 : Same H1 (upd (upd H1 dx (.own x)) x (.ins (He.ga K "Flow") dx [])) := fun b o e => by
      rw [upd_ne (ne_of_none e nx), upd_ne (ne_of_none e ndx)]; exact e
    refine ⟨x, dx, pt, rows, Hb1, wv, hl, rfl, upd_same, g1.in_.free nx, g1.in_.trans s1, mono_Ws _ _ _ g1.fz hw, fun Hb2 H2 A S eA st f z1 z2 z3 z4 z5 => ⟨rfl, ?_⟩⟩
    have al : Same H1 H2 := fun b o e => z2 b o (s1 b o e) (ne_of_none e nx)
    have ft : ∀ a ∈ foot x A S, H1 a = none := fun a h => by
      rcases z4 a h with z | z
      · rw [z]; exact nx
      · exact s1.free z
    have g2 : Grow Hb1 H1 Hb2 H2 := ⟨z1, al, z3, fun a n1 n2 => s1.free (z5 a n1 n2)⟩
    clear z1 z2 z4 z5 s1
    obtain ⟨la, lvs, rfl, hla, hda⟩ := h2
    have hla2 : Hb2 la = some (.lst lvs) := (g1.fz.trans g2.fz) _ _ hla
    have hda2 := DvAll.mono (g1.fz.trans g2.fz) _ _ hda
    have len : lvs.length = lot.length := by rw [hda.length, List.length_map]
    have gsOk : ∀ n, ∀ g ∈ (lot.take n).map (fun q => ((r : Int), q.1, q.2)), g.2.1 ∈ U ∧ RowN rows g.1 ∧ 0 < g.2.2 := fun n g hg => by
      obtain ⟨q, hq, rfl⟩ := List.mem_map.mp hg
      have := lo q (List.mem_of_mem_take hq)
      exact ⟨this.1, ⟨by omega, by show (r : Int) < _; omega⟩, this.2⟩
    refine ⟨_, rfl, la, rfl, ⟨lvs, .inl (.inl (z3 _ _ hla2))⟩, for_list (xs := lvs) (fun i σ' H' => ∃ (S1 : FS) (o4 o5 : Option V), σ' = [some wv, some (.int r), some (.ref la), some (.ref x), o4, o5] ∧ PutAll [] S1.pend ((lot.take i).map fun q => ((r : Int), q.1, q.2)) ∧ S1.done = S.done ∧ S1.kept = S.kept ∧ FlowAt K Hb2 H' x wv A S1 ∧ FGr (foot x A S) Hb2 H2 (foot x A S1) Hb2 H')
      ⟨S, none, none, rfl, by rw [st.pend]; exact .nil _, rfl, rfl, f, .refl z3⟩ (fun i σ' H' _ ⟨S1, _, _, _, _, _, _, _, gg⟩ => .inl (.inl (gg.in_ _ _ hla2))) ?_ ?_⟩
    · rintro i v σ' H3 hx ⟨S1, o4, o5, rfl, pa, d1, k1, f3, g3⟩
      obtain ⟨d, q1, q2⟩ := hda2.get' hx
      rw [List.getElem?_map] at q1
      cases hq : lot[i]? with
      | none => rw [hq] at q1; cases q1
      | some q =>
        rw [hq] at q1
        cases q1
        obtain ⟨ta, tv, rfl, h3, v2, r2, rfl, h4, v3, r3, rfl, h5, h6⟩ := q2
        obtain rfl := show v2 = V.int q.1 from h4
        obtain rfl := show v3 = V.int q.2 from h5
        obtain rfl := show r3 = [] from h6
        refine ⟨ta, _, rfl, .inl (.inl (g3.in_ _ _ h3)), rfl, _, _, rfl, _, _, rfl, rfl, ?_⟩
        have gd := st.good pa d1 k1 (gsOk i)
        refine ⟨_, rfl, x, A.dx, _, rfl, f3.ob, no_m (by decide +kernel) (by decide +kernel) (by decide +kernel) (by decide +kernel), _, rfl, _, rfl, _, rfl, ?_⟩
        refine ⟨x, wv, A, S1, Hb2, r, q.1, q.2, rfl, f3, g3.in_, gd.pend.nd, ?_, fun e he => ?_, fun a H4 f4 g4 => ?_⟩
        · have h1 := u_len gd.pend
          have h2 := u.len
          omega
        · have := gd.pend.inner e he
          omega
        · refine ⟨{ S1 with pend := putP S1.pend q.1 r q.2 a }, _, _, rfl, ?_, d1, k1, f4, g3.trans g4⟩
          rw [List.take_add_one, hq, List.map_append]
          exact pa.snoc ((r : Int), q.1, q.2) a
    · rintro σ' H3 ⟨S1, o4, o5, rfl, pa, d1, k1, f3, g3⟩
      rw [len, List.take_length] at pa
      have gs := gsOk lot.length
      rw [List.take_length] at gs
      have gd := st.good pa d1 k1 gs
      have hw2 := mono_Ws _ _ _ (g1.fz.trans g2.fz) hw
      refine ⟨_, rfl, x, A.dx, _, rfl, f3.ob, no_m (by decide +kernel) (by decide +kernel) (by decide +kernel) (by decide +kernel), ?_⟩
      refine ⟨x, wv, A, S1, Hb2, pt, rows, U, rfl, ⟨p1, p2, ok, hl, nr, u, gd⟩, f3, hw2, g3.in_, fun S2 Hb4 H4 wt pe f4 g4 => ?_⟩
      refine ⟨_, rfl, x, A.dx, _, rfl, f4.ob, no_m (by decide +kernel) (by decide +kernel) (by decide +kernel) (by decide +kernel), ?_⟩
      have wk : Worked pt rows U r lot (binsOf S2.kept) S2.done := worked_of (S := S) wt.good pe fun α β F e => by rw [wt.v α β F e, st.v (U := U) pa d1 k1 gs]
      have gg := g3.trans g4
      refine ⟨x, wv, A, S2, Hb4, rfl, f4, g4.in_, ?_, fun e he => ?_, fun v Hb5 H5 w1 w2 w3 w4 w5 => k v Hb5 H5 ⟨((g1.fz.trans g2.fz).trans gg.fz).trans w1, fun b o e => ?_, w3, fun a n1 n2 => ?_⟩ ⟨_, _, wk, w5⟩⟩
      · have h1 := nd_le wt.good.kept.nd (m := rows.flatMap binN) fun y hy => by
          obtain ⟨e, he, rfl⟩ := List.mem_map.mp hy
          exact List.mem_flatMap.mpr ⟨_, wt.good.kept.key e he, List.mem_singleton.mpr rfl⟩
        rw [List.length_map] at h1
        have := flat_binN rows
        omega
      · have h1 := nd_le (wt.good.kept.ind e he) (m := U) fun y hy => by
          obtain ⟨q, hq, rfl⟩ := List.mem_map.mp hy
          exact (wt.good.kept.sub e he q hq).1
        rw [List.length_map] at h1
        have := u.len
        omega
      · have e1 := g1.al b o e
        exact w2 b o (gg.al b o (g2.al b o e1) fun h => by rw [ft b h] at e1; cases e1)
      · by_cases q3 : Hb1 a = none
        case neg => exact g1.nw a n1 q3
        refine g1.al.free ?_
        by_cases q1 : Hb4 a = none
        · rcases w4 a q1 n2 with z | z
          · have : H2 a = none := by
              cases q : H2 a with
              | none => rfl
              | some o => exact absurd z (gg.mo a (by rw [q]; simp))
            exact g2.al.free this
          · rcases gg.fp a z with y | y
            · exact ft a y
            · exact g2.al.free y
        · by_cases q2 : Hb2 a = none
          · exact g2.al.free (gg.nw a q2 q1)
          · exact g2.nw a q3 q2
end
end MW

/-! G11 -/
set_option Elab.async false
set_option linter.all false
set_option maxRecDepth 100000
set_option maxHeartbeats 400000
namespace MW
open PySem PySem.Spec L2

section
variable {P : Program} {w : World} {K : PySem.W.Frag} {mg : Str → Option Value} {base : Heap}
def sp_worked (K : PySem.W.Frag) : Sp := fun vs H Q E => ∃ (pt : Int) (rows : List Rw) (U : List Int) (lot : List (Int × Int)), (WPre pt rows U lot ∧ 1 ≤ rows.length) ∧ spP [Ws K pt rows, D (.list (lot.map encP))] (WkP pt rows U 0 lot) vs H Q E
theorem ok_worked (T : Tx K mg) : Cal P w K mg base 7 "worked" ["works", "lot"] (sp_worked K) := by
  have C_laid_on := ok_laid_on (P := P) (w := w) (base := base) T
  obtain ⟨fd, F⟩ := T.c.def_ 18 (d := d_worked) rfl
  refine ⟨_, fd, T.g_worked, F.kp, FunD.bindsN (ps := ["works", "lot"]) F fun _ _ _ _ _ _ us hl => match us, hl with | [_, _], _ => rfl, def_ok F sc_worked ?_ fun cdv A outer s H vs Q E hr h => ?_⟩
  · intro vs H Q E h
    obtain ⟨_, _, _, _, _, h⟩ := h
    exact h.len
  · obtain ⟨pt, rows, U, lot, pre, Hb, sm, ha, k⟩ := h
    have c := start_cur (N := N_worked) (k := 0) sm ha (by repeat' (first | exact trivial | exact mono_D _ | exact mono_Ws | exact mono_Sc | refine ⟨?_, ?_⟩)) rfl
    refine ⟨_, (pss_one (ps_ret (pe_cal C_laid_on (hr.mono (by decide)) (by rfl) (pa_cons (pv 0) (pa_cons pe_int (pa_cons (pv 1) pa_nil)))))), ?_⟩
    refine z_ret c (y_call (As := [Ws K pt rows, D (.int ((0 : Nat) : Int)), D (.list (lot.map encP))]) (ya_cons (y_var rfl) mono_Ws (ya_cons y_int (mono_D _) (ya_cons (y_var rfl) (mono_D _) ya_nil))) fun vs H Q h => ⟨pt, rows, U, 0, lot, ⟨pre.1, pre.2⟩, h⟩) k
end
end MW

/-! MG -/
set_option Elab.async false
set_option linter.all false
set_option maxRecDepth 100000
set_option maxHeartbeats 400000
namespace MW
open PySem PySem.Spec L2
/-! ### more statements -/
theorem DvAll.snoc {H : Hp} : ∀ {ds : List PyData} {d : PyData} {vs : List V}, DvAll H (ds ++ [d]) vs → ∃ us v, vs = us ++ [v] ∧ DvAll H ds us ∧ Dv H d v
  | [], d, vs, h => by
    obtain ⟨v, r, rfl, h1, h2⟩ := h
    obtain rfl := show r = [] from h2
    exact ⟨[], v, rfl, rfl, h1⟩
  | e :: ds, d, vs, h => by
    obtain ⟨v, r, rfl, h1, h2⟩ := h
    obtain ⟨us, u, rfl, h3, h4⟩ := DvAll.snoc h2
    exact ⟨v :: us, u, rfl, ⟨v, us, rfl, h1, h3⟩, h4⟩
section
variable {K : PySem.W.Frag} {Hb0 H0 H : Hp} {G : Ctx} {σ : L2.St} {De : Ends} {te tl ta : TE} {P : Pr} {tu tw tz : TS} {tc tt : TT}
theorem z_whileI {ι : Type} (I : ι → Ctx) (μ : ι → Nat) (φ : ι → Prop) (b : ι → Bool) (x0 : ι) (p0 : φ x0) (c : Cur Hb0 H0 (I x0) σ H) (ht : ∀ x, φ x → YT R0 tc (I x) (b x))
    (hs : ∀ x, φ x → b x = true → ∀ (N : L2.St → Hp → Prop), (∀ y σ' H', μ y < μ x → φ y → Cur Hb0 H0 (I y) σ' H' → N σ' H') → ∀ σ' H', Cur Hb0 H0 (I x) σ' H' → tu { De with nx := N, ct := N, bk := De.nx } σ' H')
    (hd : ∀ x, φ x → b x = false → ∀ σ' H', Cur Hb0 H0 (I x) σ' H' → De.nx σ' H') : tWhile tc tu De σ H := by
  refine ⟨fun m σ H => ∃ x, μ x = m ∧ φ x ∧ Cur Hb0 H0 (I x) σ H, ⟨_, x0, rfl, p0, c⟩, ?_⟩
  rintro m σ1 H1 ⟨x, rfl, px, ⟨Hb1, g1, E1⟩⟩
  refine ht x px H0 Hb1 H1 σ1 E1 trivial g1.in_ _ fun Hb2 H2 g2 => ?_
  have c2 : Cur Hb0 H0 (I x) σ1 H2 := ⟨Hb2, g1.trans g2, E1.grow g2⟩
  cases hb : b x with
  | true =>
    rw [if_pos rfl]
    exact ⟨fun σ H => ∃ y, μ y < μ x ∧ φ y ∧ Cur Hb0 H0 (I y) σ H, fun σ' H' ⟨y, q1, q2, q3⟩ => ⟨_, q1, y, rfl, q2, q3⟩, hs x px hb _ (fun y σ' H' q1 q2 q3 => ⟨y, q1, q2, q3⟩) σ1 H2 c2⟩
  | false => rw [if_neg (by simp)]; exact hd x px hb σ1 H2 c2
theorem q_whileI {ι : Type} (I : ι → Ctx) (μ : ι → Nat) (φ : ι → Prop) (b : ι → Bool) (x0 : ι) (p0 : φ x0) (c : Cur Hb0 H0 (I x0) σ H) (ht : ∀ x, φ x → YT R0 tc (I x) (b x))
    (hs : ∀ x, φ x → b x = true → ∀ (N : L2.St → Hp → Prop), (∀ y σ' H', μ y < μ x → φ y → Cur Hb0 H0 (I y) σ' H' → N σ' H') → ∀ σ' H', Cur Hb0 H0 (I x) σ' H' → tu { De with nx := N, ct := N, bk := tz De } σ' H')
    (hd : ∀ x, φ x → b x = false → ∀ σ' H', Cur Hb0 H0 (I x) σ' H' → tz De σ' H') : tSeq (tWhile tc tu) tz De σ H := z_whileI (De := { De with nx := tz De }) I μ φ b x0 p0 c ht hs hd
/-- for i, x in enumerate(..) -/
theorem q_forE {α : Type} {xs : List α} {enc : α → PyData} {i j : Nat} (hij : i ≠ j) (c : Cur Hb0 H0 G σ H) (hy : Y R0 ta G (D (.list (xs.map enc)))) (I : Nat → Ctx)
    (h0 : ∀ Hb1 H1, Cur Hb1 H0 G σ H1 → Cur Hb1 H0 (I 0) σ H1)
    (hs : ∀ Hb1 k x, xs[k]? = some x → ∀ σ' H', Cur Hb1 H0 (((I k).set i (.p (D (.int k)))).set j (.p (D (enc x)))) σ' H' → tu { De with nx := Cur Hb1 H0 (I (k + 1)), ct := Cur Hb1 H0 (I (k + 1)), bk := tz De } σ' H')
    (hd : ∀ σ' H', Cur Hb0 H0 (I xs.length) σ' H' → tz De σ' H') : tSeq (tFor (iEnum K (tCons ta tNil)) (gTup K 2 (gCons (gName i) (gCons (gName j) gNil))) tu) tz De σ H := by
  obtain ⟨Hb, g0, E⟩ := c
  refine hy H0 Hb H σ E trivial g0.in_ _ fun v Hb1 H1 g1 p => ?_
  obtain ⟨a, ys, rfl, ha, hr⟩ := p
  have gg := g0.trans g1
  have hl : ys.length = xs.length := by rw [hr.length, List.length_map]
  refine ⟨a, ys, rfl, .inl (.inl (g1.in_ _ _ ha)), for_it walk_enum (fun k σ' H' => Cur Hb1 H0 (I k) σ' H') (h0 Hb1 H1 ⟨Hb1, gg.rebase, E.grow g1⟩) (fun k σ' H' _ ⟨Hb2, g2, _⟩ => .inl (.inl (g2.in_ _ _ (g2.fz _ _ ha)))) (fun k x σ' H' H'' hk ⟨Hb2, g2, E2⟩ hY => ?_) (fun σ' H' c' => hd σ' H' (by rw [← hl]; exact c'.out gg))⟩
  obtain ⟨t, y1, y2, rfl, ht, rfl, e1, e2⟩ := hY
  cases e1
  obtain ⟨d, e3, e4⟩ := hr.get' e2
  rw [List.getElem?_map] at e3
  cases hxi : xs[k]? with
  | none => rw [hxi] at e3; cases e3
  | some z =>
    rw [hxi] at e3
    cases e3
    have g3 : Grow Hb2 H' (upd Hb2 t (.tup [.int (k : Nat), y2])) (upd H' t (.tup [.int (k : Nat), y2])) := .new g2.in_ ht
    have e5 : Dv (upd Hb2 t (.tup [.int (k : Nat), y2])) (enc z) y2 := Dv.mono (g2.fz.trans g3.fz) _ _ e4
    refine ⟨t, _, rfl, .inl (.inl upd_same), rfl, _, _, rfl, _, _, rfl, rfl, hs Hb1 k z hxi _ _ ⟨_, g2.trans g3, ((E2.grow g3).put (mono_D (.int k)) rfl).put (mono_D (enc z)) e5⟩⟩
/-- x = [.. for ..], to be changed later -/
theorem q_lcOwn {α : Type} {xs : List α} {enc e : α → PyData} {b : α → Bool} {g : TG} {vs : List Nat} {i : Nat} (c : Cur Hb0 H0 G σ H) (Gx : α → Ctx) (hl : Y R0 tl G (D (.list (xs.map enc)))) (hz : xs.length ≤ 900000) (hg : ∀ x ∈ xs, YG g vs (wipeG G vs) (enc x) (Gx x))
    (ht : ∀ x ∈ xs, YT R0 tt (Gx x) (b x)) (he : ∀ x ∈ xs, b x = true → Y R0 te (Gx x) (D (e x))) (k : ∀ σ' H', Cur Hb0 H0 (G.set i (.own ((xs.filter b).map e))) σ' H' → tz De σ' H') : tSeq (tAsg (tLc (iList K tl) g tt te vs) (gName i)) tz De σ H := by
  obtain ⟨Hb, g0, E⟩ := c
  refine y_lcOwn (R := R0) Gx hl hz hg ht he E trivial g0.in_ (fun v H1 => tz De (σ.set i (some v)) H1) fun Dl acc Hb2 H2 g2 n2 d2 a2 da => k _ _ ⟨Hb2, g0.trans g2, ?_⟩
  refine (E.grow g2).putOwn rfl (fun j f k q m _ s => ?_) ⟨Dl, acc, rfl, a2, n2, g0.al.free d2, da⟩
  rintro rfl
  exact (E.mineAt q m s).1 d2
/-- x = [..], to be changed later -/
theorem q_lstOwn {t : TA} {ds : List PyData} {i : Nat} (c : Cur Hb0 H0 G σ H) (h : YA R0 t G (Ds ds)) (hl : ds.length ≤ 100000) (k : ∀ σ' H', Cur Hb0 H0 (G.set i (.own ds)) σ' H' → tz De σ' H') : tSeq (tAsg (tLst t) (gName i)) tz De σ H := by
  obtain ⟨Hb, g0, E⟩ := c
  refine h H0 Hb H σ E trivial g0.in_ _ fun vs Hb2 H2 g a => ⟨by rw [(args_all a).length]; exact Nat.le_trans hl (by decide), fun p hp => k _ _ ⟨Hb2, g0.trans (g.trans (.own g.in_ hp)), ?_⟩⟩
  refine (E.grow (g.trans (.own g.in_ hp))).putOwn rfl (fun j f k q m _ s => ?_) ⟨p, vs, rfl, upd_same, g.in_.free hp, (g0.al.trans g.al).free hp, args_all a⟩
  rintro rfl
  exact ((E.grow g).mineAt q m s).1 hp
/-- i, j = x.pop() -/
theorem q_pop2 {n i j : Nat} {ds : List PyData} {d e : PyData} (c : Cur Hb0 H0 G σ H) (h : G[n]? = some (.own (ds ++ [.tuple [d, e]]))) (hij : i ≠ j) (k : ∀ σ' H', Cur Hb0 H0 (((G.set n (.own ds)).set i (.p (D d))).set j (.p (D e))) σ' H' → tz De σ' H') :
    tSeq (tAsg (tBM0 K "list" rPop (tVar n)) (gTup K 2 (gCons (gName i) (gCons (gName j) gNil)))) tz De σ H := by
  obtain ⟨Hb, g, E⟩ := c
  obtain ⟨l, vs, e1, e2, e3, e4, e5⟩ := E.ent _ _ h
  obtain ⟨us, v, rfl, h1, h2⟩ := DvAll.snoc e5
  refine ⟨_, e1, .inl ⟨rfl, _, .inl (.inl e2)⟩, l, _, v, rfl, rfl, e2, by simp, ?_⟩
  have E2 := E.change (o := .lst us) h rfl e1 (e := .own ds) rfl ⟨l, us, rfl, upd_same, e3, e4, h1⟩
  obtain ⟨t, ts, rfl, ht, v1, r1, rfl, h3, v2, r2, rfl, h4, h5⟩ := h2
  obtain rfl := show r2 = [] from h5
  have htl : t ≠ l := fun z => by rw [z, e3] at ht; cases ht
  rw [List.dropLast_concat]
  refine ⟨t, _, rfl, .inl (.inl (by rw [upd_ne htl]; exact g.in_ _ _ ht)), rfl, v1, [v2], rfl, v2, [], rfl, rfl, k _ _ ⟨Hb, g.mut e3 e4, (E2.put (mono_D d) h3).put (mono_D e) h4⟩⟩
/-- x[i] = .. -/
theorem q_setIx {n i : Nat} {ds : List PyData} {d : PyData} {j : Nat} (c : Cur Hb0 H0 G σ H) (h : G[n]? = some (.own ds)) (hi : G[i]? = some (.p (D (.int (j : Nat))))) (hj : j < ds.length) (hl : ds.length ≤ 1000000) (hy : Y R0 te G (D d)) (k : ∀ σ' H', Cur Hb0 H0 (G.set n (.own (ds.set j d))) σ' H' → tz De σ' H') :
    tSeq (tAsg te (gSub (tVar n) (tVar i) rSetL)) tz De σ H := by
  obtain ⟨Hb, g, E⟩ := c
  refine hy H0 Hb H σ E trivial g.in_ _ fun v Hb2 H2 g2 p => ?_
  have E2 := E.grow g2
  obtain ⟨l, vs, e1, e2, e3, e4, e5⟩ := E2.ent _ _ h
  obtain ⟨u, e6, e7⟩ := E2.var hi
  obtain rfl := show u = V.int (j : Nat) from e7
  refine ⟨_, e1, _, e6, l, vs, j, j, rfl, rfl, e2, ?_, k _ _ ⟨Hb2, (g.trans g2).mut e3 e4, E2.change h rfl e1 rfl ⟨l, _, rfl, upd_same, e3, e4, DvAll.set j e5 p⟩⟩⟩
  have hj' : j < vs.length := by rw [e5.length]; exact hj
  unfold ixN
  rw [if_pos (by omega), if_pos (by omega)]
  simp
/-- x.extend(..) -/
theorem z_ext {n : Nat} {ds es : List PyData} (c : Cur Hb0 H0 G σ H) (h : G[n]? = some (.own ds)) (hy : Y R0 te G (D (.list es))) (hl : ds.length + es.length ≤ sizeLine) (k : ∀ σ' H', Cur Hb0 H0 (G.set n (.own (ds ++ es))) σ' H' → De.nx σ' H') :
    tDrop (tBM K "list" rExtend (tVar n) (tCons te tNil)) De σ H := by
  obtain ⟨Hb, g, E⟩ := c
  obtain ⟨l, vs, e1, e2, e3, e4, e5⟩ := E.ent _ _ h
  refine ⟨_, e1, .inl ⟨rfl, _, .inl (.inl e2)⟩, hy H0 Hb H σ E trivial g.in_ _ fun v Hb2 H2 g2 p => ?_⟩
  have E2 := E.grow g2
  obtain ⟨l', vs', z1, z2, z3, z4, z5⟩ := E2.ent _ _ h
  rw [e1] at z1
  cases z1
  rw [g2.al _ _ e2] at z2
  cases z2
  obtain ⟨b, us, rfl, hb, hr⟩ := p
  refine ⟨l, b, vs, us, rfl, rfl, g2.al _ _ e2, g2.in_ _ _ hb, by rw [z5.length, hr.length]; exact hl, ?_⟩
  exact k _ _ ⟨Hb2, (g.trans g2).mut z3 e4, E2.change h rfl e1 rfl ⟨l, _, rfl, upd_same, z3, e4, z5.app hr⟩⟩
end
end MW

/-! G12 -/
set_option Elab.async false
set_option linter.all false
set_option maxRecDepth 100000
set_option maxHeartbeats 400000
namespace MW
open PySem PySem.Spec L2

abbrev Sp2 := Int × Int
@[reducible] def encA (g : Nat × Sp2) : PyData := .tuple [.int g.1, encP g.2]
def a1 (r : Nat) (s : Sp2) (k : Nat) : Rw → List (Nat × Sp2)
  | .mesh c u _ => if decide (u = r) then [(k, (s.1, min s.2 c))] else []
  | _ => []
def a2 (r : Nat) (s : Sp2) (k : Nat) : Rw → List (Nat × Sp2)
  | .mesh c _ o => if decide (o = r) then [(k, (max s.1 (c + 1), s.2))] else []
  | _ => []
def a3 (p most : Int) (r : Nat) (s : Sp2) (k : Nat) : Rw → List (Nat × Sp2)
  | .crush t => if decide (t = r) then [(k, (p * (s.1 - 1) + 1, min most (p * s.2 + p - 1)))] else []
  | _ => []
def ahead1 (p most : Int) (r : Nat) (s : Sp2) (x : Rw × Nat) : List (Nat × Sp2) := a1 r s x.2 x.1 ++ a2 r s x.2 x.1 ++ a3 p most r s x.2 x.1
def aheadR (p : Int) (rows : List Rw) (most : Int) (r : Nat) (s : Sp2) : List (Nat × Sp2) := ((rows.zipIdx).flatMap (ahead1 p most r s)).filter fun g => decide (g.2.1 ≤ g.2.2)
theorem ahead1_len (p most : Int) (r : Nat) (s : Sp2) (x : Rw × Nat) : (ahead1 p most r s x).length ≤ 2 := by
  unfold ahead1 a1 a2 a3
  rcases x with ⟨x, k⟩
  cases x with
  | mesh c u o => dsimp only; by_cases h1 : u = r <;> by_cases h2 : o = r <;> simp [h1, h2]
  | crush t => dsimp only; by_cases h1 : t = r <;> simp [h1]
  | bin b => simp
theorem flat2 {α β : Type} {f : α → List β} {n : Nat} (h : ∀ x, (f x).length ≤ n) : ∀ l : List α, (l.flatMap f).length ≤ n * l.length
  | [] => by simp
  | x :: l => by
    rw [List.flatMap_cons, List.length_append, List.length_cons]
    have h1 := h x
    have h2 := flat2 h l
    rw [Nat.mul_add]; omega
theorem aheadR_len (p : Int) (rows : List Rw) (most : Int) (r : Nat) (s : Sp2) : (aheadR p rows most r s).length ≤ 2 * rows.length := by
  unfold aheadR
  refine Nat.le_trans (List.length_filter_le _ _) ?_
  have := flat2 (ahead1_len p most r s) rows.zipIdx
  rwa [List.length_zipIdx] at this
section
variable {K : PySem.W.Frag} {Hb0 H0 H : Hp} {G : Ctx} {σ : L2.St} {De : Ends} {te : TE} {tz : TS} {tc : TT}
theorem set_own {n : Nat} {ds : List PyData} (h : G[n]? = some (.own ds)) : G.set n (.own (ds ++ [])) = G := by
  rw [List.append_nil]
  refine List.ext_getElem? fun i => ?_
  by_cases e : n = i
  · subst e
    rw [List.getElem?_set_self', h]; rfl
  · rw [List.getElem?_set_ne e]
theorem q_condApp {n : Nat} {ds : List PyData} {d : PyData} {b : Bool} (c : Cur Hb0 H0 G σ H) (h : G[n]? = some (.own ds)) (ht : YT R0 tc G b) (hl : ds.length < 10000000) (hy : b = true → Y R0 te G (D d)) (k : ∀ σ' H', Cur Hb0 H0 (G.set n (.own (ds ++ (if b then [d] else [])))) σ' H' → tz De σ' H') :
    tSeq (tIfS tc (tDrop (tBM K "list" rAppend (tVar n) (tCons te tNil))) tNext) tz De σ H := by
  refine z_when c ht (fun hb H1 c1 => ?_) (fun hb H1 c1 => ?_)
  · subst hb
    exact z_app c1 h (hy rfl) hl fun σ2 H2 c2 => k σ2 H2 c2
  · subst hb
    refine k σ H1 ?_
    show Cur Hb0 H0 (G.set n (.own (ds ++ []))) σ H1
    rw [set_own h]; exact c1
end
section
variable {P : Program} {w : World} {K : PySem.W.Frag} {mg : Str → Option Value} {base : Heap}
def sp_spans_ahead (K : PySem.W.Frag) : Sp := fun vs H Q E => ∃ (p : Int) (rows : List Rw) (most : Int) (r : Nat) (s : Sp2), (2 ≤ p ∧ p ≤ 9 ∧ rows.length ≤ 1000) ∧ spP [Ws K p rows, D (.int r), D (encP s), D (.int most)] (D (.list ((aheadR p rows most r s).map encA))) vs H Q E
theorem ok_spans_ahead (T : Tx K mg) : Cal P w K mg base 1 "spans_ahead" ["works", "row", "span", "most"] (sp_spans_ahead K) := by
  obtain ⟨fd, F⟩ := T.c.def_ 19 (d := d_spans_ahead) rfl
  refine ⟨_, fd, T.g_spans_ahead, F.kp, FunD.bindsN (ps := ["works", "row", "span", "most"]) F fun _ _ _ _ _ _ us hl => match us, hl with | [_, _, _, _], _ => rfl, def_ok F sc_spans_ahead ?_ fun cdv A outer s H vs Q E hr h => ?_⟩
  · intro vs H Q E h
    obtain ⟨_, _, _, _, _, _, h⟩ := h
    exact h.len
  · obtain ⟨p, rows, most, r, s, pre, Hb, sm, ha, k⟩ := h
    have c := start_cur (N := N_spans_ahead) (k := 5) sm ha (by repeat' (first | exact trivial | exact mono_D _ | exact mono_Ws | exact mono_Sc | refine ⟨?_, ?_⟩)) rfl
    refine ⟨_, (pss_cons (ps_set (i := 4) sc_spans_ahead.nd rfl (Or.inl rfl) (pe_lst pa_nil))
  (pss_cons (ps_for PassesOwn.never rfl (pi_enumK (K := K) rfl (by rfl) T.enumerate (pa_cons (pe_fldK (K := K) rfl (pv 0) rfl) pa_nil)) (pg_tupK (K := K) rfl rfl (pgs_cons (pg_name (i := 5) sc_spans_ahead.nd rfl (Or.inl rfl)) (pgs_cons (pg_name (i := 6) sc_spans_ahead.nd rfl (Or.inl rfl)) pgs_nil)))
    (pss_cons (ps_if ((pw_and (pt_cmpR op_eq (pe_ix (kxT (K := K) rfl) (pv 6) pe_int (fun _ _ => rfl)) pe_str (nomark _)) (pw_and1 (pt_cmpR op_eq (pe_ix (kxT (K := K) rfl) (pv 6) pe_int (fun _ _ => rfl)) (pv 1) (nomark _))))).pt
    (pss_one (ps_expr (pe_bmK (K := K) rfl PySem.F.plainAttrs_list PySem.F.slot_list_append PySem.F.type_list_append mt_append (pv 4) (pa_cons (pe_tup (pa_cons (pv 5) (pa_cons (pe_tup (pa_cons (pe_ix (kxT (K := K) rfl) (pv 2) pe_int (fun _ _ => rfl)) (pa_cons (pe_callB (c_min2 rfl) (by rfl) T.min bb_min (pa_cons (pe_ix (kxT (K := K) rfl) (pv 2) pe_int (fun _ _ => rfl)) (pa_cons (pe_ix (kxT (K := K) rfl) (pv 6) pe_int (fun _ _ => rfl)) pa_nil))) pa_nil))) pa_nil))) pa_nil))))
    pss_nil)
  (pss_cons (ps_if ((pw_and (pt_cmpR op_eq (pe_ix (kxT (K := K) rfl) (pv 6) pe_int (fun _ _ => rfl)) pe_str (nomark _)) (pw_and1 (pt_cmpR op_eq (pe_ix (kxT (K := K) rfl) (pv 6) pe_int (fun _ _ => rfl)) (pv 1) (nomark _))))).pt
    (pss_one (ps_expr (pe_bmK (K := K) rfl PySem.F.plainAttrs_list PySem.F.slot_list_append PySem.F.type_list_append mt_append (pv 4) (pa_cons (pe_tup (pa_cons (pv 5) (pa_cons (pe_tup (pa_cons (pe_callB (c_max2 rfl) (by rfl) T.max bb_max (pa_cons (pe_ix (kxT (K := K) rfl) (pv 2) pe_int (fun _ _ => rfl)) (pa_cons (pe_op op_add (pe_ix (kxT (K := K) rfl) (pv 6) pe_int (fun _ _ => rfl)) pe_int) pa_nil))) (pa_cons (pe_ix (kxT (K := K) rfl) (pv 2) pe_int (fun _ _ => rfl)) pa_nil))) pa_nil))) pa_nil))))
    pss_nil)
  (pss_one (ps_if ((pw_and (pt_cmpR op_eq (pe_ix (kxT (K := K) rfl) (pv 6) pe_int (fun _ _ => rfl)) pe_str (nomark _)) (pw_and1 (pt_cmpR op_eq (pe_ix (kxT (K := K) rfl) (pv 6) pe_int (fun _ _ => rfl)) (pv 1) (nomark _))))).pt
    (pss_cons (ps_set (i := 7) sc_spans_ahead.nd rfl (Or.inl rfl) (pe_fldK (K := K) rfl (pv 0) rfl))
  (pss_one (ps_expr (pe_bmK (K := K) rfl PySem.F.plainAttrs_list PySem.F.slot_list_append PySem.F.type_list_append mt_append (pv 4) (pa_cons (pe_tup (pa_cons (pv 5) (pa_cons (pe_tup (pa_cons (pe_op op_add (pe_op op_mul (pv 7) (pe_op op_sub (pe_ix (kxT (K := K) rfl) (pv 2) pe_int (fun _ _ => rfl)) pe_int)) pe_int) (pa_cons (pe_callB (c_min2 rfl) (by rfl) T.min bb_min (pa_cons (pv 3) (pa_cons (pe_op op_sub (pe_op op_add (pe_op op_mul (pv 7) (pe_ix (kxT (K := K) rfl) (pv 2) pe_int (fun _ _ => rfl))) (pv 7)) pe_int) pa_nil))) pa_nil))) pa_nil))) pa_nil)))))
    pss_nil)))))
  (pss_one (ps_ret (pe_lc (own := [("pair", 8)]) (g := (gName 8)) rfl sc_spans_ahead.nd (pi_listK (K := K) rfl (pv 4)) (blkOk_by (own := [("pair", 8)]) (N := N_spans_ahead) (sc := defScope s_spans_ahead) (by decide +kernel)) (fun _ _ _ _ _ => (pg_name (i := 8) sc_spans_ahead.nd rfl (Or.inl rfl))) (fun _ _ _ _ _ => (pts_one (pt_cmpR op_le (pe_ix (kxT (K := K) rfl) (pe_ix (kxT (K := K) rfl) (pv 8) pe_int (fun _ _ => rfl)) pe_int (fun _ _ => rfl)) (pe_ix (kxT (K := K) rfl) (pe_ix (kxT (K := K) rfl) (pv 8) pe_int (fun _ _ => rfl)) pe_int (fun _ _ => rfl)) (nomark _)))) (fun _ _ _ _ _ => (pv 8))))))), ?_⟩
    obtain ⟨p1, p2, hl⟩ := pre
    have fl : ∀ k, (((rows.zipIdx).take k).flatMap (ahead1 p most r s)).length ≤ 2000 := fun k => by
      have h1 := flat2 (ahead1_len p most r s) ((rows.zipIdx).take k)
      have h2 : ((rows.zipIdx).take k).length ≤ rows.length := by rw [List.length_take, List.length_zipIdx]; omega
      omega
    refine q_new c fun σ1 H1 c1 => ?_
    refine q_forE (xs := rows) (enc := rowD) (by decide) c1 (y_rows T (y_var rfl)) (fun k => [.p (Ws K p rows), .p (D (.int r)), .p (D (encP s)), .p (D (.int most)), .own ((((rows.zipIdx).take k).flatMap (ahead1 p most r s)).map encA), .no, .no, .no, .no]) (fun _ _ c => c) (fun Hb1 k x hx σ2 H2 c2 => ?_) (fun σ2 H2 c2 => ?_)
    · have hz : (rows.zipIdx)[k]? = some (x, k) := by rw [List.getElem?_zipIdx, hx]; simp
      rw [take_step (ahead1 p most r s) hz, List.map_append]
      have fk := fl k
      generalize ((rows.zipIdx).take k).flatMap (ahead1 p most r s) = ds at c2 fk
      unfold ahead1
      rw [List.map_append, List.map_append]
      have hd : (ds.map encA).length ≤ 2000 := by rw [List.length_map]; exact fk
      generalize ds.map encA = es at c2 hd
      cases x with
      | mesh c0 u o =>
        refine q_condApp (n := 4) (b := decide (u = r)) (d := encA (k, (s.1, min s.2 c0))) c2 rfl (yt_is (yt_and (b := decide ((u : Int) = r)) (yt_is (b := true) (yt_is (by (repeat' (first | with_reducible exact y_int | with_reducible exact y_str | (with_reducible show Y _ (tVar _) _ _; exact y_var rfl) | (with_reducible refine' y_eq _ _ _) | (with_reducible refine' y_ixT _ _ _) | with_reducible refine' y_ixL _ _ _ | with_reducible exact ya_nilD | with_reducible exact y_bl | with_reducible exact y_non | with_reducible exact yo_none | with_reducible exact yt_yes | with_reducible refine' yt_test _ | with_reducible refine' yt_B _ | with_reducible refine' yt_not _ | with_reducible refine' yt_and _ (fun _ => _) | with_reducible refine' yt_or _ (fun _ => _) | with_reducible refine' y_I0 _ _ | with_reducible refine' y_B0 _ _ | with_reducible refine' y_IC _ _ _ | with_reducible refine' y_parts (by assumption) _ | with_reducible refine' y_rows (by assumption) _ | with_reducible refine' ya_consD _ _ | with_reducible refine' y_tup _ (by simp) | with_reducible refine' y_lst _ (by simp) | (with_reducible show Y _ (tCB (rLen _) _) _ _; first | exact y_lenOwn rfl | exact y_lenSc (y_var rfl)) | with_reducible refine' y_len _ _ | with_reducible refine' y_ne _ _ _ | with_reducible refine' y_chain _ _ _ | with_reducible refine' y_andV _ (fun _ => _) | with_reducible refine' y_orV _ (fun _ => _) | with_reducible refine' y_isN _ | with_reducible refine' y_notN _ | exact rfl | (show _ = _; assumption) | exact atI_nat (by assumption) | (show CPow _ _; exact ⟨by decide, by decide, by decide⟩) | (show (0 : Int) < _; first | decide | omega) | (show CDiv _ _; exact ⟨by first | decide | omega, by first | decide | omega⟩) | (show CMul _ _; first | exact .inl ⟨by omega, by omega⟩ | exact .inr ⟨by omega, by omega⟩) ))) (by (first | rfl | (simp; done) | (simp only [sx_mc, sx_mb, sx_cm, sx_cb, sx_bm, sx_bc, decide_true, decide_false, Bool.and_true, Bool.true_and, Bool.not_true, Bool.not_false, Bool.and_false, Bool.false_and, Bool.or_false, Bool.or_true, decide_eq_true_eq, Bool.and_eq_true, decide_eq_false_iff_not]; first | done | omega) | (simp [sx_mc, sx_mb, sx_cm, sx_cb, sx_bm, sx_bc]; first | done | omega) | omega))) rfl) fun _ => (yt_is (by (repeat' (first | with_reducible exact y_int | with_reducible exact y_str | (with_reducible show Y _ (tVar _) _ _; exact y_var rfl) | (with_reducible refine' y_eq _ _ _) | (with_reducible refine' y_ixT _ _ _) | with_reducible refine' y_ixL _ _ _ | with_reducible exact ya_nilD | with_reducible exact y_bl | with_reducible exact y_non | with_reducible exact yo_none | with_reducible exact yt_yes | with_reducible refine' yt_test _ | with_reducible refine' yt_B _ | with_reducible refine' yt_not _ | with_reducible refine' yt_and _ (fun _ => _) | with_reducible refine' yt_or _ (fun _ => _) | with_reducible refine' y_I0 _ _ | with_reducible refine' y_B0 _ _ | with_reducible refine' y_IC _ _ _ | with_reducible refine' y_parts (by assumption) _ | with_reducible refine' y_rows (by assumption) _ | with_reducible refine' ya_consD _ _ | with_reducible refine' y_tup _ (by simp) | with_reducible refine' y_lst _ (by simp) | (with_reducible show Y _ (tCB (rLen _) _) _ _; first | exact y_lenOwn rfl | exact y_lenSc (y_var rfl)) | with_reducible refine' y_len _ _ | with_reducible refine' y_ne _ _ _ | with_reducible refine' y_chain _ _ _ | with_reducible refine' y_andV _ (fun _ => _) | with_reducible refine' y_orV _ (fun _ => _) | with_reducible refine' y_isN _ | with_reducible refine' y_notN _ | exact rfl | (show _ = _; assumption) | exact atI_nat (by assumption) | (show CPow _ _; exact ⟨by decide, by decide, by decide⟩) | (show (0 : Int) < _; first | decide | omega) | (show CDiv _ _; exact ⟨by first | decide | omega, by first | decide | omega⟩) | (show CMul _ _; first | exact .inl ⟨by omega, by omega⟩ | exact .inr ⟨by omega, by omega⟩) ))) (by (first | rfl | (simp; done) | (simp only [sx_mc, sx_mb, sx_cm, sx_cb, sx_bm, sx_bc, decide_true, decide_false, Bool.and_true, Bool.true_and, Bool.not_true, Bool.not_false, Bool.and_false, Bool.false_and, Bool.or_false, Bool.or_true, decide_eq_true_eq, Bool.and_eq_true, decide_eq_false_iff_not]; first | done | omega) | (simp [sx_mc, sx_mb, sx_cm, sx_cb, sx_bm, sx_bc]; first | done | omega) | omega)))) (by simp; omega)) (by omega) (fun _ => y_tup (ya_consD (y_var rfl) (ya_consD (y_tup (ya_consD (by (repeat' (first | with_reducible exact y_int | with_reducible exact y_str | (with_reducible show Y _ (tVar _) _ _; exact y_var rfl) | (with_reducible refine' y_eq _ _ _) | (with_reducible refine' y_ixT _ _ _) | with_reducible refine' y_ixL _ _ _ | with_reducible exact ya_nilD | with_reducible exact y_bl | with_reducible exact y_non | with_reducible exact yo_none | with_reducible exact yt_yes | with_reducible refine' yt_test _ | with_reducible refine' yt_B _ | with_reducible refine' yt_not _ | with_reducible refine' yt_and _ (fun _ => _) | with_reducible refine' yt_or _ (fun _ => _) | with_reducible refine' y_I0 _ _ | with_reducible refine' y_B0 _ _ | with_reducible refine' y_IC _ _ _ | with_reducible refine' y_parts (by assumption) _ | with_reducible refine' y_rows (by assumption) _ | with_reducible refine' ya_consD _ _ | with_reducible refine' y_tup _ (by simp) | with_reducible refine' y_lst _ (by simp) | (with_reducible show Y _ (tCB (rLen _) _) _ _; first | exact y_lenOwn rfl | exact y_lenSc (y_var rfl)) | with_reducible refine' y_len _ _ | with_reducible refine' y_ne _ _ _ | with_reducible refine' y_chain _ _ _ | with_reducible refine' y_andV _ (fun _ => _) | with_reducible refine' y_orV _ (fun _ => _) | with_reducible refine' y_isN _ | with_reducible refine' y_notN _ | exact rfl | (show _ = _; assumption) | exact atI_nat (by assumption) | (show CPow _ _; exact ⟨by decide, by decide, by decide⟩) | (show (0 : Int) < _; first | decide | omega) | (show CDiv _ _; exact ⟨by first | decide | omega, by first | decide | omega⟩) | (show CMul _ _; first | exact .inl ⟨by omega, by omega⟩ | exact .inr ⟨by omega, by omega⟩) ))) (ya_consD (y_min2 (ya_consD (by (repeat' (first | with_reducible exact y_int | with_reducible exact y_str | (with_reducible show Y _ (tVar _) _ _; exact y_var rfl) | (with_reducible refine' y_eq _ _ _) | (with_reducible refine' y_ixT _ _ _) | with_reducible refine' y_ixL _ _ _ | with_reducible exact ya_nilD | with_reducible exact y_bl | with_reducible exact y_non | with_reducible exact yo_none | with_reducible exact yt_yes | with_reducible refine' yt_test _ | with_reducible refine' yt_B _ | with_reducible refine' yt_not _ | with_reducible refine' yt_and _ (fun _ => _) | with_reducible refine' yt_or _ (fun _ => _) | with_reducible refine' y_I0 _ _ | with_reducible refine' y_B0 _ _ | with_reducible refine' y_IC _ _ _ | with_reducible refine' y_parts (by assumption) _ | with_reducible refine' y_rows (by assumption) _ | with_reducible refine' ya_consD _ _ | with_reducible refine' y_tup _ (by simp) | with_reducible refine' y_lst _ (by simp) | (with_reducible show Y _ (tCB (rLen _) _) _ _; first | exact y_lenOwn rfl | exact y_lenSc (y_var rfl)) | with_reducible refine' y_len _ _ | with_reducible refine' y_ne _ _ _ | with_reducible refine' y_chain _ _ _ | with_reducible refine' y_andV _ (fun _ => _) | with_reducible refine' y_orV _ (fun _ => _) | with_reducible refine' y_isN _ | with_reducible refine' y_notN _ | exact rfl | (show _ = _; assumption) | exact atI_nat (by assumption) | (show CPow _ _; exact ⟨by decide, by decide, by decide⟩) | (show (0 : Int) < _; first | decide | omega) | (show CDiv _ _; exact ⟨by first | decide | omega, by first | decide | omega⟩) | (show CMul _ _; first | exact .inl ⟨by omega, by omega⟩ | exact .inr ⟨by omega, by omega⟩) ))) (ya_consD (by (repeat' (first | with_reducible exact y_int | with_reducible exact y_str | (with_reducible show Y _ (tVar _) _ _; exact y_var rfl) | (with_reducible refine' y_eq _ _ _) | (with_reducible refine' y_ixT _ _ _) | with_reducible refine' y_ixL _ _ _ | with_reducible exact ya_nilD | with_reducible exact y_bl | with_reducible exact y_non | with_reducible exact yo_none | with_reducible exact yt_yes | with_reducible refine' yt_test _ | with_reducible refine' yt_B _ | with_reducible refine' yt_not _ | with_reducible refine' yt_and _ (fun _ => _) | with_reducible refine' yt_or _ (fun _ => _) | with_reducible refine' y_I0 _ _ | with_reducible refine' y_B0 _ _ | with_reducible refine' y_IC _ _ _ | with_reducible refine' y_parts (by assumption) _ | with_reducible refine' y_rows (by assumption) _ | with_reducible refine' ya_consD _ _ | with_reducible refine' y_tup _ (by simp) | with_reducible refine' y_lst _ (by simp) | (with_reducible show Y _ (tCB (rLen _) _) _ _; first | exact y_lenOwn rfl | exact y_lenSc (y_var rfl)) | with_reducible refine' y_len _ _ | with_reducible refine' y_ne _ _ _ | with_reducible refine' y_chain _ _ _ | with_reducible refine' y_andV _ (fun _ => _) | with_reducible refine' y_orV _ (fun _ => _) | with_reducible refine' y_isN _ | with_reducible refine' y_notN _ | exact rfl | (show _ = _; assumption) | exact atI_nat (by assumption) | (show CPow _ _; exact ⟨by decide, by decide, by decide⟩) | (show (0 : Int) < _; first | decide | omega) | (show CDiv _ _; exact ⟨by first | decide | omega, by first | decide | omega⟩) | (show CMul _ _; first | exact .inl ⟨by omega, by omega⟩ | exact .inr ⟨by omega, by omega⟩) ))) ya_nilD))) ya_nilD)) (by simp)) ya_nilD)) (by simp)) fun σ3 H3 c3 => ?_
        refine q_condApp (n := 4) (b := decide (o = r)) (d := encA (k, (max s.1 (c0 + 1), s.2))) c3 rfl (yt_is (yt_and (b := decide ((o : Int) = r)) (yt_is (b := true) (yt_is (by (repeat' (first | with_reducible exact y_int | with_reducible exact y_str | (with_reducible show Y _ (tVar _) _ _; exact y_var rfl) | (with_reducible refine' y_eq _ _ _) | (with_reducible refine' y_ixT _ _ _) | with_reducible refine' y_ixL _ _ _ | with_reducible exact ya_nilD | with_reducible exact y_bl | with_reducible exact y_non | with_reducible exact yo_none | with_reducible exact yt_yes | with_reducible refine' yt_test _ | with_reducible refine' yt_B _ | with_reducible refine' yt_not _ | with_reducible refine' yt_and _ (fun _ => _) | with_reducible refine' yt_or _ (fun _ => _) | with_reducible refine' y_I0 _ _ | with_reducible refine' y_B0 _ _ | with_reducible refine' y_IC _ _ _ | with_reducible refine' y_parts (by assumption) _ | with_reducible refine' y_rows (by assumption) _ | with_reducible refine' ya_consD _ _ | with_reducible refine' y_tup _ (by simp) | with_reducible refine' y_lst _ (by simp) | (with_reducible show Y _ (tCB (rLen _) _) _ _; first | exact y_lenOwn rfl | exact y_lenSc (y_var rfl)) | with_reducible refine' y_len _ _ | with_reducible refine' y_ne _ _ _ | with_reducible refine' y_chain _ _ _ | with_reducible refine' y_andV _ (fun _ => _) | with_reducible refine' y_orV _ (fun _ => _) | with_reducible refine' y_isN _ | with_reducible refine' y_notN _ | exact rfl | (show _ = _; assumption) | exact atI_nat (by assumption) | (show CPow _ _; exact ⟨by decide, by decide, by decide⟩) | (show (0 : Int) < _; first | decide | omega) | (show CDiv _ _; exact ⟨by first | decide | omega, by first | decide | omega⟩) | (show CMul _ _; first | exact .inl ⟨by omega, by omega⟩ | exact .inr ⟨by omega, by omega⟩) ))) (by (first | rfl | (simp; done) | (simp only [sx_mc, sx_mb, sx_cm, sx_cb, sx_bm, sx_bc, decide_true, decide_false, Bool.and_true, Bool.true_and, Bool.not_true, Bool.not_false, Bool.and_false, Bool.false_and, Bool.or_false, Bool.or_true, decide_eq_true_eq, Bool.and_eq_true, decide_eq_false_iff_not]; first | done | omega) | (simp [sx_mc, sx_mb, sx_cm, sx_cb, sx_bm, sx_bc]; first | done | omega) | omega))) rfl) fun _ => (yt_is (by (repeat' (first | with_reducible exact y_int | with_reducible exact y_str | (with_reducible show Y _ (tVar _) _ _; exact y_var rfl) | (with_reducible refine' y_eq _ _ _) | (with_reducible refine' y_ixT _ _ _) | with_reducible refine' y_ixL _ _ _ | with_reducible exact ya_nilD | with_reducible exact y_bl | with_reducible exact y_non | with_reducible exact yo_none | with_reducible exact yt_yes | with_reducible refine' yt_test _ | with_reducible refine' yt_B _ | with_reducible refine' yt_not _ | with_reducible refine' yt_and _ (fun _ => _) | with_reducible refine' yt_or _ (fun _ => _) | with_reducible refine' y_I0 _ _ | with_reducible refine' y_B0 _ _ | with_reducible refine' y_IC _ _ _ | with_reducible refine' y_parts (by assumption) _ | with_reducible refine' y_rows (by assumption) _ | with_reducible refine' ya_consD _ _ | with_reducible refine' y_tup _ (by simp) | with_reducible refine' y_lst _ (by simp) | (with_reducible show Y _ (tCB (rLen _) _) _ _; first | exact y_lenOwn rfl | exact y_lenSc (y_var rfl)) | with_reducible refine' y_len _ _ | with_reducible refine' y_ne _ _ _ | with_reducible refine' y_chain _ _ _ | with_reducible refine' y_andV _ (fun _ => _) | with_reducible refine' y_orV _ (fun _ => _) | with_reducible refine' y_isN _ | with_reducible refine' y_notN _ | exact rfl | (show _ = _; assumption) | exact atI_nat (by assumption) | (show CPow _ _; exact ⟨by decide, by decide, by decide⟩) | (show (0 : Int) < _; first | decide | omega) | (show CDiv _ _; exact ⟨by first | decide | omega, by first | decide | omega⟩) | (show CMul _ _; first | exact .inl ⟨by omega, by omega⟩ | exact .inr ⟨by omega, by omega⟩) ))) (by (first | rfl | (simp; done) | (simp only [sx_mc, sx_mb, sx_cm, sx_cb, sx_bm, sx_bc, decide_true, decide_false, Bool.and_true, Bool.true_and, Bool.not_true, Bool.not_false, Bool.and_false, Bool.false_and, Bool.or_false, Bool.or_true, decide_eq_true_eq, Bool.and_eq_true, decide_eq_false_iff_not]; first | done | omega) | (simp [sx_mc, sx_mb, sx_cm, sx_cb, sx_bm, sx_bc]; first | done | omega) | omega)))) (by simp; omega)) (by simp; split <;> simp <;> omega) (fun _ => y_tup (ya_consD (y_var rfl) (ya_consD (y_tup (ya_consD (y_max2 (ya_consD (by (repeat' (first | with_reducible exact y_int | with_reducible exact y_str | (with_reducible show Y _ (tVar _) _ _; exact y_var rfl) | (with_reducible refine' y_eq _ _ _) | (with_reducible refine' y_ixT _ _ _) | with_reducible refine' y_ixL _ _ _ | with_reducible exact ya_nilD | with_reducible exact y_bl | with_reducible exact y_non | with_reducible exact yo_none | with_reducible exact yt_yes | with_reducible refine' yt_test _ | with_reducible refine' yt_B _ | with_reducible refine' yt_not _ | with_reducible refine' yt_and _ (fun _ => _) | with_reducible refine' yt_or _ (fun _ => _) | with_reducible refine' y_I0 _ _ | with_reducible refine' y_B0 _ _ | with_reducible refine' y_IC _ _ _ | with_reducible refine' y_parts (by assumption) _ | with_reducible refine' y_rows (by assumption) _ | with_reducible refine' ya_consD _ _ | with_reducible refine' y_tup _ (by simp) | with_reducible refine' y_lst _ (by simp) | (with_reducible show Y _ (tCB (rLen _) _) _ _; first | exact y_lenOwn rfl | exact y_lenSc (y_var rfl)) | with_reducible refine' y_len _ _ | with_reducible refine' y_ne _ _ _ | with_reducible refine' y_chain _ _ _ | with_reducible refine' y_andV _ (fun _ => _) | with_reducible refine' y_orV _ (fun _ => _) | with_reducible refine' y_isN _ | with_reducible refine' y_notN _ | exact rfl | (show _ = _; assumption) | exact atI_nat (by assumption) | (show CPow _ _; exact ⟨by decide, by decide, by decide⟩) | (show (0 : Int) < _; first | decide | omega) | (show CDiv _ _; exact ⟨by first | decide | omega, by first | decide | omega⟩) | (show CMul _ _; first | exact .inl ⟨by omega, by omega⟩ | exact .inr ⟨by omega, by omega⟩) ))) (ya_consD (by (repeat' (first | with_reducible exact y_int | with_reducible exact y_str | (with_reducible show Y _ (tVar _) _ _; exact y_var rfl) | (with_reducible refine' y_eq _ _ _) | (with_reducible refine' y_ixT _ _ _) | with_reducible refine' y_ixL _ _ _ | with_reducible exact ya_nilD | with_reducible exact y_bl | with_reducible exact y_non | with_reducible exact yo_none | with_reducible exact yt_yes | with_reducible refine' yt_test _ | with_reducible refine' yt_B _ | with_reducible refine' yt_not _ | with_reducible refine' yt_and _ (fun _ => _) | with_reducible refine' yt_or _ (fun _ => _) | with_reducible refine' y_I0 _ _ | with_reducible refine' y_B0 _ _ | with_reducible refine' y_IC _ _ _ | with_reducible refine' y_parts (by assumption) _ | with_reducible refine' y_rows (by assumption) _ | with_reducible refine' ya_consD _ _ | with_reducible refine' y_tup _ (by simp) | with_reducible refine' y_lst _ (by simp) | (with_reducible show Y _ (tCB (rLen _) _) _ _; first | exact y_lenOwn rfl | exact y_lenSc (y_var rfl)) | with_reducible refine' y_len _ _ | with_reducible refine' y_ne _ _ _ | with_reducible refine' y_chain _ _ _ | with_reducible refine' y_andV _ (fun _ => _) | with_reducible refine' y_orV _ (fun _ => _) | with_reducible refine' y_isN _ | with_reducible refine' y_notN _ | exact rfl | (show _ = _; assumption) | exact atI_nat (by assumption) | (show CPow _ _; exact ⟨by decide, by decide, by decide⟩) | (show (0 : Int) < _; first | decide | omega) | (show CDiv _ _; exact ⟨by first | decide | omega, by first | decide | omega⟩) | (show CMul _ _; first | exact .inl ⟨by omega, by omega⟩ | exact .inr ⟨by omega, by omega⟩) ))) ya_nilD))) (ya_consD (by (repeat' (first | with_reducible exact y_int | with_reducible exact y_str | (with_reducible show Y _ (tVar _) _ _; exact y_var rfl) | (with_reducible refine' y_eq _ _ _) | (with_reducible refine' y_ixT _ _ _) | with_reducible refine' y_ixL _ _ _ | with_reducible exact ya_nilD | with_reducible exact y_bl | with_reducible exact y_non | with_reducible exact yo_none | with_reducible exact yt_yes | with_reducible refine' yt_test _ | with_reducible refine' yt_B _ | with_reducible refine' yt_not _ | with_reducible refine' yt_and _ (fun _ => _) | with_reducible refine' yt_or _ (fun _ => _) | with_reducible refine' y_I0 _ _ | with_reducible refine' y_B0 _ _ | with_reducible refine' y_IC _ _ _ | with_reducible refine' y_parts (by assumption) _ | with_reducible refine' y_rows (by assumption) _ | with_reducible refine' ya_consD _ _ | with_reducible refine' y_tup _ (by simp) | with_reducible refine' y_lst _ (by simp) | (with_reducible show Y _ (tCB (rLen _) _) _ _; first | exact y_lenOwn rfl | exact y_lenSc (y_var rfl)) | with_reducible refine' y_len _ _ | with_reducible refine' y_ne _ _ _ | with_reducible refine' y_chain _ _ _ | with_reducible refine' y_andV _ (fun _ => _) | with_reducible refine' y_orV _ (fun _ => _) | with_reducible refine' y_isN _ | with_reducible refine' y_notN _ | exact rfl | (show _ = _; assumption) | exact atI_nat (by assumption) | (show CPow _ _; exact ⟨by decide, by decide, by decide⟩) | (show (0 : Int) < _; first | decide | omega) | (show CDiv _ _; exact ⟨by first | decide | omega, by first | decide | omega⟩) | (show CMul _ _; first | exact .inl ⟨by omega, by omega⟩ | exact .inr ⟨by omega, by omega⟩) ))) ya_nilD)) (by simp)) ya_nilD)) (by simp)) fun σ4 H4 c4 => ?_
        refine z_else1 c4 (yt_andF (yt_is (by (repeat' (first | with_reducible exact y_int | with_reducible exact y_str | (with_reducible show Y _ (tVar _) _ _; exact y_var rfl) | (with_reducible refine' y_eq _ _ _) | (with_reducible refine' y_ixT _ _ _) | with_reducible refine' y_ixL _ _ _ | with_reducible exact ya_nilD | with_reducible exact y_bl | with_reducible exact y_non | with_reducible exact yo_none | with_reducible exact yt_yes | with_reducible refine' yt_test _ | with_reducible refine' yt_B _ | with_reducible refine' yt_not _ | with_reducible refine' yt_and _ (fun _ => _) | with_reducible refine' yt_or _ (fun _ => _) | with_reducible refine' y_I0 _ _ | with_reducible refine' y_B0 _ _ | with_reducible refine' y_IC _ _ _ | with_reducible refine' y_parts (by assumption) _ | with_reducible refine' y_rows (by assumption) _ | with_reducible refine' ya_consD _ _ | with_reducible refine' y_tup _ (by simp) | with_reducible refine' y_lst _ (by simp) | (with_reducible show Y _ (tCB (rLen _) _) _ _; first | exact y_lenOwn rfl | exact y_lenSc (y_var rfl)) | with_reducible refine' y_len _ _ | with_reducible refine' y_ne _ _ _ | with_reducible refine' y_chain _ _ _ | with_reducible refine' y_andV _ (fun _ => _) | with_reducible refine' y_orV _ (fun _ => _) | with_reducible refine' y_isN _ | with_reducible refine' y_notN _ | exact rfl | (show _ = _; assumption) | exact atI_nat (by assumption) | (show CPow _ _; exact ⟨by decide, by decide, by decide⟩) | (show (0 : Int) < _; first | decide | omega) | (show CDiv _ _; exact ⟨by first | decide | omega, by first | decide | omega⟩) | (show CMul _ _; first | exact .inl ⟨by omega, by omega⟩ | exact .inr ⟨by omega, by omega⟩) ))) (by (first | rfl | (simp; done) | (simp only [sx_mc, sx_mb, sx_cm, sx_cb, sx_bm, sx_bc, decide_true, decide_false, Bool.and_true, Bool.true_and, Bool.not_true, Bool.not_false, Bool.and_false, Bool.false_and, Bool.or_false, Bool.or_true, decide_eq_true_eq, Bool.and_eq_true, decide_eq_false_iff_not]; first | done | omega) | (simp [sx_mc, sx_mb, sx_cm, sx_cb, sx_bm, sx_bc]; first | done | omega) | omega)))) fun H5 c5 => ?_
        have c6 := (c5.forget 5).forget 6
        have e : es ++ ((a1 r s k (.mesh c0 u o)).map encA ++ (a2 r s k (.mesh c0 u o)).map encA ++ (a3 p most r s k (.mesh c0 u o)).map encA) = es ++ (if decide (u = r) then [encA (k, (s.1, min s.2 c0))] else []) ++ (if decide (o = r) then [encA (k, (max s.1 (c0 + 1), s.2))] else []) := by
          unfold a1 a2 a3
          by_cases h1 : u = r <;> by_cases h2 : o = r <;> simp [h1, h2]
        rw [e]
        exact c6
      | crush t =>
        refine z_no c2 (yt_andF (yt_is (by (repeat' (first | with_reducible exact y_int | with_reducible exact y_str | (with_reducible show Y _ (tVar _) _ _; exact y_var rfl) | (with_reducible refine' y_eq _ _ _) | (with_reducible refine' y_ixT _ _ _) | with_reducible refine' y_ixL _ _ _ | with_reducible exact ya_nilD | with_reducible exact y_bl | with_reducible exact y_non | with_reducible exact yo_none | with_reducible exact yt_yes | with_reducible refine' yt_test _ | with_reducible refine' yt_B _ | with_reducible refine' yt_not _ | with_reducible refine' yt_and _ (fun _ => _) | with_reducible refine' yt_or _ (fun _ => _) | with_reducible refine' y_I0 _ _ | with_reducible refine' y_B0 _ _ | with_reducible refine' y_IC _ _ _ | with_reducible refine' y_parts (by assumption) _ | with_reducible refine' y_rows (by assumption) _ | with_reducible refine' ya_consD _ _ | with_reducible refine' y_tup _ (by simp) | with_reducible refine' y_lst _ (by simp) | (with_reducible show Y _ (tCB (rLen _) _) _ _; first | exact y_lenOwn rfl | exact y_lenSc (y_var rfl)) | with_reducible refine' y_len _ _ | with_reducible refine' y_ne _ _ _ | with_reducible refine' y_chain _ _ _ | with_reducible refine' y_andV _ (fun _ => _) | with_reducible refine' y_orV _ (fun _ => _) | with_reducible refine' y_isN _ | with_reducible refine' y_notN _ | exact rfl | (show _ = _; assumption) | exact atI_nat (by assumption) | (show CPow _ _; exact ⟨by decide, by decide, by decide⟩) | (show (0 : Int) < _; first | decide | omega) | (show CDiv _ _; exact ⟨by first | decide | omega, by first | decide | omega⟩) | (show CMul _ _; first | exact .inl ⟨by omega, by omega⟩ | exact .inr ⟨by omega, by omega⟩) ))) (by (first | rfl | (simp; done) | (simp only [sx_mc, sx_mb, sx_cm, sx_cb, sx_bm, sx_bc, decide_true, decide_false, Bool.and_true, Bool.true_and, Bool.not_true, Bool.not_false, Bool.and_false, Bool.false_and, Bool.or_false, Bool.or_true, decide_eq_true_eq, Bool.and_eq_true, decide_eq_false_iff_not]; first | done | omega) | (simp [sx_mc, sx_mb, sx_cm, sx_cb, sx_bm, sx_bc]; first | done | omega) | omega)))) fun H3 c3 => ?_
        refine z_no c3 (yt_andF (yt_is (by (repeat' (first | with_reducible exact y_int | with_reducible exact y_str | (with_reducible show Y _ (tVar _) _ _; exact y_var rfl) | (with_reducible refine' y_eq _ _ _) | (with_reducible refine' y_ixT _ _ _) | with_reducible refine' y_ixL _ _ _ | with_reducible exact ya_nilD | with_reducible exact y_bl | with_reducible exact y_non | with_reducible exact yo_none | with_reducible exact yt_yes | with_reducible refine' yt_test _ | with_reducible refine' yt_B _ | with_reducible refine' yt_not _ | with_reducible refine' yt_and _ (fun _ => _) | with_reducible refine' yt_or _ (fun _ => _) | with_reducible refine' y_I0 _ _ | with_reducible refine' y_B0 _ _ | with_reducible refine' y_IC _ _ _ | with_reducible refine' y_parts (by assumption) _ | with_reducible refine' y_rows (by assumption) _ | with_reducible refine' ya_consD _ _ | with_reducible refine' y_tup _ (by simp) | with_reducible refine' y_lst _ (by simp) | (with_reducible show Y _ (tCB (rLen _) _) _ _; first | exact y_lenOwn rfl | exact y_lenSc (y_var rfl)) | with_reducible refine' y_len _ _ | with_reducible refine' y_ne _ _ _ | with_reducible refine' y_chain _ _ _ | with_reducible refine' y_andV _ (fun _ => _) | with_reducible refine' y_orV _ (fun _ => _) | with_reducible refine' y_isN _ | with_reducible refine' y_notN _ | exact rfl | (show _ = _; assumption) | exact atI_nat (by assumption) | (show CPow _ _; exact ⟨by decide, by decide, by decide⟩) | (show (0 : Int) < _; first | decide | omega) | (show CDiv _ _; exact ⟨by first | decide | omega, by first | decide | omega⟩) | (show CMul _ _; first | exact .inl ⟨by omega, by omega⟩ | exact .inr ⟨by omega, by omega⟩) ))) (by (first | rfl | (simp; done) | (simp only [sx_mc, sx_mb, sx_cm, sx_cb, sx_bm, sx_bc, decide_true, decide_false, Bool.and_true, Bool.true_and, Bool.not_true, Bool.not_false, Bool.and_false, Bool.false_and, Bool.or_false, Bool.or_true, decide_eq_true_eq, Bool.and_eq_true, decide_eq_false_iff_not]; first | done | omega) | (simp [sx_mc, sx_mb, sx_cm, sx_cb, sx_bm, sx_bc]; first | done | omega) | omega)))) fun H4 c4 => ?_
        refine z_when1 (b := decide (t = r)) c4 (yt_is (yt_and (b := decide ((t : Int) = r)) (yt_is (b := true) (yt_is (by (repeat' (first | with_reducible exact y_int | with_reducible exact y_str | (with_reducible show Y _ (tVar _) _ _; exact y_var rfl) | (with_reducible refine' y_eq _ _ _) | (with_reducible refine' y_ixT _ _ _) | with_reducible refine' y_ixL _ _ _ | with_reducible exact ya_nilD | with_reducible exact y_bl | with_reducible exact y_non | with_reducible exact yo_none | with_reducible exact yt_yes | with_reducible refine' yt_test _ | with_reducible refine' yt_B _ | with_reducible refine' yt_not _ | with_reducible refine' yt_and _ (fun _ => _) | with_reducible refine' yt_or _ (fun _ => _) | with_reducible refine' y_I0 _ _ | with_reducible refine' y_B0 _ _ | with_reducible refine' y_IC _ _ _ | with_reducible refine' y_parts (by assumption) _ | with_reducible refine' y_rows (by assumption) _ | with_reducible refine' ya_consD _ _ | with_reducible refine' y_tup _ (by simp) | with_reducible refine' y_lst _ (by simp) | (with_reducible show Y _ (tCB (rLen _) _) _ _; first | exact y_lenOwn rfl | exact y_lenSc (y_var rfl)) | with_reducible refine' y_len _ _ | with_reducible refine' y_ne _ _ _ | with_reducible refine' y_chain _ _ _ | with_reducible refine' y_andV _ (fun _ => _) | with_reducible refine' y_orV _ (fun _ => _) | with_reducible refine' y_isN _ | with_reducible refine' y_notN _ | exact rfl | (show _ = _; assumption) | exact atI_nat (by assumption) | (show CPow _ _; exact ⟨by decide, by decide, by decide⟩) | (show (0 : Int) < _; first | decide | omega) | (show CDiv _ _; exact ⟨by first | decide | omega, by first | decide | omega⟩) | (show CMul _ _; first | exact .inl ⟨by omega, by omega⟩ | exact .inr ⟨by omega, by omega⟩) ))) (by (first | rfl | (simp; done) | (simp only [sx_mc, sx_mb, sx_cm, sx_cb, sx_bm, sx_bc, decide_true, decide_false, Bool.and_true, Bool.true_and, Bool.not_true, Bool.not_false, Bool.and_false, Bool.false_and, Bool.or_false, Bool.or_true, decide_eq_true_eq, Bool.and_eq_true, decide_eq_false_iff_not]; first | done | omega) | (simp [sx_mc, sx_mb, sx_cm, sx_cb, sx_bm, sx_bc]; first | done | omega) | omega))) rfl) fun _ => (yt_is (by (repeat' (first | with_reducible exact y_int | with_reducible exact y_str | (with_reducible show Y _ (tVar _) _ _; exact y_var rfl) | (with_reducible refine' y_eq _ _ _) | (with_reducible refine' y_ixT _ _ _) | with_reducible refine' y_ixL _ _ _ | with_reducible exact ya_nilD | with_reducible exact y_bl | with_reducible exact y_non | with_reducible exact yo_none | with_reducible exact yt_yes | with_reducible refine' yt_test _ | with_reducible refine' yt_B _ | with_reducible refine' yt_not _ | with_reducible refine' yt_and _ (fun _ => _) | with_reducible refine' yt_or _ (fun _ => _) | with_reducible refine' y_I0 _ _ | with_reducible refine' y_B0 _ _ | with_reducible refine' y_IC _ _ _ | with_reducible refine' y_parts (by assumption) _ | with_reducible refine' y_rows (by assumption) _ | with_reducible refine' ya_consD _ _ | with_reducible refine' y_tup _ (by simp) | with_reducible refine' y_lst _ (by simp) | (with_reducible show Y _ (tCB (rLen _) _) _ _; first | exact y_lenOwn rfl | exact y_lenSc (y_var rfl)) | with_reducible refine' y_len _ _ | with_reducible refine' y_ne _ _ _ | with_reducible refine' y_chain _ _ _ | with_reducible refine' y_andV _ (fun _ => _) | with_reducible refine' y_orV _ (fun _ => _) | with_reducible refine' y_isN _ | with_reducible refine' y_notN _ | exact rfl | (show _ = _; assumption) | exact atI_nat (by assumption) | (show CPow _ _; exact ⟨by decide, by decide, by decide⟩) | (show (0 : Int) < _; first | decide | omega) | (show CDiv _ _; exact ⟨by first | decide | omega, by first | decide | omega⟩) | (show CMul _ _; first | exact .inl ⟨by omega, by omega⟩ | exact .inr ⟨by omega, by omega⟩) ))) (by (first | rfl | (simp; done) | (simp only [sx_mc, sx_mb, sx_cm, sx_cb, sx_bm, sx_bc, decide_true, decide_false, Bool.and_true, Bool.true_and, Bool.not_true, Bool.not_false, Bool.and_false, Bool.false_and, Bool.or_false, Bool.or_true, decide_eq_true_eq, Bool.and_eq_true, decide_eq_false_iff_not]; first | done | omega) | (simp [sx_mc, sx_mb, sx_cm, sx_cb, sx_bm, sx_bc]; first | done | omega) | omega)))) (by simp; omega)) (fun hb H5 c5 => ?_) (fun hb H5 c5 => ?_)
        · refine q_asgD c5 (d := .int p) (y_parts T (y_var rfl)) fun σ6 H6 c6 => ?_
          refine z_app c6 (n := 4) (d := encA (k, (p * (s.1 - 1) + 1, min most (p * s.2 + p - 1)))) rfl (y_tup (ya_consD (y_var rfl) (ya_consD (y_tup (ya_consD (y_I0 (y_IC (y_var rfl) (y_I0 (by (repeat' (first | with_reducible exact y_int | with_reducible exact y_str | (with_reducible show Y _ (tVar _) _ _; exact y_var rfl) | (with_reducible refine' y_eq _ _ _) | (with_reducible refine' y_ixT _ _ _) | with_reducible refine' y_ixL _ _ _ | with_reducible exact ya_nilD | with_reducible exact y_bl | with_reducible exact y_non | with_reducible exact yo_none | with_reducible exact yt_yes | with_reducible refine' yt_test _ | with_reducible refine' yt_B _ | with_reducible refine' yt_not _ | with_reducible refine' yt_and _ (fun _ => _) | with_reducible refine' yt_or _ (fun _ => _) | with_reducible refine' y_I0 _ _ | with_reducible refine' y_B0 _ _ | with_reducible refine' y_IC _ _ _ | with_reducible refine' y_parts (by assumption) _ | with_reducible refine' y_rows (by assumption) _ | with_reducible refine' ya_consD _ _ | with_reducible refine' y_tup _ (by simp) | with_reducible refine' y_lst _ (by simp) | (with_reducible show Y _ (tCB (rLen _) _) _ _; first | exact y_lenOwn rfl | exact y_lenSc (y_var rfl)) | with_reducible refine' y_len _ _ | with_reducible refine' y_ne _ _ _ | with_reducible refine' y_chain _ _ _ | with_reducible refine' y_andV _ (fun _ => _) | with_reducible refine' y_orV _ (fun _ => _) | with_reducible refine' y_isN _ | with_reducible refine' y_notN _ | exact rfl | (show _ = _; assumption) | exact atI_nat (by assumption) | (show CPow _ _; exact ⟨by decide, by decide, by decide⟩) | (show (0 : Int) < _; first | decide | omega) | (show CDiv _ _; exact ⟨by first | decide | omega, by first | decide | omega⟩) | (show CMul _ _; first | exact .inl ⟨by omega, by omega⟩ | exact .inr ⟨by omega, by omega⟩) ))) y_int) ?_) y_int) (ya_consD (y_min2 (ya_consD (y_var rfl) (ya_consD (y_I0 (y_I0 (y_IC (y_var rfl) (by (repeat' (first | with_reducible exact y_int | with_reducible exact y_str | (with_reducible show Y _ (tVar _) _ _; exact y_var rfl) | (with_reducible refine' y_eq _ _ _) | (with_reducible refine' y_ixT _ _ _) | with_reducible refine' y_ixL _ _ _ | with_reducible exact ya_nilD | with_reducible exact y_bl | with_reducible exact y_non | with_reducible exact yo_none | with_reducible exact yt_yes | with_reducible refine' yt_test _ | with_reducible refine' yt_B _ | with_reducible refine' yt_not _ | with_reducible refine' yt_and _ (fun _ => _) | with_reducible refine' yt_or _ (fun _ => _) | with_reducible refine' y_I0 _ _ | with_reducible refine' y_B0 _ _ | with_reducible refine' y_IC _ _ _ | with_reducible refine' y_parts (by assumption) _ | with_reducible refine' y_rows (by assumption) _ | with_reducible refine' ya_consD _ _ | with_reducible refine' y_tup _ (by simp) | with_reducible refine' y_lst _ (by simp) | (with_reducible show Y _ (tCB (rLen _) _) _ _; first | exact y_lenOwn rfl | exact y_lenSc (y_var rfl)) | with_reducible refine' y_len _ _ | with_reducible refine' y_ne _ _ _ | with_reducible refine' y_chain _ _ _ | with_reducible refine' y_andV _ (fun _ => _) | with_reducible refine' y_orV _ (fun _ => _) | with_reducible refine' y_isN _ | with_reducible refine' y_notN _ | exact rfl | (show _ = _; assumption) | exact atI_nat (by assumption) | (show CPow _ _; exact ⟨by decide, by decide, by decide⟩) | (show (0 : Int) < _; first | decide | omega) | (show CDiv _ _; exact ⟨by first | decide | omega, by first | decide | omega⟩) | (show CMul _ _; first | exact .inl ⟨by omega, by omega⟩ | exact .inr ⟨by omega, by omega⟩) ))) ?_) (y_var rfl)) y_int) ya_nilD))) ya_nilD)) (by simp)) ya_nilD)) (by simp)) (by omega) fun σ7 H7 c7 => ?_
          · exact .inl ⟨by omega, by omega⟩
          · exact .inl ⟨by omega, by omega⟩
          · have c8 := ((c7.forget 5).forget 6).forget 7
            have e : es ++ ((a1 r s k (.crush t)).map encA ++ (a2 r s k (.crush t)).map encA ++ (a3 p most r s k (.crush t)).map encA) = es ++ [encA (k, (p * (s.1 - 1) + 1, min most (p * s.2 + p - 1)))] := by
              unfold a1 a2 a3
              simp only [hb]; rfl
            rw [e]
            exact c8
        · have c8 := (c5.forget 5).forget 6
          have e : es ++ ((a1 r s k (.crush t)).map encA ++ (a2 r s k (.crush t)).map encA ++ (a3 p most r s k (.crush t)).map encA) = es := by
            unfold a1 a2 a3
            simp [hb]
          rw [e]
          exact c8
      | bin b =>
        refine z_no c2 (yt_andF (yt_is (by (repeat' (first | with_reducible exact y_int | with_reducible exact y_str | (with_reducible show Y _ (tVar _) _ _; exact y_var rfl) | (with_reducible refine' y_eq _ _ _) | (with_reducible refine' y_ixT _ _ _) | with_reducible refine' y_ixL _ _ _ | with_reducible exact ya_nilD | with_reducible exact y_bl | with_reducible exact y_non | with_reducible exact yo_none | with_reducible exact yt_yes | with_reducible refine' yt_test _ | with_reducible refine' yt_B _ | with_reducible refine' yt_not _ | with_reducible refine' yt_and _ (fun _ => _) | with_reducible refine' yt_or _ (fun _ => _) | with_reducible refine' y_I0 _ _ | with_reducible refine' y_B0 _ _ | with_reducible refine' y_IC _ _ _ | with_reducible refine' y_parts (by assumption) _ | with_reducible refine' y_rows (by assumption) _ | with_reducible refine' ya_consD _ _ | with_reducible refine' y_tup _ (by simp) | with_reducible refine' y_lst _ (by simp) | (with_reducible show Y _ (tCB (rLen _) _) _ _; first | exact y_lenOwn rfl | exact y_lenSc (y_var rfl)) | with_reducible refine' y_len _ _ | with_reducible refine' y_ne _ _ _ | with_reducible refine' y_chain _ _ _ | with_reducible refine' y_andV _ (fun _ => _) | with_reducible refine' y_orV _ (fun _ => _) | with_reducible refine' y_isN _ | with_reducible refine' y_notN _ | exact rfl | (show _ = _; assumption) | exact atI_nat (by assumption) | (show CPow _ _; exact ⟨by decide, by decide, by decide⟩) | (show (0 : Int) < _; first | decide | omega) | (show CDiv _ _; exact ⟨by first | decide | omega, by first | decide | omega⟩) | (show CMul _ _; first | exact .inl ⟨by omega, by omega⟩ | exact .inr ⟨by omega, by omega⟩) ))) (by (first | rfl | (simp; done) | (simp only [sx_mc, sx_mb, sx_cm, sx_cb, sx_bm, sx_bc, decide_true, decide_false, Bool.and_true, Bool.true_and, Bool.not_true, Bool.not_false, Bool.and_false, Bool.false_and, Bool.or_false, Bool.or_true, decide_eq_true_eq, Bool.and_eq_true, decide_eq_false_iff_not]; first | done | omega) | (simp [sx_mc, sx_mb, sx_cm, sx_cb, sx_bm, sx_bc]; first | done | omega) | omega)))) fun H3 c3 => ?_
        refine z_no c3 (yt_andF (yt_is (by (repeat' (first | with_reducible exact y_int | with_reducible exact y_str | (with_reducible show Y _ (tVar _) _ _; exact y_var rfl) | (with_reducible refine' y_eq _ _ _) | (with_reducible refine' y_ixT _ _ _) | with_reducible refine' y_ixL _ _ _ | with_reducible exact ya_nilD | with_reducible exact y_bl | with_reducible exact y_non | with_reducible exact yo_none | with_reducible exact yt_yes | with_reducible refine' yt_test _ | with_reducible refine' yt_B _ | with_reducible refine' yt_not _ | with_reducible refine' yt_and _ (fun _ => _) | with_reducible refine' yt_or _ (fun _ => _) | with_reducible refine' y_I0 _ _ | with_reducible refine' y_B0 _ _ | with_reducible refine' y_IC _ _ _ | with_reducible refine' y_parts (by assumption) _ | with_reducible refine' y_rows (by assumption) _ | with_reducible refine' ya_consD _ _ | with_reducible refine' y_tup _ (by simp) | with_reducible refine' y_lst _ (by simp) | (with_reducible show Y _ (tCB (rLen _) _) _ _; first | exact y_lenOwn rfl | exact y_lenSc (y_var rfl)) | with_reducible refine' y_len _ _ | with_reducible refine' y_ne _ _ _ | with_reducible refine' y_chain _ _ _ | with_reducible refine' y_andV _ (fun _ => _) | with_reducible refine' y_orV _ (fun _ => _) | with_reducible refine' y_isN _ | with_reducible refine' y_notN _ | exact rfl | (show _ = _; assumption) | exact atI_nat (by assumption) | (show CPow _ _; exact ⟨by decide, by decide, by decide⟩) | (show (0 : Int) < _; first | decide | omega) | (show CDiv _ _; exact ⟨by first | decide | omega, by first | decide | omega⟩) | (show CMul _ _; first | exact .inl ⟨by omega, by omega⟩ | exact .inr ⟨by omega, by omega⟩) ))) (by (first | rfl | (simp; done) | (simp only [sx_mc, sx_mb, sx_cm, sx_cb, sx_bm, sx_bc, decide_true, decide_false, Bool.and_true, Bool.true_and, Bool.not_true, Bool.not_false, Bool.and_false, Bool.false_and, Bool.or_false, Bool.or_true, decide_eq_true_eq, Bool.and_eq_true, decide_eq_false_iff_not]; first | done | omega) | (simp [sx_mc, sx_mb, sx_cm, sx_cb, sx_bm, sx_bc]; first | done | omega) | omega)))) fun H4 c4 => ?_
        refine z_else1 c4 (yt_andF (yt_is (by (repeat' (first | with_reducible exact y_int | with_reducible exact y_str | (with_reducible show Y _ (tVar _) _ _; exact y_var rfl) | (with_reducible refine' y_eq _ _ _) | (with_reducible refine' y_ixT _ _ _) | with_reducible refine' y_ixL _ _ _ | with_reducible exact ya_nilD | with_reducible exact y_bl | with_reducible exact y_non | with_reducible exact yo_none | with_reducible exact yt_yes | with_reducible refine' yt_test _ | with_reducible refine' yt_B _ | with_reducible refine' yt_not _ | with_reducible refine' yt_and _ (fun _ => _) | with_reducible refine' yt_or _ (fun _ => _) | with_reducible refine' y_I0 _ _ | with_reducible refine' y_B0 _ _ | with_reducible refine' y_IC _ _ _ | with_reducible refine' y_parts (by assumption) _ | with_reducible refine' y_rows (by assumption) _ | with_reducible refine' ya_consD _ _ | with_reducible refine' y_tup _ (by simp) | with_reducible refine' y_lst _ (by simp) | (with_reducible show Y _ (tCB (rLen _) _) _ _; first | exact y_lenOwn rfl | exact y_lenSc (y_var rfl)) | with_reducible refine' y_len _ _ | with_reducible refine' y_ne _ _ _ | with_reducible refine' y_chain _ _ _ | with_reducible refine' y_andV _ (fun _ => _) | with_reducible refine' y_orV _ (fun _ => _) | with_reducible refine' y_isN _ | with_reducible refine' y_notN _ | exact rfl | (show _ = _; assumption) | exact atI_nat (by assumption) | (show CPow _ _; exact ⟨by decide, by decide, by decide⟩) | (show (0 : Int) < _; first | decide | omega) | (show CDiv _ _; exact ⟨by first | decide | omega, by first | decide | omega⟩) | (show CMul _ _; first | exact .inl ⟨by omega, by omega⟩ | exact .inr ⟨by omega, by omega⟩) ))) (by (first | rfl | (simp; done) | (simp only [sx_mc, sx_mb, sx_cm, sx_cb, sx_bm, sx_bc, decide_true, decide_false, Bool.and_true, Bool.true_and, Bool.not_true, Bool.not_false, Bool.and_false, Bool.false_and, Bool.or_false, Bool.or_true, decide_eq_true_eq, Bool.and_eq_true, decide_eq_false_iff_not]; first | done | omega) | (simp [sx_mc, sx_mb, sx_cm, sx_cb, sx_bm, sx_bc]; first | done | omega) | omega)))) fun H5 c5 => ?_
        have c8 := (c5.forget 5).forget 6
        have e : es ++ ((a1 r s k (.bin b)).map encA ++ (a2 r s k (.bin b)).map encA ++ (a3 p most r s k (.bin b)).map encA) = es := by
          unfold a1 a2 a3
          simp
        rw [e]
        exact c8
    · have f := fl rows.length
      have ez : (rows.zipIdx).take rows.length = rows.zipIdx := List.take_of_length_le (by rw [List.length_zipIdx]; exact Nat.le_refl _)
      rw [ez] at c2 f
      have c3 := c2.freeze (n := 4) rfl
      exact z_ret c3 (y_lcL (xs := (rows.zipIdx).flatMap (ahead1 p most r s)) (enc := encA) (e := encA) (b := fun g => decide (g.2.1 ≤ g.2.2)) (fun x => [.p (Ws K p rows), .p (D (.int r)), .p (D (encP s)), .p (D (.int most)), .p (D (.list (((rows.zipIdx).flatMap (ahead1 p most r s)).map encA))), .no, .no, .no, .p (D (encA x))]) (y_var rfl) (by omega) (fun x _ => yg_name) (fun x _ => yt_is (by (repeat' (first | with_reducible exact y_int | with_reducible exact y_str | (with_reducible show Y _ (tVar _) _ _; exact y_var rfl) | (with_reducible refine' y_eq _ _ _) | (with_reducible refine' y_ixT _ _ _) | with_reducible refine' y_ixL _ _ _ | with_reducible exact ya_nilD | with_reducible exact y_bl | with_reducible exact y_non | with_reducible exact yo_none | with_reducible exact yt_yes | with_reducible refine' yt_test _ | with_reducible refine' yt_B _ | with_reducible refine' yt_not _ | with_reducible refine' yt_and _ (fun _ => _) | with_reducible refine' yt_or _ (fun _ => _) | with_reducible refine' y_I0 _ _ | with_reducible refine' y_B0 _ _ | with_reducible refine' y_IC _ _ _ | with_reducible refine' y_parts (by assumption) _ | with_reducible refine' y_rows (by assumption) _ | with_reducible refine' ya_consD _ _ | with_reducible refine' y_tup _ (by simp) | with_reducible refine' y_lst _ (by simp) | (with_reducible show Y _ (tCB (rLen _) _) _ _; first | exact y_lenOwn rfl | exact y_lenSc (y_var rfl)) | with_reducible refine' y_len _ _ | with_reducible refine' y_ne _ _ _ | with_reducible refine' y_chain _ _ _ | with_reducible refine' y_andV _ (fun _ => _) | with_reducible refine' y_orV _ (fun _ => _) | with_reducible refine' y_isN _ | with_reducible refine' y_notN _ | exact rfl | (show _ = _; assumption) | exact atI_nat (by assumption) | (show CPow _ _; exact ⟨by decide, by decide, by decide⟩) | (show (0 : Int) < _; first | decide | omega) | (show CDiv _ _; exact ⟨by first | decide | omega, by first | decide | omega⟩) | (show CMul _ _; first | exact .inl ⟨by omega, by omega⟩ | exact .inr ⟨by omega, by omega⟩) ))) rfl) (fun x _ _ => y_var rfl)) k
end
end MW

/-! PL1 -/
set_option Elab.async false
set_option linter.all false
set_option maxRecDepth 100000
set_option maxHeartbeats 400000
namespace MW
open PySem PySem.Spec L2
/-! ### joined spans, in plain Lean -/
def Cov (l : List Sp2) (x : Int) : Prop := ∃ s ∈ l, s.1 ≤ x ∧ x ≤ s.2
def SepP (a b : Sp2) : Prop := a.2 + 1 < b.1 ∨ b.2 + 1 < a.1
def joinStep (acc : Int × Int × List Sp2) (one : Sp2) : Int × Int × List Sp2 := if decide (one.2 + 1 < acc.1) || decide (acc.2.1 + 1 < one.1) then (acc.1, acc.2.1, acc.2.2 ++ [one]) else (min acc.1 one.1, max acc.2.1 one.2, acc.2.2)
def joinAcc (l : List Sp2) (s : Sp2) : Int × Int × List Sp2 := l.foldl joinStep (s.1, s.2, [])
def joinR (l : List Sp2) (s : Sp2) : List Sp2 := (joinAcc l s).2.2 ++ [((joinAcc l s).1, (joinAcc l s).2.1)]
def holdsR (l : List Sp2) (s : Sp2) : Bool := l.any fun one => decide (one.1 ≤ s.1) && decide (s.2 ≤ one.2)
theorem cov_app {l m : List Sp2} {x : Int} : Cov (l ++ m) x ↔ Cov l x ∨ Cov m x := by
  constructor
  · rintro ⟨s, h, k⟩
    rcases List.mem_append.mp h with z | z
    · exact .inl ⟨s, z, k⟩
    · exact .inr ⟨s, z, k⟩
  · rintro (⟨s, h, k⟩ | ⟨s, h, k⟩)
    · exact ⟨s, List.mem_append_left _ h, k⟩
    · exact ⟨s, List.mem_append_right _ h, k⟩
theorem cov_cons {a : Sp2} {l : List Sp2} {x : Int} : Cov (a :: l) x ↔ (a.1 ≤ x ∧ x ≤ a.2) ∨ Cov l x := by
  constructor
  · rintro ⟨s, h, k⟩
    rcases List.mem_cons.mp h with rfl | z
    · exact .inl k
    · exact .inr ⟨s, z, k⟩
  · rintro (k | ⟨s, h, k⟩)
    · exact ⟨a, List.mem_cons_self, k⟩
    · exact ⟨s, List.mem_cons_of_mem _ h, k⟩
theorem cov_nil {x : Int} : ¬ Cov [] x := fun ⟨_, h, _⟩ => nomatch h
/-- what the spans are made of: A of the lows, B of the highs -/
structure Spans (A B : Int → Prop) (l : List Sp2) : Prop where
  wf : ∀ s ∈ l, s.1 ≤ s.2
  lo : ∀ s ∈ l, A s.1
  hi : ∀ s ∈ l, B s.2
theorem SepP.symm {a b : Sp2} (h : SepP a b) : SepP b a := h.elim .inr .inl
theorem join_inv {A B : Int → Prop} : ∀ (l ap : List Sp2) (lo hi : Int), Spans A B (ap ++ l) → lo ≤ hi → A lo → B hi → (ap ++ l).Pairwise SepP → (∀ a ∈ ap, SepP a (lo, hi)) →
    Spans A B ((l.foldl joinStep (lo, hi, ap)).2.2 ++ [((l.foldl joinStep (lo, hi, ap)).1, (l.foldl joinStep (lo, hi, ap)).2.1)]) ∧ ((l.foldl joinStep (lo, hi, ap)).2.2 ++ [((l.foldl joinStep (lo, hi, ap)).1, (l.foldl joinStep (lo, hi, ap)).2.1)]).Pairwise SepP ∧
    ∀ x, Cov ((l.foldl joinStep (lo, hi, ap)).2.2 ++ [((l.foldl joinStep (lo, hi, ap)).1, (l.foldl joinStep (lo, hi, ap)).2.1)]) x ↔ Cov ap x ∨ (lo ≤ x ∧ x ≤ hi) ∨ Cov l x
  | [], ap, lo, hi, w, h1, h2, h3, pw, sp => by
    rw [List.append_nil] at w pw
    refine ⟨⟨fun s hs => ?_, fun s hs => ?_, fun s hs => ?_⟩, ?_, fun x => ?_⟩
    · rcases List.mem_append.mp hs with z | z
      · exact w.wf s z
      · rw [List.mem_singleton.mp z]; exact h1
    · rcases List.mem_append.mp hs with z | z
      · exact w.lo s z
      · rw [List.mem_singleton.mp z]; exact h2
    · rcases List.mem_append.mp hs with z | z
      · exact w.hi s z
      · rw [List.mem_singleton.mp z]; exact h3
    · rw [List.pairwise_append]
      exact ⟨pw, List.pairwise_singleton _ _, fun a ha b hb => by rw [List.mem_singleton.mp hb]; exact sp a ha⟩
    · show Cov (ap ++ [(lo, hi)]) x ↔ _
      rw [cov_app, cov_cons]
  | one :: l, ap, lo, hi, w, h1, h2, h3, pw, sp => by
    have inO : one ∈ ap ++ one :: l := List.mem_append_right _ List.mem_cons_self
    by_cases t : one.2 + 1 < lo ∨ hi + 1 < one.1
    · have e : joinStep (lo, hi, ap) one = (lo, hi, ap ++ [one]) := by
        unfold joinStep
        rw [if_pos]
        rcases t with z | z
        · simp [z]
        · simp [z]
      rw [List.foldl_cons, e]
      have ea : ap ++ [one] ++ l = ap ++ one :: l := by simp
      obtain ⟨k1, k2, k3⟩ := join_inv l (ap ++ [one]) lo hi (by rw [ea]; exact w) h1 h2 h3 (by rw [ea]; exact pw) (fun a ha => by
        rcases List.mem_append.mp ha with z | z
        · exact sp a z
        · rw [List.mem_singleton.mp z]; exact t)
      refine ⟨k1, k2, fun x => ?_⟩
      rw [k3, cov_app, cov_cons, cov_cons]
      constructor
      · rintro ((z | z | z) | z | z)
        · exact .inl z
        · exact .inr (.inr (.inl z))
        · exact absurd z cov_nil
        · exact .inr (.inl z)
        · exact .inr (.inr (.inr z))
      · rintro (z | z | z | z)
        · exact .inl (.inl z)
        · exact .inr (.inl z)
        · exact .inl (.inr (.inl z))
        · exact .inr (.inr z)
    · have e : joinStep (lo, hi, ap) one = (min lo one.1, max hi one.2, ap) := by
        unfold joinStep
        rw [if_neg]
        simp only [Bool.or_eq_true, decide_eq_true_eq]; exact t
      rw [List.foldl_cons, e]
      rw [not_or] at t
      have sub : List.Sublist (ap ++ l) (ap ++ one :: l) := List.Sublist.append (List.Sublist.refl _) (List.sublist_cons_self _ _)
      have wo := w.wf one inO
      have w' : Spans A B (ap ++ l) := ⟨fun s hs => w.wf s (sub.subset hs), fun s hs => w.lo s (sub.subset hs), fun s hs => w.hi s (sub.subset hs)⟩
      have so : ∀ a ∈ ap, SepP a one := fun a ha => by
        rw [List.pairwise_append] at pw
        exact pw.2.2 a ha one List.mem_cons_self
      obtain ⟨k1, k2, k3⟩ := join_inv l ap (min lo one.1) (max hi one.2) w' (by omega)
        (by rcases Int.le_total lo one.1 with z | z
            · rw [Int.min_eq_left z]; exact h2
            · rw [Int.min_eq_right z]; exact w.lo one inO)
        (by rcases Int.le_total hi one.2 with z | z
            · rw [Int.max_eq_right z]; exact w.hi one inO
            · rw [Int.max_eq_left z]; exact h3)
        (pw.sublist sub) (fun a ha => by
          have q1 := sp a ha
          have q2 := so a ha
          have q3 := w.wf a (List.mem_append_left _ ha)
          unfold SepP at q1 q2 ⊢
          dsimp only at q1 ⊢
          omega)
      refine ⟨k1, k2, fun x => ?_⟩
      rw [k3, cov_cons]
      constructor
      · rintro (z | z | z)
        · exact .inl z
        · by_cases y : lo ≤ x ∧ x ≤ hi
          · exact .inr (.inl y)
          · exact .inr (.inr (.inl (by omega)))
        · exact .inr (.inr (.inr z))
      · rintro (z | z | z | z)
        · exact .inl z
        · exact .inr (.inl (by omega))
        · exact .inr (.inl (by omega))
        · exact .inr (.inr z)
theorem joined {A B : Int → Prop} {l : List Sp2} {s : Sp2} (w : Spans A B l) (pw : l.Pairwise SepP) (h1 : s.1 ≤ s.2) (h2 : A s.1) (h3 : B s.2) : Spans A B (joinR l s) ∧ (joinR l s).Pairwise SepP ∧ ∀ x, Cov (joinR l s) x ↔ (s.1 ≤ x ∧ x ≤ s.2) ∨ Cov l x := by
  obtain ⟨k1, k2, k3⟩ := join_inv (A := A) (B := B) l [] s.1 s.2 w h1 h2 h3 pw (fun _ h => nomatch h)
  refine ⟨k1, k2, fun x => ?_⟩
  have := k3 x
  unfold joinR joinAcc
  rw [this]
  constructor
  · rintro (z | z)
    · exact absurd z cov_nil
    · exact z
  · exact .inr
theorem not_held {l : List Sp2} {s : Sp2} (wf : ∀ s ∈ l, s.1 ≤ s.2) (pw : l.Pairwise SepP) (h1 : s.1 ≤ s.2) (h : holdsR l s = false) : ∃ x, s.1 ≤ x ∧ x ≤ s.2 ∧ ¬ Cov l x ∧ (x = s.1 ∨ ∃ o ∈ l, x = o.2 + 1) := by
  by_cases c : Cov l s.1
  · obtain ⟨o, ho, k1, k2⟩ := c
    have k3 : o.2 < s.2 := by
      have := List.any_eq_false.mp h o ho
      simp only [Bool.and_eq_true, decide_eq_true_eq, not_and] at this
      have := this k1
      omega
    refine ⟨o.2 + 1, by omega, by omega, ?_, .inr ⟨o, ho, rfl⟩⟩
    rintro ⟨q, hq, k4, k5⟩
    have hne : o ≠ q := fun z => by rw [← z] at k5; omega
    have sep : SepP o q := by
      have key : ∀ {l : List Sp2}, l.Pairwise SepP → ∀ a ∈ l, ∀ b ∈ l, a ≠ b → SepP a b := by
        intro l
        induction l with
        | nil => intro _ a h; cases h
        | cons y l ih =>
          intro pw a ha b hb n
          rw [List.pairwise_cons] at pw
          rcases List.mem_cons.mp ha with e1 | ha
          · rcases List.mem_cons.mp hb with e2 | hb
            · exact absurd (e1.trans e2.symm) n
            · rw [e1]; exact pw.1 b hb
          · rcases List.mem_cons.mp hb with e2 | hb
            · rw [e2]; exact (pw.1 a ha).symm
            · exact ih pw.2 a ha b hb n
      exact key pw o ho q hq hne
    have := wf o ho
    have := wf q hq
    unfold SepP at sep
    omega
  · exact ⟨s.1, Int.le_refl _, h1, c, .inl rfl⟩
/-! ### what lies ahead -/
theorem mem_ahead {p most : Int} {rows : List Rw} {r : Nat} {s : Sp2} {g : Nat × Sp2} : g ∈ aheadR p rows most r s ↔ (∃ x, rows[g.1]? = some x ∧ g ∈ ahead1 p most r s (x, g.1)) ∧ g.2.1 ≤ g.2.2 := by
  unfold aheadR
  rw [List.mem_filter, decide_eq_true_eq]
  have fst : ∀ {x : Rw × Nat}, g ∈ ahead1 p most r s x → g.1 = x.2 := fun {x} h => by
    unfold ahead1 a1 a2 a3 at h
    rcases x with ⟨x, k⟩
    cases x with
    | mesh c u o => dsimp only at h ⊢; by_cases h1 : u = r <;> by_cases h2 : o = r <;> simp [h1, h2] at h <;> (try (rcases h with h | h)) <;> (try rw [h]) <;> (try rfl)
    | crush t => dsimp only at h ⊢; by_cases h1 : t = r <;> simp [h1] at h; rw [h]
    | bin b => simp at h
  constructor
  · rintro ⟨h, k⟩
    obtain ⟨x, hx, hg⟩ := List.mem_flatMap.mp h
    have e := fst hg
    refine ⟨⟨x.1, ?_, ?_⟩, k⟩
    · rw [e]
      have := List.mem_zipIdx_iff_getElem?.mp hx
      exact this
    · rw [e]; exact hg
  · rintro ⟨⟨x, hx, hg⟩, k⟩
    exact ⟨List.mem_flatMap.mpr ⟨(x, g.1), List.mem_zipIdx_iff_getElem?.mpr hx, hg⟩, k⟩
section
variable {p most : Int} {rows : List Rw} {r : Nat} {s : Sp2}
/-- all sizes of a span ahead send a piece into the span -/
theorem ahead_sound (p1 : 2 ≤ p) (p2 : p ≤ 9) (s1 : 1 ≤ s.1) (s2 : s.1 ≤ s.2) {g : Nat × Sp2} (h : g ∈ aheadR p rows most r s) {y : Int} (h1 : g.2.1 ≤ y) (h2 : y ≤ g.2.2) : ∃ row, rows[g.1]? = some row ∧ ∃ q ∈ goesR p row y, q.1 = r ∧ s.1 ≤ q.2.1 ∧ q.2.1 ≤ s.2 := by
  obtain ⟨⟨x, hx, hg⟩, _⟩ := mem_ahead.mp h
  refine ⟨x, hx, ?_⟩
  rcases g with ⟨k, l, hh⟩
  dsimp only at h1 h2 hg
  unfold ahead1 at hg
  rcases List.mem_append.mp hg with hg | hg
  · rcases List.mem_append.mp hg with hg | hg
    · unfold a1 at hg
      cases x with
      | crush t => cases hg
      | bin b => cases hg
      | mesh c u o =>
        dsimp only at hg
        by_cases e : u = r
        · simp [e] at hg
          obtain ⟨e1, e2⟩ := hg
          refine ⟨(u, y, 1), ?_, e, by dsimp only; omega, by dsimp only; omega⟩
          show _ ∈ (if y ≤ c then [(u, y, 1)] else [(o, y, 1)])
          rw [if_pos (by omega)]; exact List.mem_singleton.mpr rfl
        · simp [e] at hg
    · unfold a2 at hg
      cases x with
      | crush t => cases hg
      | bin b => cases hg
      | mesh c u o =>
        dsimp only at hg
        by_cases e : o = r
        · simp [e] at hg
          obtain ⟨e1, e2⟩ := hg
          refine ⟨(o, y, 1), ?_, e, by dsimp only; omega, by dsimp only; omega⟩
          show _ ∈ (if y ≤ c then [(u, y, 1)] else [(o, y, 1)])
          rw [if_neg (by omega)]; exact List.mem_singleton.mpr rfl
        · simp [e] at hg
  · unfold a3 at hg
    cases x with
    | mesh c u o => cases hg
    | bin b => cases hg
    | crush t =>
      dsimp only at hg
      by_cases e : t = r
      · simp [e] at hg
        obtain ⟨e1, e2⟩ := hg
        have d1 := Int.mul_ediv_add_emod y p
        have d2 := Int.emod_nonneg y (show p ≠ 0 by omega)
        have d3 := Int.emod_lt_of_pos y (show 0 < p by omega)
        have hp : (p * (s.1 - 1)) = p * s.1 - p := by rw [Int.mul_sub]; omega
        by_cases a : s.1 ≤ y / p
        · -- the whole part
          have u : y / p ≤ s.2 := by
            have : p * (y / p) ≤ p * s.2 + p - 1 := by omega
            have h3 : p * (y / p) < p * (s.2 + 1) := by rw [Int.mul_add]; omega
            have := Int.lt_of_mul_lt_mul_left h3 (by omega)
            omega
          have pos : 0 < (y / p) * (p - y % p) := Int.mul_pos (by omega) (by omega)
          refine ⟨(t, y / p, p - y % p), ?_, e, a, u⟩
          show _ ∈ (pieces y p).map _
          refine List.mem_map.mpr ⟨(y / p, p - y % p), List.mem_filter.mpr ⟨List.mem_cons_self, decide_eq_true pos⟩, rfl⟩
        · -- one greater
          have u : s.1 - 1 ≤ y / p := by
            have h3 : p * (s.1 - 1) < p * (y / p + 1) := by rw [Int.mul_add]; omega
            have := Int.lt_of_mul_lt_mul_left h3 (by omega)
            omega
          have eq : y / p = s.1 - 1 := by omega
          have m : 0 < y % p := by rw [eq] at d1; omega
          have pos : 0 < (y / p + 1) * (y % p) := Int.mul_pos (by omega) m
          refine ⟨(t, y / p + 1, y % p), ?_, e, by dsimp only; omega, by dsimp only; omega⟩
          show _ ∈ (pieces y p).map _
          refine List.mem_map.mpr ⟨(y / p + 1, y % p), List.mem_filter.mpr ⟨List.mem_cons_of_mem _ List.mem_cons_self, decide_eq_true pos⟩, rfl⟩
      · simp [e] at hg
theorem ahead_all (p1 : 2 ≤ p) (p2 : p ≤ 9) {k : Nat} {row : Rw} (hk : rows[k]? = some row) {y : Int} (y1 : 1 ≤ y) (y2 : y ≤ most) {q : Nat × Int × Int} (hq : q ∈ goesR p row y) (e : q.1 = r) (h1 : s.1 ≤ q.2.1) (h2 : q.2.1 ≤ s.2) : ∃ g ∈ aheadR p rows most r s, g.1 = k ∧ g.2.1 ≤ y ∧ y ≤ g.2.2 := by
  cases row with
  | bin b => cases hq
  | mesh c u o =>
    have hq' : q ∈ (if y ≤ c then [(u, y, 1)] else [(o, y, 1)]) := hq
    by_cases z : y ≤ c
    · rw [if_pos z] at hq'
      have := List.mem_singleton.mp hq'
      subst this
      refine ⟨(k, (s.1, min s.2 c)), mem_ahead.mpr ⟨⟨_, hk, ?_⟩, ?_⟩, rfl, h1, ?_⟩
      · unfold ahead1
        refine List.mem_append_left _ (List.mem_append_left _ ?_)
        unfold a1
        dsimp only at e ⊢
        simp [e]
      · dsimp only at h1 h2 ⊢; omega
      · dsimp only at h1 h2 ⊢; omega
    · rw [if_neg z] at hq'
      have := List.mem_singleton.mp hq'
      subst this
      refine ⟨(k, (max s.1 (c + 1), s.2)), mem_ahead.mpr ⟨⟨_, hk, ?_⟩, ?_⟩, rfl, ?_, h2⟩
      · unfold ahead1
        refine List.mem_append_left _ (List.mem_append_right _ ?_)
        unfold a2
        dsimp only at e ⊢
        simp [e]
      · dsimp only at h1 h2 ⊢; omega
      · dsimp only at h1 h2 ⊢; omega
  | crush t =>
    obtain ⟨pc, hpc, rfl⟩ := List.mem_map.mp (show q ∈ (pieces y p).map _ from hq)
    have d1 := Int.mul_ediv_add_emod y p
    have d2 := Int.emod_nonneg y (show p ≠ 0 by omega)
    have d3 := Int.emod_lt_of_pos y (show 0 < p by omega)
    dsimp only at e h1 h2
    have key : p * (s.1 - 1) + 1 ≤ y ∧ y ≤ p * s.2 + p - 1 := by
      have hp : (p * (s.1 - 1)) = p * s.1 - p := by rw [Int.mul_sub]; omega
      obtain ⟨m1, m2⟩ := List.mem_filter.mp hpc
      have m2 := of_decide_eq_true m2
      rcases List.mem_cons.mp m1 with rfl | m1
      · dsimp only at h1 h2
        have q1 : p * s.1 ≤ p * (y / p) := Int.mul_le_mul_of_nonneg_left h1 (by omega)
        have q2 : p * (y / p) ≤ p * s.2 := Int.mul_le_mul_of_nonneg_left h2 (by omega)
        omega
      · obtain rfl := List.mem_singleton.mp m1
        dsimp only at h1 h2 m2
        have hm : 0 < y % p := by
          rcases Int.lt_or_le 0 (y % p) with z | z
          · exact z
          · have : y % p = 0 := by omega
            rw [this, Int.mul_zero] at m2; omega
        have q1 : p * (s.1 - 1) ≤ p * (y / p) := Int.mul_le_mul_of_nonneg_left (by omega) (by omega)
        have q2 : p * (y / p) ≤ p * (s.2 - 1) := Int.mul_le_mul_of_nonneg_left (by omega) (by omega)
        have q3 : p * (s.2 - 1) = p * s.2 - p := by rw [Int.mul_sub]; omega
        omega
    refine ⟨(k, (p * (s.1 - 1) + 1, min most (p * s.2 + p - 1))), mem_ahead.mpr ⟨⟨_, hk, ?_⟩, ?_⟩, rfl, key.1, ?_⟩
    · unfold ahead1
      refine List.mem_append_right _ ?_
      unfold a3
      simp [e]
    · dsimp only; omega
    · dsimp only; omega
end
end MW

/-! PL2 -/
set_option Elab.async false
set_option linter.all false
set_option maxRecDepth 100000
set_option maxHeartbeats 400000
namespace MW
open PySem PySem.Spec L2
/-! ### the search backwards -/
inductive Reach (p : Int) (rows : List Rw) (k : Nat) : Nat → Int → Prop
  | here (s : Int) : Reach p rows k k s
  | step {r : Nat} {row : Rw} {s : Int} {g : Nat × Int × Int} (hr : rows[r]? = some row) (hg : g ∈ goesR p row s) (h : Reach p rows k g.1 g.2.1) : Reach p rows k r s
section
variable (p most : Int) (rows : List Rw) (k : Nat)
def EL (x : Int) : Prop := 1 ≤ x ∧ (x = 1 ∨ ∃ c ∈ opens rows, ∃ j : Nat, x = c * p ^ j + 1)
def EH (x : Int) : Prop := x ≤ most ∧ (x = most ∨ ∃ c ∈ opens rows, ∃ j : Nat, x + 1 = (c + 1) * p ^ j)
abbrev LS := List (List Sp2) × List (Nat × Sp2)
def InL (line : List (Nat × Sp2)) (r : Nat) (y : Int) : Prop := ∃ g ∈ line, g.1 = r ∧ g.2.1 ≤ y ∧ y ≤ g.2.2
def Has (S : LS) (r : Nat) (y : Int) : Prop := (∃ l, S.1[r]? = some l ∧ Cov l y) ∨ InL S.2 r y
structure SOk (S : LS) : Prop where
  len : S.1.length = rows.length
  sp : ∀ l ∈ S.1, Spans (EL p rows) (EH p most rows) l ∧ l.Pairwise SepP
  ln : ∀ g ∈ S.2, g.1 < rows.length ∧ g.2.1 ≤ g.2.2 ∧ EL p rows g.2.1 ∧ EH p most rows g.2.2
  snd : ∀ r l x, S.1[r]? = some l → Cov l x → Reach p rows k r x
  lnd : ∀ r x, InL S.2 r x → Reach p rows k r x
  st : ∀ x, 1 ≤ x → x ≤ most → Has S k x
  cl : ∀ r l x, S.1[r]? = some l → Cov l x → ∀ r' row y (q : Nat × Int × Int), rows[r']? = some row → 1 ≤ y → y ≤ most → q ∈ goesR p row y → q.1 = r → q.2.1 = x → Has S r' y
end
section
variable {p most : Int} {rows : List Rw} {k : Nat}
theorem ahead_ends (p1 : 2 ≤ p) (p2 : p ≤ 9) (ok : RowsOk rows) {r : Nat} {s : Sp2} (hs : s.1 ≤ s.2) (h1 : EL p rows s.1) (h2 : EH p most rows s.2) {g : Nat × Sp2} (h : g ∈ aheadR p rows most r s) : g.1 < rows.length ∧ g.2.1 ≤ g.2.2 ∧ EL p rows g.2.1 ∧ EH p most rows g.2.2 := by
  obtain ⟨⟨x, hx, hg⟩, hle⟩ := mem_ahead.mp h
  have hm := List.mem_of_getElem? hx
  refine ⟨(List.getElem?_eq_some_iff.mp hx).1, hle, ?_⟩
  rcases g with ⟨m, l, hh⟩
  dsimp only at hg hle ⊢
  obtain ⟨l1, l2⟩ := h1
  obtain ⟨u1, u2⟩ := h2
  unfold ahead1 at hg
  rcases List.mem_append.mp hg with hg | hg
  · rcases List.mem_append.mp hg with hg | hg
    · unfold a1 at hg
      cases x with
      | crush t => cases hg
      | bin b => cases hg
      | mesh c u o =>
        dsimp only at hg
        by_cases e : u = r
        · simp [e] at hg
          obtain ⟨e1, e2⟩ := hg
          subst e1 e2
          refine ⟨⟨l1, l2⟩, by omega, ?_⟩
          rcases Int.le_total s.2 c with z | z
          · rw [Int.min_eq_left z]; exact u2
          · rw [Int.min_eq_right z]; exact .inr ⟨c, opens_mem.mpr ⟨_, _, hm⟩, 0, by simp⟩
        · simp [e] at hg
    · unfold a2 at hg
      cases x with
      | crush t => cases hg
      | bin b => cases hg
      | mesh c u o =>
        dsimp only at hg
        by_cases e : o = r
        · simp [e] at hg
          obtain ⟨e1, e2⟩ := hg
          subst e1 e2
          refine ⟨⟨by omega, ?_⟩, u1, u2⟩
          rcases Int.le_total s.1 (c + 1) with z | z
          · rw [Int.max_eq_right z]; exact .inr ⟨c, opens_mem.mpr ⟨_, _, hm⟩, 0, by simp⟩
          · rw [Int.max_eq_left z]; exact l2
        · simp [e] at hg
  · unfold a3 at hg
    cases x with
    | mesh c u o => cases hg
    | bin b => cases hg
    | crush t =>
      dsimp only at hg
      by_cases e : t = r
      · simp [e] at hg
        obtain ⟨e1, e2⟩ := hg
        subst e1 e2
        have hnn : 0 ≤ p * (s.1 - 1) := Int.mul_nonneg (by omega) (by omega)
        refine ⟨⟨by omega, ?_⟩, by omega, ?_⟩
        · rcases l2 with z | ⟨c, hc, j, z⟩
          · left; rw [z]; simp
          · right
            refine ⟨c, hc, j + 1, ?_⟩
            rw [z, Int.pow_succ]
            have : p * (c * p ^ j + 1 - 1) = c * (p ^ j * p) := by rw [Int.add_sub_cancel, Int.mul_comm p, Int.mul_assoc]
            omega
        · rcases u2 with z | ⟨c, hc, j, z⟩
          · left
            rw [z]
            have : most ≤ p * most + p - 1 := by
              have h0 : 1 ≤ most := by omega
              have : 1 * most ≤ p * most := Int.mul_le_mul_of_nonneg_right (by omega) (by omega)
              omega
            omega
          · rcases Int.le_total most (p * s.2 + p - 1) with y | y
            · left; omega
            · right
              refine ⟨c, hc, j + 1, ?_⟩
              rw [Int.min_eq_right y, Int.pow_succ]
              have : p * (s.2 + 1) = (c + 1) * (p ^ j * p) := by rw [z, Int.mul_comm p, Int.mul_assoc]
              rw [Int.mul_add] at this
              omega
      · simp [e] at hg
/-- the points at which spans may begin anew -/
def repsR (p : Int) (rows : List Rw) : List Int := 1 :: (opens rows).flatMap fun c => (List.range 300).flatMap fun j => [c * p ^ j + 1, (c + 1) * p ^ j]
theorem two_pow_le (p1 : 2 ≤ p) : ∀ j : Nat, (2 : Int) ^ j ≤ p ^ j
  | 0 => by simp
  | j + 1 => by
    rw [Int.pow_succ, Int.pow_succ]
    have h1 := two_pow_le p1 j
    have h2 : (0 : Int) ≤ 2 ^ j := Int.le_of_lt (Int.pow_pos (by decide))
    have h3 : (2 : Int) ^ j * 2 ≤ p ^ j * 2 := Int.mul_le_mul_of_nonneg_right h1 (by decide)
    have h4 : p ^ j * 2 ≤ p ^ j * p := Int.mul_le_mul_of_nonneg_left p1 (by omega)
    omega
theorem pow_small (p1 : 2 ≤ p) (hm : most < 2 ^ 300) {j : Nat} (h : p ^ j ≤ most) : j < 300 := by
  rcases Nat.lt_or_ge j 300 with z | z
  · exact z
  · exfalso
    have h1 := two_pow_le p1 j
    have h2 : (2 : Int) ^ 300 ≤ 2 ^ j := by
      obtain ⟨i, rfl⟩ := Nat.exists_eq_add_of_le z
      rw [Int.pow_add]
      have h30 : (0 : Int) < 2 ^ i := Int.pow_pos (by decide)
      have h3 : (1 : Int) ≤ 2 ^ i := by omega
      have h4 : (2 : Int) ^ 300 * 1 ≤ 2 ^ 300 * 2 ^ i := Int.mul_le_mul_of_nonneg_left h3 (Int.le_of_lt (Int.pow_pos (by decide)))
      rw [Int.mul_one] at h4
      exact h4
    omega
theorem opens_pos (ok : RowsOk rows) {c : Int} (h : c ∈ opens rows) : 1 ≤ c := by
  obtain ⟨u, o, hx⟩ := opens_mem.mp h
  exact (ok _ hx).1
theorem reps_lo (p1 : 2 ≤ p) (hm : most < 2 ^ 300) (ok : RowsOk rows) {x : Int} (h : EL p rows x) (hx : x ≤ most) : x ∈ repsR p rows := by
  rcases h.2 with z | ⟨c, hc, j, z⟩
  · rw [z]; exact List.mem_cons_self
  · have c1 := opens_pos ok hc
    have pp : (0 : Int) < p ^ j := Int.pow_pos (by omega)
    have : 1 * p ^ j ≤ c * p ^ j := Int.mul_le_mul_of_nonneg_right c1 (by omega)
    have hj := pow_small p1 hm (j := j) (by omega)
    exact List.mem_cons_of_mem _ (List.mem_flatMap.mpr ⟨c, hc, List.mem_flatMap.mpr ⟨j, List.mem_range.mpr hj, by rw [z]; exact List.mem_cons_self⟩⟩)
theorem reps_hi (p1 : 2 ≤ p) (hm : most < 2 ^ 300) (ok : RowsOk rows) {x : Int} (h : EH p most rows x) (hx : x + 1 ≤ most) : x + 1 ∈ repsR p rows := by
  rcases h.2 with z | ⟨c, hc, j, z⟩
  · omega
  · have c1 := opens_pos ok hc
    have pp : (0 : Int) < p ^ j := Int.pow_pos (by omega)
    have : 1 * p ^ j ≤ (c + 1) * p ^ j := Int.mul_le_mul_of_nonneg_right (by omega) (by omega)
    have hj := pow_small p1 hm (j := j) (by omega)
    exact List.mem_cons_of_mem _ (List.mem_flatMap.mpr ⟨c, hc, List.mem_flatMap.mpr ⟨j, List.mem_range.mpr hj, by rw [z]; exact List.mem_cons_of_mem _ List.mem_cons_self⟩⟩)
theorem reps_len : (repsR p rows).length ≤ 1 + 600 * (opens rows).length := by
  unfold repsR
  rw [List.length_cons]
  have := flat2 (n := 600) (f := fun c : Int => (List.range 300).flatMap fun j => [c * p ^ j + 1, (c + 1) * p ^ j]) (fun c => by
    have := flat2 (n := 2) (f := fun j : Nat => [c * p ^ j + 1, (c + 1) * p ^ j]) (fun _ => Nat.le_refl _) (List.range 300)
    rw [List.length_range] at this
    exact this) (opens rows)
  omega
/-- points not yet covered -/
def covB (l : List Sp2) (x : Int) : Bool := l.any fun s => decide (s.1 ≤ x) && decide (x ≤ s.2)
theorem covB_iff {l : List Sp2} {x : Int} : covB l x = true ↔ Cov l x := by
  unfold covB
  rw [List.any_eq_true]
  constructor
  · rintro ⟨s, h, k⟩
    simp only [Bool.and_eq_true, decide_eq_true_eq] at k
    exact ⟨s, h, k⟩
  · rintro ⟨s, h, k⟩
    exact ⟨s, h, by simp only [Bool.and_eq_true, decide_eq_true_eq]; exact k⟩
theorem covB_no {l : List Sp2} {x : Int} (h : ¬ Cov l x) : covB l x = false := by
  cases e : covB l x with
  | false => rfl
  | true => exact absurd (covB_iff.mp e) h
def unc (R : List Int) (l : List Sp2) : Nat := (R.filter fun x => !covB l x).length
def mu (R : List Int) (S : LS) : Nat := S.2.length + 25 * (S.1.map (unc R)).sum
theorem filt_le {α : Type} {P Q : α → Bool} (h : ∀ x, Q x = true → P x = true) : ∀ R : List α, (R.filter Q).length ≤ (R.filter P).length
  | [] => Nat.le_refl _
  | x :: R => by
    have ih := filt_le h R
    rw [List.filter_cons, List.filter_cons]
    by_cases hq : Q x = true
    · rw [if_pos hq, if_pos (h x hq), List.length_cons, List.length_cons]; omega
    · rw [if_neg hq]
      by_cases hp : P x = true
      · rw [if_pos hp, List.length_cons]; omega
      · rw [if_neg hp]; exact ih
theorem filt_lt {α : Type} {P Q : α → Bool} (h : ∀ x, Q x = true → P x = true) {y : α} : ∀ {R : List α}, y ∈ R → P y = true → Q y = false → (R.filter Q).length < (R.filter P).length
  | x :: R, hm, hp, hq => by
    rw [List.filter_cons, List.filter_cons]
    have le := filt_le h R
    rcases List.mem_cons.mp hm with z | z
    · subst z
      rw [if_neg (by rw [hq]; simp), if_pos hp, List.length_cons]; omega
    · have ih := filt_lt h z hp hq
      by_cases a : Q x = true
      · rw [if_pos a, if_pos (h x a), List.length_cons, List.length_cons]; omega
      · rw [if_neg a]
        by_cases b : P x = true
        · rw [if_pos b, List.length_cons]; omega
        · rw [if_neg b]; exact ih
theorem unc_lt {R : List Int} {l l' : List Sp2} (h : ∀ x, Cov l x → Cov l' x) {y : Int} (hy : y ∈ R) (h1 : ¬ Cov l y) (h2 : Cov l' y) : unc R l' < unc R l := by
  unfold unc
  refine filt_lt (fun x hx => ?_) hy (by rw [covB_no h1]; rfl) (by rw [covB_iff.mpr h2]; rfl)
  cases e : covB l x with
  | false => rfl
  | true => rw [covB_iff.mpr (h x (covB_iff.mp e))] at hx; cases hx
theorem sum_set {α : Type} {f : α → Nat} {a b : α} : ∀ {l : List α} {i : Nat}, l[i]? = some a → f b < f a → ((l.set i b).map f).sum < (l.map f).sum
  | [], _, h, _ => by cases h
  | x :: l, 0, h, k => by
    cases h
    rw [List.set_cons_zero, List.map_cons, List.map_cons, List.sum_cons, List.sum_cons]; omega
  | x :: l, i + 1, h, k => by
    have ih := sum_set (f := f) (b := b) (l := l) (i := i) (by simpa using h) k
    rw [List.set_cons_succ, List.map_cons, List.map_cons, List.sum_cons, List.sum_cons]; omega
theorem cov_perm {l m : List Sp2} (h : l.Perm m) {x : Int} : Cov l x ↔ Cov m x :=
  ⟨fun ⟨s, hs, k⟩ => ⟨s, h.mem_iff.mp hs, k⟩, fun ⟨s, hs, k⟩ => ⟨s, h.mem_iff.mpr hs, k⟩⟩
theorem Spans.perm {A B : Int → Prop} {l m : List Sp2} (h : l.Perm m) (w : Spans A B l) : Spans A B m := ⟨fun s hs => w.wf s (h.mem_iff.mpr hs), fun s hs => w.lo s (h.mem_iff.mpr hs), fun s hs => w.hi s (h.mem_iff.mpr hs)⟩
theorem inl_app {a b : List (Nat × Sp2)} {r : Nat} {y : Int} : InL (a ++ b) r y ↔ InL a r y ∨ InL b r y := by
  constructor
  · rintro ⟨g, h, k⟩
    rcases List.mem_append.mp h with z | z
    · exact .inl ⟨g, z, k⟩
    · exact .inr ⟨g, z, k⟩
  · rintro (⟨g, h, k⟩ | ⟨g, h, k⟩)
    · exact ⟨g, List.mem_append_left _ h, k⟩
    · exact ⟨g, List.mem_append_right _ h, k⟩
theorem SOk.held {sps : List (List Sp2)} {line : List (Nat × Sp2)} {g : Nat × Sp2} {l : List Sp2} (o : SOk p most rows k (sps, line ++ [g])) (hl : sps[g.1]? = some l) (hh : holdsR l g.2 = true) : SOk p most rows k (sps, line) := by
  have up : ∀ r y, Has (sps, line ++ [g]) r y → Has (sps, line) r y := fun r y h => by
    rcases h with z | z
    · exact .inl z
    · rcases inl_app.mp z with z | ⟨g', h', e1, e2, e3⟩
      · exact .inr z
      · rw [List.mem_singleton.mp h'] at e1 e2 e3
        obtain ⟨one, ho, hb⟩ := List.any_eq_true.mp hh
        simp only [Bool.and_eq_true, decide_eq_true_eq] at hb
        exact .inl ⟨l, by rw [← e1]; exact hl, one, ho, by omega, by omega⟩
  exact ⟨o.len, o.sp, fun g' h' => o.ln g' (List.mem_append_left _ h'), o.snd, fun r x h => o.lnd r x (inl_app.mpr (.inl h)), fun x h1 h2 => up _ _ (o.st x h1 h2), fun r l x h1 h2 r' row y q h3 h4 h5 h6 h7 h8 => up _ _ (o.cl r l x h1 h2 r' row y q h3 h4 h5 h6 h7 h8)⟩
theorem SOk.grown (p1 : 2 ≤ p) (p2 : p ≤ 9) (ok : RowsOk rows) {sps : List (List Sp2)} {line : List (Nat × Sp2)} {g : Nat × Sp2} {l l' : List Sp2} (o : SOk p most rows k (sps, line ++ [g])) (hl : sps[g.1]? = some l) (hp : l'.Perm (joinR l g.2)) :
    SOk p most rows k (sps.set g.1 l', line ++ aheadR p rows most g.1 g.2) := by
  have hg := o.ln g (List.mem_append_right _ (List.mem_singleton.mpr rfl))
  obtain ⟨g1, g2, g3, g4⟩ := hg
  have hlm := o.sp l (List.mem_of_getElem? hl)
  obtain ⟨j1, j2, j3⟩ := joined hlm.1 hlm.2 g2 g3 g4
  have cv : ∀ x, Cov l' x ↔ (g.2.1 ≤ x ∧ x ≤ g.2.2) ∨ Cov l x := fun x => (cov_perm hp).trans (j3 x)
  have gi : g.1 < sps.length := (List.getElem?_eq_some_iff.mp hl).1
  have at' : ∀ r m, (sps.set g.1 l')[r]? = some m → (r = g.1 ∧ m = l') ∨ (r ≠ g.1 ∧ sps[r]? = some m) := fun r m h => by
    by_cases e : g.1 = r
    · subst e
      rw [List.getElem?_set_self gi] at h
      exact .inl ⟨rfl, (Option.some.inj h).symm⟩
    · rw [List.getElem?_set_ne e] at h
      exact .inr ⟨fun z => e z.symm, h⟩
  have hasC : ∀ r m x, sps[r]? = some m → Cov m x → Has (sps.set g.1 l', line ++ aheadR p rows most g.1 g.2) r x := fun r m x h c => by
    by_cases e : g.1 = r
    · subst e
      rw [hl] at h
      cases h
      exact .inl ⟨l', List.getElem?_set_self gi, (cv x).mpr (.inr c)⟩
    · exact .inl ⟨m, by rw [List.getElem?_set_ne e]; exact h, c⟩
  have up : ∀ r y, Has (sps, line ++ [g]) r y → Has (sps.set g.1 l', line ++ aheadR p rows most g.1 g.2) r y := fun r y h => by
    rcases h with ⟨m, z1, z2⟩ | z
    · exact hasC r m y z1 z2
    · rcases inl_app.mp z with z | ⟨g', h', e1, e2, e3⟩
      · exact .inr (inl_app.mpr (.inl z))
      · rw [List.mem_singleton.mp h'] at e1 e2 e3
        refine .inl ⟨l', ?_, (cv y).mpr (.inl ⟨e2, e3⟩)⟩
        rw [← e1]; exact List.getElem?_set_self gi
  have gR : ∀ x, g.2.1 ≤ x → x ≤ g.2.2 → Reach p rows k g.1 x := fun x h1 h2 => o.lnd g.1 x (inl_app.mpr (.inr ⟨g, List.mem_singleton.mpr rfl, rfl, h1, h2⟩))
  refine ⟨by show (sps.set g.1 l').length = _; rw [List.length_set]; exact o.len, fun m hm => ?_, fun g' h' => ?_, fun r m x h c => ?_, fun r x h => ?_, fun x h1 h2 => up _ _ (o.st x h1 h2), fun r m x h c r' row y q h3 h4 h5 h6 h7 h8 => ?_⟩
  · rcases List.mem_or_eq_of_mem_set hm with z | z
    · exact o.sp m z
    · rw [z]
      exact ⟨j1.perm hp.symm, (hp.pairwise_iff fun h => SepP.symm h).mpr j2⟩
  · rcases List.mem_append.mp h' with z | z
    · exact o.ln g' (List.mem_append_left _ z)
    · exact ahead_ends p1 p2 ok g2 g3 g4 z
  · rcases at' r m h with ⟨z1, z2⟩ | ⟨_, z⟩
    · subst z1 z2
      rcases (cv x).mp c with ⟨y1, y2⟩ | y
      · exact gR x y1 y2
      · exact o.snd _ l x hl y
    · exact o.snd r m x z c
  · rcases inl_app.mp h with z | ⟨g', h', e1, e2, e3⟩
    · exact o.lnd r x (inl_app.mpr (.inl z))
    · obtain ⟨row, w1, q, w2, w3, w4, w5⟩ := ahead_sound p1 p2 g3.1 g2 h' e2 e3
      rw [← e1]
      refine .step w1 w2 ?_
      rw [w3]
      exact gR _ w4 w5
  · rcases at' r m h with ⟨z1, z2⟩ | ⟨_, z⟩
    · subst z1 z2
      rcases (cv x).mp c with ⟨y1, y2⟩ | y1
      · obtain ⟨g', w1, w2, w3, w4⟩ := ahead_all (s := g.2) (most := most) p1 p2 h3 h4 h5 h6 h7 (by omega) (by omega)
        exact .inr (inl_app.mpr (.inr ⟨g', w1, w2, w3, w4⟩))
      · exact up _ _ (o.cl _ l x hl y1 r' row y q h3 h4 h5 h6 h7 h8)
    · exact up _ _ (o.cl r m x z c r' row y q h3 h4 h5 h6 h7 h8)
theorem SOk.less (p1 : 2 ≤ p) (hm : most < 2 ^ 300) (ok : RowsOk rows) (hr : rows.length ≤ 12) {sps : List (List Sp2)} {line : List (Nat × Sp2)} {g : Nat × Sp2} {l l' : List Sp2} (o : SOk p most rows k (sps, line ++ [g])) (hl : sps[g.1]? = some l) (hh : holdsR l g.2 = false) (hp : l'.Perm (joinR l g.2)) :
    mu (repsR p rows) (sps.set g.1 l', line ++ aheadR p rows most g.1 g.2) < mu (repsR p rows) (sps, line ++ [g]) := by
  obtain ⟨g1, g2, g3, g4⟩ := o.ln g (List.mem_append_right _ (List.mem_singleton.mpr rfl))
  have hlm := o.sp l (List.mem_of_getElem? hl)
  obtain ⟨j1, j2, j3⟩ := joined hlm.1 hlm.2 g2 g3 g4
  have cv : ∀ x, Cov l' x ↔ (g.2.1 ≤ x ∧ x ≤ g.2.2) ∨ Cov l x := fun x => (cov_perm hp).trans (j3 x)
  obtain ⟨x, x1, x2, x3, x4⟩ := not_held hlm.1.wf hlm.2 g2 hh
  have gm := g4.1
  have hx : x ∈ repsR p rows := by
    rcases x4 with z | ⟨q, hq, z⟩
    · rw [z]; exact reps_lo p1 hm ok g3 (by omega)
    · rw [z]; exact reps_hi p1 hm ok (hlm.1.hi q hq) (by omega)
  have lt := sum_set (f := unc (repsR p rows)) hl (unc_lt (R := repsR p rows) (fun y hy => (cv y).mpr (.inr hy)) hx x3 ((cv x).mpr (.inl ⟨x1, x2⟩)))
  have al := aheadR_len p rows most g.1 g.2
  unfold mu
  dsimp only
  rw [List.length_append, List.length_append, List.length_singleton]
  omega
theorem SOk.done {sps : List (List Sp2)} (o : SOk p most rows k (sps, [])) (p1 : 2 ≤ p) (p2 : p ≤ 9) : ∀ {r : Nat} {x : Int}, Reach p rows k r x → 1 ≤ x → x ≤ most → ∃ l, sps[r]? = some l ∧ Cov l x := by
  have fin : ∀ r y, Has (sps, []) r y → ∃ l, sps[r]? = some l ∧ Cov l y := fun r y h => by
    rcases h with z | ⟨_, z, _⟩
    · exact z
    · cases z
  intro r x h
  induction h with
  | here s => exact fun h1 h2 => fin _ _ (o.st s h1 h2)
  | @step r row s g hr hg h ih =>
    intro h1 h2
    have hb : 1 ≤ g.2.1 ∧ g.2.1 ≤ s := by
      cases row with
      | bin b => cases hg
      | mesh c u oo =>
        have hg' : g ∈ (if s ≤ c then [(u, s, 1)] else [(oo, s, 1)]) := hg
        split at hg' <;> (rw [List.mem_singleton.mp hg']; exact ⟨h1, Int.le_refl _⟩)
      | crush t =>
        obtain ⟨pc, hpc, rfl⟩ := List.mem_map.mp (show g ∈ (pieces s p).map _ from hg)
        dsimp only
        rcases pieces_cases h1 p1 p2 with ⟨_, z1, z2, z⟩ | ⟨z1, z2, z⟩ | ⟨z1, z2, z3, z4, z⟩
        · rw [z] at hpc; rw [List.mem_singleton.mp hpc]; dsimp only; omega
        · rw [z] at hpc; rw [List.mem_singleton.mp hpc]; dsimp only; omega
        · rw [z] at hpc
          rcases List.mem_cons.mp hpc with y | y
          · rw [y]; dsimp only; omega
          · rw [List.mem_singleton.mp y]; dsimp only; omega
    obtain ⟨l, hl, hc⟩ := ih hb.1 (by omega)
    exact fin _ _ (o.cl g.1 l g.2.1 hl hc r row s g hr h1 h2 hg rfl rfl)
end
end MW

/-! G13 -/
set_option Elab.async false
set_option linter.all false
set_option maxRecDepth 100000
set_option maxHeartbeats 400000
namespace MW
open PySem PySem.Spec L2

/-- sorted(pairs) -/
def prV (H : Hp) (x : V) : Int × Int := match x with
  | .ref t => match H t with
    | some (.tup [.int a, .int b]) => (a, b)
    | _ => (0, 0)
  | _ => (0, 0)
def PermP (l : List Sp2) : Pr := fun Hb v => ∃ m : List Sp2, m.Perm l ∧ Dv Hb (.list (m.map encP)) v
theorem mono_PermP {l : List Sp2} : Mono (PermP l) := fun _ _ _ s ⟨m, h, k⟩ => ⟨m, h, Dv.mono s _ _ k⟩
theorem enc_all {Hb : Hp} : ∀ {l : List Sp2} {xs : List V}, DvAll Hb (l.map encP) xs → xs.map (prV Hb) = l ∧ ∀ x ∈ xs, ∃ t, x = V.ref t ∧ Hb t = some (.tup [.int (prV Hb x).1, .int (prV Hb x).2])
  | [], xs, h => by
    obtain rfl := show xs = [] from h
    exact ⟨rfl, fun _ h => nomatch h⟩
  | s :: l, xs, h => by
    obtain ⟨v, r, rfl, ⟨t, us, rfl, ht, v1, r1, rfl, h1, v2, r2, rfl, h2, h3⟩, hr⟩ := h
    obtain rfl := show v1 = V.int s.1 from h1
    obtain rfl := show v2 = V.int s.2 from h2
    obtain rfl := show r2 = [] from h3
    obtain ⟨k1, k2⟩ := enc_all hr
    have e : prV Hb (.ref t) = s := by unfold prV; dsimp only; rw [ht]
    refine ⟨by rw [List.map_cons, k1, e], fun x hx => ?_⟩
    rcases List.mem_cons.mp hx with z | z
    · rw [z, e]; exact ⟨t, rfl, ht⟩
    · exact k2 x z
theorem all_enc {Hb : Hp} : ∀ {ys : List V}, (∀ x ∈ ys, ∃ t, x = V.ref t ∧ Hb t = some (.tup [.int (prV Hb x).1, .int (prV Hb x).2])) → DvAll Hb ((ys.map (prV Hb)).map encP) ys
  | [], _ => rfl
  | y :: ys, h => by
    obtain ⟨t, e, ht⟩ := h y List.mem_cons_self
    exact ⟨y, ys, rfl, ⟨t, _, e, ht, _, _, rfl, rfl, _, _, rfl, rfl, rfl⟩, all_enc fun x hx => h x (List.mem_cons_of_mem _ hx)⟩
theorem y_sortedPO {R : Res} {K : PySem.W.Frag} {G : Ctx} {ta : TE} {l : List Sp2} (ha : Y R ta G (D (.list (l.map encP)))) : Y R (tCB (rSortedPO K) (tCons ta tNil)) G (PermP l) := fun H0 Hb H σ E rr s Q q =>
  ha H0 Hb H σ E rr s _ fun v Hb2 H2 g p => by
    obtain ⟨a, xs, rfl, h1, r1⟩ := p
    obtain ⟨k1, k2⟩ := enc_all r1
    refine ⟨a, xs, prV Hb2, rfl, .inl (.inl (g.in_ _ _ h1)), fun x hx => ?_, fun ys p _ hs hp => ?_⟩
    · obtain ⟨t, e1, e2⟩ := k2 x hx
      exact ⟨t, e1, g.in_ _ _ e2⟩
    · have k3 := all_enc (Hb := Hb2) (ys := ys) fun x hx => k2 x (hs.perm.mem_iff.mp hx)
      refine q _ _ _ (g.trans (.new g.in_ hp)) ⟨ys.map (prV Hb2), ?_, p, ys, rfl, upd_same, DvAll.mono (same_upd (g.in_.free hp)) _ _ k3⟩
      have := hs.perm.map (prV Hb2)
      rw [k1] at this
      exact this
section
variable {P : Program} {w : World} {K : PySem.W.Frag} {mg : Str → Option Value} {base : Heap}
def sp_holds_span : Sp := fun vs H Q E => ∃ (l : List Sp2) (s : Sp2), (l.length ≤ 900000) ∧ spP [D (.list (l.map encP)), D (encP s)] (D (.bool (holdsR l s))) vs H Q E
theorem ok_holds_span (T : Tx K mg) : Cal P w K mg base 1 "holds_span" ["spans", "span"] sp_holds_span := by
  obtain ⟨fd, F⟩ := T.c.def_ 20 (d := d_holds_span) rfl
  refine ⟨_, fd, T.g_holds_span, F.kp, FunD.bindsN (ps := ["spans", "span"]) F fun _ _ _ _ _ _ us hl => match us, hl with | [_, _], _ => rfl, def_ok F sc_holds_span ?_ fun cdv A outer s H vs Q E hr h => ?_⟩
  · intro vs H Q E h
    obtain ⟨_, _, _, h⟩ := h
    exact h.len
  · obtain ⟨l, s, hl, Hb, sm, ha, k⟩ := h
    have c := start_cur (N := N_holds_span) (k := 1) sm ha (by repeat' (first | exact trivial | exact mono_D _ | exact mono_Ws | exact mono_Sc | refine ⟨?_, ?_⟩)) rfl
    refine ⟨_, (pss_one (ps_ret (pe_callB (kAny (K := K) rfl rfl) (by rfl) T.any bb_any (pa_cons (pe_lc (own := [("one", 2)]) (g := (gName 2)) rfl sc_holds_span.nd (pi_listK (K := K) rfl (pv 0)) (blkOk_by (own := [("one", 2)]) (N := N_holds_span) (sc := defScope s_holds_span) (by decide +kernel)) (fun _ _ _ _ _ => (pg_name (i := 2) sc_holds_span.nd rfl (Or.inl rfl))) (fun _ _ _ _ _ => pts_nil) (fun _ _ _ _ _ => (pe_and (pe_cmpR op_le (pe_ix (kxT (K := K) rfl) (pv 2) pe_int (fun _ _ => rfl)) (pe_ix (kxT (K := K) rfl) (pv 1) pe_int (fun _ _ => rfl)) (nomark _)) (pe_one (pe_cmpR op_le (pe_ix (kxT (K := K) rfl) (pv 1) pe_int (fun _ _ => rfl)) (pe_ix (kxT (K := K) rfl) (pv 2) pe_int (fun _ _ => rfl)) (nomark _)))))) pa_nil)))), ?_⟩
    refine z_ret c (y_is (y_any (bs := l.map fun one => decide (one.1 ≤ s.1) && decide (s.2 ≤ one.2)) (y_is (y_lcL (xs := l) (enc := encP) (e := fun one => .bool (decide (one.1 ≤ s.1) && decide (s.2 ≤ one.2))) (b := fun _ => true) (fun x => [.p (D (.list (l.map encP))), .p (D (encP s)), .p (D (encP x))]) (y_var rfl) (by omega) (fun x _ => yg_name) (fun x _ => yt_yes) (fun x _ _ => y_andV (y_B0 (by (repeat' (first | with_reducible exact y_int | with_reducible exact y_str | (with_reducible show Y _ (tVar _) _ _; exact y_var rfl) | (with_reducible refine' y_eq _ _ _) | (with_reducible refine' y_ixT _ _ _) | with_reducible refine' y_ixL _ _ _ | with_reducible exact ya_nilD | with_reducible exact y_bl | with_reducible exact y_non | with_reducible exact yo_none | with_reducible exact yt_yes | with_reducible refine' yt_test _ | with_reducible refine' yt_B _ | with_reducible refine' yt_not _ | with_reducible refine' yt_and _ (fun _ => _) | with_reducible refine' yt_or _ (fun _ => _) | with_reducible refine' y_I0 _ _ | with_reducible refine' y_B0 _ _ | with_reducible refine' y_IC _ _ _ | with_reducible refine' y_parts (by assumption) _ | with_reducible refine' y_rows (by assumption) _ | with_reducible refine' ya_consD _ _ | with_reducible refine' y_tup _ (by simp) | with_reducible refine' y_lst _ (by simp) | (with_reducible show Y _ (tCB (rLen _) _) _ _; first | exact y_lenOwn rfl | exact y_lenSc (y_var rfl)) | with_reducible refine' y_len _ _ | with_reducible refine' y_ne _ _ _ | with_reducible refine' y_chain _ _ _ | with_reducible refine' y_andV _ (fun _ => _) | with_reducible refine' y_orV _ (fun _ => _) | with_reducible refine' y_isN _ | with_reducible refine' y_notN _ | exact rfl | (show _ = _; assumption) | exact atI_nat (by assumption) | (show CPow _ _; exact ⟨by decide, by decide, by decide⟩) | (show (0 : Int) < _; first | decide | omega) | (show CDiv _ _; exact ⟨by first | decide | omega, by first | decide | omega⟩) | (show CMul _ _; first | exact .inl ⟨by omega, by omega⟩ | exact .inr ⟨by omega, by omega⟩) ))) (by (repeat' (first | with_reducible exact y_int | with_reducible exact y_str | (with_reducible show Y _ (tVar _) _ _; exact y_var rfl) | (with_reducible refine' y_eq _ _ _) | (with_reducible refine' y_ixT _ _ _) | with_reducible refine' y_ixL _ _ _ | with_reducible exact ya_nilD | with_reducible exact y_bl | with_reducible exact y_non | with_reducible exact yo_none | with_reducible exact yt_yes | with_reducible refine' yt_test _ | with_reducible refine' yt_B _ | with_reducible refine' yt_not _ | with_reducible refine' yt_and _ (fun _ => _) | with_reducible refine' yt_or _ (fun _ => _) | with_reducible refine' y_I0 _ _ | with_reducible refine' y_B0 _ _ | with_reducible refine' y_IC _ _ _ | with_reducible refine' y_parts (by assumption) _ | with_reducible refine' y_rows (by assumption) _ | with_reducible refine' ya_consD _ _ | with_reducible refine' y_tup _ (by simp) | with_reducible refine' y_lst _ (by simp) | (with_reducible show Y _ (tCB (rLen _) _) _ _; first | exact y_lenOwn rfl | exact y_lenSc (y_var rfl)) | with_reducible refine' y_len _ _ | with_reducible refine' y_ne _ _ _ | with_reducible refine' y_chain _ _ _ | with_reducible refine' y_andV _ (fun _ => _) | with_reducible refine' y_orV _ (fun _ => _) | with_reducible refine' y_isN _ | with_reducible refine' y_notN _ | exact rfl | (show _ = _; assumption) | exact atI_nat (by assumption) | (show CPow _ _; exact ⟨by decide, by decide, by decide⟩) | (show (0 : Int) < _; first | decide | omega) | (show CDiv _ _; exact ⟨by first | decide | omega, by first | decide | omega⟩) | (show CMul _ _; first | exact .inl ⟨by omega, by omega⟩ | exact .inr ⟨by omega, by omega⟩) )))) fun _ => y_B0 (by (repeat' (first | with_reducible exact y_int | with_reducible exact y_str | (with_reducible show Y _ (tVar _) _ _; exact y_var rfl) | (with_reducible refine' y_eq _ _ _) | (with_reducible refine' y_ixT _ _ _) | with_reducible refine' y_ixL _ _ _ | with_reducible exact ya_nilD | with_reducible exact y_bl | with_reducible exact y_non | with_reducible exact yo_none | with_reducible exact yt_yes | with_reducible refine' yt_test _ | with_reducible refine' yt_B _ | with_reducible refine' yt_not _ | with_reducible refine' yt_and _ (fun _ => _) | with_reducible refine' yt_or _ (fun _ => _) | with_reducible refine' y_I0 _ _ | with_reducible refine' y_B0 _ _ | with_reducible refine' y_IC _ _ _ | with_reducible refine' y_parts (by assumption) _ | with_reducible refine' y_rows (by assumption) _ | with_reducible refine' ya_consD _ _ | with_reducible refine' y_tup _ (by simp) | with_reducible refine' y_lst _ (by simp) | (with_reducible show Y _ (tCB (rLen _) _) _ _; first | exact y_lenOwn rfl | exact y_lenSc (y_var rfl)) | with_reducible refine' y_len _ _ | with_reducible refine' y_ne _ _ _ | with_reducible refine' y_chain _ _ _ | with_reducible refine' y_andV _ (fun _ => _) | with_reducible refine' y_orV _ (fun _ => _) | with_reducible refine' y_isN _ | with_reducible refine' y_notN _ | exact rfl | (show _ = _; assumption) | exact atI_nat (by assumption) | (show CPow _ _; exact ⟨by decide, by decide, by decide⟩) | (show (0 : Int) < _; first | decide | omega) | (show CDiv _ _; exact ⟨by first | decide | omega, by first | decide | omega⟩) | (show CMul _ _; first | exact .inl ⟨by omega, by omega⟩ | exact .inr ⟨by omega, by omega⟩) ))) (by (repeat' (first | with_reducible exact y_int | with_reducible exact y_str | (with_reducible show Y _ (tVar _) _ _; exact y_var rfl) | (with_reducible refine' y_eq _ _ _) | (with_reducible refine' y_ixT _ _ _) | with_reducible refine' y_ixL _ _ _ | with_reducible exact ya_nilD | with_reducible exact y_bl | with_reducible exact y_non | with_reducible exact yo_none | with_reducible exact yt_yes | with_reducible refine' yt_test _ | with_reducible refine' yt_B _ | with_reducible refine' yt_not _ | with_reducible refine' yt_and _ (fun _ => _) | with_reducible refine' yt_or _ (fun _ => _) | with_reducible refine' y_I0 _ _ | with_reducible refine' y_B0 _ _ | with_reducible refine' y_IC _ _ _ | with_reducible refine' y_parts (by assumption) _ | with_reducible refine' y_rows (by assumption) _ | with_reducible refine' ya_consD _ _ | with_reducible refine' y_tup _ (by simp) | with_reducible refine' y_lst _ (by simp) | (with_reducible show Y _ (tCB (rLen _) _) _ _; first | exact y_lenOwn rfl | exact y_lenSc (y_var rfl)) | with_reducible refine' y_len _ _ | with_reducible refine' y_ne _ _ _ | with_reducible refine' y_chain _ _ _ | with_reducible refine' y_andV _ (fun _ => _) | with_reducible refine' y_orV _ (fun _ => _) | with_reducible refine' y_isN _ | with_reducible refine' y_notN _ | exact rfl | (show _ = _; assumption) | exact atI_nat (by assumption) | (show CPow _ _; exact ⟨by decide, by decide, by decide⟩) | (show (0 : Int) < _; first | decide | omega) | (show CDiv _ _; exact ⟨by first | decide | omega, by first | decide | omega⟩) | (show CMul _ _; first | exact .inl ⟨by omega, by omega⟩ | exact .inr ⟨by omega, by omega⟩) ))))) ?_)) ?_) k
    · rw [List.filter_eq_self.mpr (fun _ _ => rfl), List.map_map]; rfl
    · unfold holdsR
      rw [List.any_map]; rfl
def sp_joined_spans : Sp := fun vs H Q E => ∃ (l : List Sp2) (s : Sp2), (l.length ≤ 50000) ∧ spP [D (.list (l.map encP)), D (encP s)] (PermP (joinR l s)) vs H Q E
theorem joinAcc_len (l : List Sp2) : ∀ (acc : Int × Int × List Sp2), (l.foldl joinStep acc).2.2.length ≤ acc.2.2.length + l.length := by
  induction l with
  | nil => exact fun _ => Nat.le_refl _
  | cons x l ih =>
    intro acc
    rw [List.foldl_cons, List.length_cons]
    have h1 := ih (joinStep acc x)
    have h2 : (joinStep acc x).2.2.length ≤ acc.2.2.length + 1 := by
      unfold joinStep
      split
      · rw [List.length_append]; exact Nat.le_refl _
      · exact Nat.le_succ _
    omega
theorem ok_joined_spans (T : Tx K mg) : Cal P w K mg base 1 "joined_spans" ["spans", "span"] sp_joined_spans := by
  obtain ⟨fd, F⟩ := T.c.def_ 21 (d := d_joined_spans) rfl
  refine ⟨_, fd, T.g_joined_spans, F.kp, FunD.bindsN (ps := ["spans", "span"]) F fun _ _ _ _ _ _ us hl => match us, hl with | [_, _], _ => rfl, def_ok F sc_joined_spans ?_ fun cdv A outer s H vs Q E hr h => ?_⟩
  · intro vs H Q E h
    obtain ⟨_, _, _, h⟩ := h
    exact h.len
  · obtain ⟨l, s, hl, Hb, sm, ha, k⟩ := h
    have c := start_cur (N := N_joined_spans) (k := 4) sm ha (by repeat' (first | exact trivial | exact mono_D _ | exact mono_Ws | exact mono_Sc | refine ⟨?_, ?_⟩)) rfl
    refine ⟨_, (pss_cons (ps_set (i := 2) sc_joined_spans.nd rfl (Or.inl rfl) (pe_ix (kxT (K := K) rfl) (pv 1) pe_int (fun _ _ => rfl)))
  (pss_cons (ps_set (i := 3) sc_joined_spans.nd rfl (Or.inl rfl) (pe_ix (kxT (K := K) rfl) (pv 1) pe_int (fun _ _ => rfl)))
  (pss_cons (ps_set (i := 4) sc_joined_spans.nd rfl (Or.inl rfl) (pe_lst pa_nil))
  (pss_cons (ps_for PassesOwn.never rfl (pi_listK (K := K) rfl (pv 0)) (pg_name (i := 5) sc_joined_spans.nd rfl (Or.inl rfl))
    (pss_one (ps_if ((pw_or (pt_cmpR op_lt (pe_op op_add (pe_ix (kxT (K := K) rfl) (pv 5) pe_int (fun _ _ => rfl)) pe_int) (pv 2) (nomark _)) (pw_or1 (pt_cmpR op_lt (pe_op op_add (pv 3) pe_int) (pe_ix (kxT (K := K) rfl) (pv 5) pe_int (fun _ _ => rfl)) (nomark _))))).pt
    (pss_one (ps_expr (pe_bmK (K := K) rfl PySem.F.plainAttrs_list PySem.F.slot_list_append PySem.F.type_list_append mt_append (pv 4) (pa_cons (pv 5) pa_nil))))
    (pss_cons (ps_set (i := 2) sc_joined_spans.nd rfl (Or.inl rfl) (pe_callB (c_min2 rfl) (by rfl) T.min bb_min (pa_cons (pv 2) (pa_cons (pe_ix (kxT (K := K) rfl) (pv 5) pe_int (fun _ _ => rfl)) pa_nil))))
  (pss_one (ps_set (i := 3) sc_joined_spans.nd rfl (Or.inl rfl) (pe_callB (c_max2 rfl) (by rfl) T.max bb_max (pa_cons (pv 3) (pa_cons (pe_ix (kxT (K := K) rfl) (pv 5) pe_int (fun _ _ => rfl)) pa_nil)))))))))
  (pss_one (ps_ret (pe_callB (kSortedPO (K := K) rfl) (by rfl) T.sorted bb_sorted (pa_cons (pe_op op_cat (pv 4) (pe_lst (pa_cons (pe_tup (pa_cons (pv 2) (pa_cons (pv 3) pa_nil))) pa_nil))) pa_nil)))))))), ?_⟩
    refine q_asgD c (d := .int s.1) (by (repeat' (first | with_reducible exact y_int | with_reducible exact y_str | (with_reducible show Y _ (tVar _) _ _; exact y_var rfl) | (with_reducible refine' y_eq _ _ _) | (with_reducible refine' y_ixT _ _ _) | with_reducible refine' y_ixL _ _ _ | with_reducible exact ya_nilD | with_reducible exact y_bl | with_reducible exact y_non | with_reducible exact yo_none | with_reducible exact yt_yes | with_reducible refine' yt_test _ | with_reducible refine' yt_B _ | with_reducible refine' yt_not _ | with_reducible refine' yt_and _ (fun _ => _) | with_reducible refine' yt_or _ (fun _ => _) | with_reducible refine' y_I0 _ _ | with_reducible refine' y_B0 _ _ | with_reducible refine' y_IC _ _ _ | with_reducible refine' y_parts (by assumption) _ | with_reducible refine' y_rows (by assumption) _ | with_reducible refine' ya_consD _ _ | with_reducible refine' y_tup _ (by simp) | with_reducible refine' y_lst _ (by simp) | (with_reducible show Y _ (tCB (rLen _) _) _ _; first | exact y_lenOwn rfl | exact y_lenSc (y_var rfl)) | with_reducible refine' y_len _ _ | with_reducible refine' y_ne _ _ _ | with_reducible refine' y_chain _ _ _ | with_reducible refine' y_andV _ (fun _ => _) | with_reducible refine' y_orV _ (fun _ => _) | with_reducible refine' y_isN _ | with_reducible refine' y_notN _ | exact rfl | (show _ = _; assumption) | exact atI_nat (by assumption) | (show CPow _ _; exact ⟨by decide, by decide, by decide⟩) | (show (0 : Int) < _; first | decide | omega) | (show CDiv _ _; exact ⟨by first | decide | omega, by first | decide | omega⟩) | (show CMul _ _; first | exact .inl ⟨by omega, by omega⟩ | exact .inr ⟨by omega, by omega⟩) ))) fun σ1 H1 c1 => ?_
    refine q_asgD c1 (d := .int s.2) (by (repeat' (first | with_reducible exact y_int | with_reducible exact y_str | (with_reducible show Y _ (tVar _) _ _; exact y_var rfl) | (with_reducible refine' y_eq _ _ _) | (with_reducible refine' y_ixT _ _ _) | with_reducible refine' y_ixL _ _ _ | with_reducible exact ya_nilD | with_reducible exact y_bl | with_reducible exact y_non | with_reducible exact yo_none | with_reducible exact yt_yes | with_reducible refine' yt_test _ | with_reducible refine' yt_B _ | with_reducible refine' yt_not _ | with_reducible refine' yt_and _ (fun _ => _) | with_reducible refine' yt_or _ (fun _ => _) | with_reducible refine' y_I0 _ _ | with_reducible refine' y_B0 _ _ | with_reducible refine' y_IC _ _ _ | with_reducible refine' y_parts (by assumption) _ | with_reducible refine' y_rows (by assumption) _ | with_reducible refine' ya_consD _ _ | with_reducible refine' y_tup _ (by simp) | with_reducible refine' y_lst _ (by simp) | (with_reducible show Y _ (tCB (rLen _) _) _ _; first | exact y_lenOwn rfl | exact y_lenSc (y_var rfl)) | with_reducible refine' y_len _ _ | with_reducible refine' y_ne _ _ _ | with_reducible refine' y_chain _ _ _ | with_reducible refine' y_andV _ (fun _ => _) | with_reducible refine' y_orV _ (fun _ => _) | with_reducible refine' y_isN _ | with_reducible refine' y_notN _ | exact rfl | (show _ = _; assumption) | exact atI_nat (by assumption) | (show CPow _ _; exact ⟨by decide, by decide, by decide⟩) | (show (0 : Int) < _; first | decide | omega) | (show CDiv _ _; exact ⟨by first | decide | omega, by first | decide | omega⟩) | (show CMul _ _; first | exact .inl ⟨by omega, by omega⟩ | exact .inr ⟨by omega, by omega⟩) ))) fun σ2 H2 c2 => ?_
    refine q_new c2 fun σ3 H3 c3 => ?_
    have al : ∀ i, ((l.take i).foldl joinStep (s.1, s.2, [])).2.2.length ≤ 50000 := fun i => by
      have := joinAcc_len (l.take i) (s.1, s.2, [])
      have h2 : (l.take i).length ≤ l.length := by rw [List.length_take]; omega
      have h3 : ((s.1, s.2, []) : Int × Int × List Sp2).2.2.length = 0 := rfl
      omega
    refine q_forL (xs := l) (enc := encP) (vs := [5]) c3 (y_var rfl) (fun i => [.p (D (.list (l.map encP))), .p (D (encP s)), .p (D (.int ((l.take i).foldl joinStep (s.1, s.2, [])).1)), .p (D (.int ((l.take i).foldl joinStep (s.1, s.2, [])).2.1)), .own (((l.take i).foldl joinStep (s.1, s.2, [])).2.2.map encP), .no])
      (fun i y => [.p (D (.list (l.map encP))), .p (D (encP s)), .p (D (.int ((l.take i).foldl joinStep (s.1, s.2, [])).1)), .p (D (.int ((l.take i).foldl joinStep (s.1, s.2, [])).2.1)), .own (((l.take i).foldl joinStep (s.1, s.2, [])).2.2.map encP), .p (D (encP y))]) (fun _ _ c => c) (fun i x _ => yg_name) (fun Hb1 _ i y hy σ4 H4 c4 => ?_) (fun σ4 H4 c4 => ?_)
    · have e : (l.take (i + 1)).foldl joinStep (s.1, s.2, []) = joinStep ((l.take i).foldl joinStep (s.1, s.2, [])) y := by
        rw [List.take_add_one, hy, List.foldl_append]; rfl
      rw [e]
      have len := al i
      generalize (l.take i).foldl joinStep (s.1, s.2, []) = acc at c4 len
      rcases acc with ⟨lo, hi, ap⟩
      dsimp only at c4 len
      refine z_if (b := decide (y.2 + 1 < lo) || decide (hi + 1 < y.1)) c4 (yt_or (yt_test (y_B0 (y_I0 (by (repeat' (first | with_reducible exact y_int | with_reducible exact y_str | (with_reducible show Y _ (tVar _) _ _; exact y_var rfl) | (with_reducible refine' y_eq _ _ _) | (with_reducible refine' y_ixT _ _ _) | with_reducible refine' y_ixL _ _ _ | with_reducible exact ya_nilD | with_reducible exact y_bl | with_reducible exact y_non | with_reducible exact yo_none | with_reducible exact yt_yes | with_reducible refine' yt_test _ | with_reducible refine' yt_B _ | with_reducible refine' yt_not _ | with_reducible refine' yt_and _ (fun _ => _) | with_reducible refine' yt_or _ (fun _ => _) | with_reducible refine' y_I0 _ _ | with_reducible refine' y_B0 _ _ | with_reducible refine' y_IC _ _ _ | with_reducible refine' y_parts (by assumption) _ | with_reducible refine' y_rows (by assumption) _ | with_reducible refine' ya_consD _ _ | with_reducible refine' y_tup _ (by simp) | with_reducible refine' y_lst _ (by simp) | (with_reducible show Y _ (tCB (rLen _) _) _ _; first | exact y_lenOwn rfl | exact y_lenSc (y_var rfl)) | with_reducible refine' y_len _ _ | with_reducible refine' y_ne _ _ _ | with_reducible refine' y_chain _ _ _ | with_reducible refine' y_andV _ (fun _ => _) | with_reducible refine' y_orV _ (fun _ => _) | with_reducible refine' y_isN _ | with_reducible refine' y_notN _ | exact rfl | (show _ = _; assumption) | exact atI_nat (by assumption) | (show CPow _ _; exact ⟨by decide, by decide, by decide⟩) | (show (0 : Int) < _; first | decide | omega) | (show CDiv _ _; exact ⟨by first | decide | omega, by first | decide | omega⟩) | (show CMul _ _; first | exact .inl ⟨by omega, by omega⟩ | exact .inr ⟨by omega, by omega⟩) ))) y_int) (y_var rfl))) fun _ => yt_test (y_B0 (y_I0 (y_var rfl) y_int) (by (repeat' (first | with_reducible exact y_int | with_reducible exact y_str | (with_reducible show Y _ (tVar _) _ _; exact y_var rfl) | (with_reducible refine' y_eq _ _ _) | (with_reducible refine' y_ixT _ _ _) | with_reducible refine' y_ixL _ _ _ | with_reducible exact ya_nilD | with_reducible exact y_bl | with_reducible exact y_non | with_reducible exact yo_none | with_reducible exact yt_yes | with_reducible refine' yt_test _ | with_reducible refine' yt_B _ | with_reducible refine' yt_not _ | with_reducible refine' yt_and _ (fun _ => _) | with_reducible refine' yt_or _ (fun _ => _) | with_reducible refine' y_I0 _ _ | with_reducible refine' y_B0 _ _ | with_reducible refine' y_IC _ _ _ | with_reducible refine' y_parts (by assumption) _ | with_reducible refine' y_rows (by assumption) _ | with_reducible refine' ya_consD _ _ | with_reducible refine' y_tup _ (by simp) | with_reducible refine' y_lst _ (by simp) | (with_reducible show Y _ (tCB (rLen _) _) _ _; first | exact y_lenOwn rfl | exact y_lenSc (y_var rfl)) | with_reducible refine' y_len _ _ | with_reducible refine' y_ne _ _ _ | with_reducible refine' y_chain _ _ _ | with_reducible refine' y_andV _ (fun _ => _) | with_reducible refine' y_orV _ (fun _ => _) | with_reducible refine' y_isN _ | with_reducible refine' y_notN _ | exact rfl | (show _ = _; assumption) | exact atI_nat (by assumption) | (show CPow _ _; exact ⟨by decide, by decide, by decide⟩) | (show (0 : Int) < _; first | decide | omega) | (show CDiv _ _; exact ⟨by first | decide | omega, by first | decide | omega⟩) | (show CMul _ _; first | exact .inl ⟨by omega, by omega⟩ | exact .inr ⟨by omega, by omega⟩) ))))) (fun hb H5 c5 => ?_) (fun hb H5 c5 => ?_)
      · refine z_app c5 (n := 4) (d := encP y) rfl (y_var rfl) (by rw [List.length_map]; omega) fun σ6 H6 c6 => ?_
        have e2 : joinStep (lo, hi, ap) y = (lo, hi, ap ++ [y]) := by unfold joinStep; rw [if_pos hb]
        rw [e2]
        have e3 : (ap ++ [y]).map encP = ap.map encP ++ [encP y] := by rw [List.map_append]; rfl
        dsimp only
        rw [e3]
        exact c6.forget 5
      · have e2 : joinStep (lo, hi, ap) y = (min lo y.1, max hi y.2, ap) := by unfold joinStep; rw [if_neg (by rw [hb]; simp)]
        rw [e2]
        refine q_asgD c5 (d := .int (min lo y.1)) (y_min2 (ya_consD (y_var rfl) (ya_consD (by (repeat' (first | with_reducible exact y_int | with_reducible exact y_str | (with_reducible show Y _ (tVar _) _ _; exact y_var rfl) | (with_reducible refine' y_eq _ _ _) | (with_reducible refine' y_ixT _ _ _) | with_reducible refine' y_ixL _ _ _ | with_reducible exact ya_nilD | with_reducible exact y_bl | with_reducible exact y_non | with_reducible exact yo_none | with_reducible exact yt_yes | with_reducible refine' yt_test _ | with_reducible refine' yt_B _ | with_reducible refine' yt_not _ | with_reducible refine' yt_and _ (fun _ => _) | with_reducible refine' yt_or _ (fun _ => _) | with_reducible refine' y_I0 _ _ | with_reducible refine' y_B0 _ _ | with_reducible refine' y_IC _ _ _ | with_reducible refine' y_parts (by assumption) _ | with_reducible refine' y_rows (by assumption) _ | with_reducible refine' ya_consD _ _ | with_reducible refine' y_tup _ (by simp) | with_reducible refine' y_lst _ (by simp) | (with_reducible show Y _ (tCB (rLen _) _) _ _; first | exact y_lenOwn rfl | exact y_lenSc (y_var rfl)) | with_reducible refine' y_len _ _ | with_reducible refine' y_ne _ _ _ | with_reducible refine' y_chain _ _ _ | with_reducible refine' y_andV _ (fun _ => _) | with_reducible refine' y_orV _ (fun _ => _) | with_reducible refine' y_isN _ | with_reducible refine' y_notN _ | exact rfl | (show _ = _; assumption) | exact atI_nat (by assumption) | (show CPow _ _; exact ⟨by decide, by decide, by decide⟩) | (show (0 : Int) < _; first | decide | omega) | (show CDiv _ _; exact ⟨by first | decide | omega, by first | decide | omega⟩) | (show CMul _ _; first | exact .inl ⟨by omega, by omega⟩ | exact .inr ⟨by omega, by omega⟩) ))) ya_nilD))) fun σ6 H6 c6 => ?_
        refine z_asgD c6 (d := .int (max hi y.2)) (y_max2 (ya_consD (y_var rfl) (ya_consD (by (repeat' (first | with_reducible exact y_int | with_reducible exact y_str | (with_reducible show Y _ (tVar _) _ _; exact y_var rfl) | (with_reducible refine' y_eq _ _ _) | (with_reducible refine' y_ixT _ _ _) | with_reducible refine' y_ixL _ _ _ | with_reducible exact ya_nilD | with_reducible exact y_bl | with_reducible exact y_non | with_reducible exact yo_none | with_reducible exact yt_yes | with_reducible refine' yt_test _ | with_reducible refine' yt_B _ | with_reducible refine' yt_not _ | with_reducible refine' yt_and _ (fun _ => _) | with_reducible refine' yt_or _ (fun _ => _) | with_reducible refine' y_I0 _ _ | with_reducible refine' y_B0 _ _ | with_reducible refine' y_IC _ _ _ | with_reducible refine' y_parts (by assumption) _ | with_reducible refine' y_rows (by assumption) _ | with_reducible refine' ya_consD _ _ | with_reducible refine' y_tup _ (by simp) | with_reducible refine' y_lst _ (by simp) | (with_reducible show Y _ (tCB (rLen _) _) _ _; first | exact y_lenOwn rfl | exact y_lenSc (y_var rfl)) | with_reducible refine' y_len _ _ | with_reducible refine' y_ne _ _ _ | with_reducible refine' y_chain _ _ _ | with_reducible refine' y_andV _ (fun _ => _) | with_reducible refine' y_orV _ (fun _ => _) | with_reducible refine' y_isN _ | with_reducible refine' y_notN _ | exact rfl | (show _ = _; assumption) | exact atI_nat (by assumption) | (show CPow _ _; exact ⟨by decide, by decide, by decide⟩) | (show (0 : Int) < _; first | decide | omega) | (show CDiv _ _; exact ⟨by first | decide | omega, by first | decide | omega⟩) | (show CMul _ _; first | exact .inl ⟨by omega, by omega⟩ | exact .inr ⟨by omega, by omega⟩) ))) ya_nilD))) fun σ7 H7 c7 => ?_
        exact c7.forget 5
    · rw [List.take_length] at c4
      have len := al l.length
      rw [List.take_length] at len
      refine z_ret c4 (y_sortedPO (l := joinR l s) (y_is (y_catOwn (n := 4) (es := [encP ((joinAcc l s).1, (joinAcc l s).2.1)]) rfl (y_lst (ds := [encP ((joinAcc l s).1, (joinAcc l s).2.1)]) (ya_consD (y_tup (ya_consD (y_var rfl) (ya_consD (y_var rfl) ya_nilD)) (by simp)) ya_nilD) (by simp)) ?_) ?_)) k
      · rw [List.length_map]
        show _ + 1 ≤ 100000
        omega
      · unfold joinR
        rw [List.map_append]; rfl
end
end MW

/-! G14 -/
set_option Elab.async false
set_option linter.all false
set_option maxRecDepth 100000
set_option maxHeartbeats 400000
namespace MW
open PySem PySem.Spec L2

abbrev optI : Option Int → PyData
  | none => .none
  | some x => .int x
/-- the told least size -/
def LeastS (p most : Int) (rows : List Rw) (k : Nat) : Option Int → Prop
  | none => ∀ x, 1 ≤ x → x ≤ most → ¬ Reach p rows k 0 x
  | some x => 1 ≤ x ∧ x ≤ most ∧ Reach p rows k 0 x
def LeastP (p most : Int) (rows : List Rw) (k : Nat) : Pr := fun Hb v => ∃ o, LeastS p most rows k o ∧ Dv Hb (optI o) v
theorem SOk.start {p most : Int} {rows : List Rw} {k : Nat} (hk : k < rows.length) (h1 : 1 ≤ most) : SOk p most rows k (rows.map fun _ => [], [(k, (1, most))]) := by
  have em : ∀ r (l : List Sp2), (rows.map fun _ => ([] : List Sp2))[r]? = some l → l = [] := fun r l h => by
    rw [List.getElem?_map] at h
    cases q : rows[r]? with
    | none => rw [q] at h; cases h
    | some x => rw [q] at h; exact (Option.some.inj h).symm
  refine ⟨by simp, fun l hl => ?_, fun g hg => ?_, fun r l x h c => ?_, fun r x h => ?_, fun x a b => ?_, fun r l x h c => ?_⟩
  · obtain ⟨_, _, rfl⟩ := List.mem_map.mp hl
    exact ⟨⟨(fun _ h => nomatch h), (fun _ h => nomatch h), fun _ h => nomatch h⟩, .nil⟩
  · rw [List.mem_singleton.mp hg]
    exact ⟨hk, h1, ⟨Int.le_refl 1, .inl rfl⟩, ⟨Int.le_refl _, .inl rfl⟩⟩
  · rw [em r l h] at c; exact absurd c cov_nil
  · obtain ⟨g, hg, e, _⟩ := h
    rw [List.mem_singleton.mp hg] at e
    rw [← e]; exact .here x
  · exact .inr ⟨_, List.mem_singleton.mpr rfl, rfl, a, b⟩
  · rw [em r l h] at c; exact absurd c cov_nil
theorem Spans.short {p most : Int} {rows : List Rw} (p1 : 2 ≤ p) (hm : most < 2 ^ 300) (ok : RowsOk rows) (hr : rows.length ≤ 12) {l : List Sp2} (w : Spans (EL p rows) (EH p most rows) l) (pw : l.Pairwise SepP) : l.length ≤ 7201 := by
  have nd : (l.map (·.1)).Nodup := by
    have wf := w.wf
    clear w
    induction l with
    | nil => exact .nil
    | cons x l ih =>
      rw [List.pairwise_cons] at pw
      rw [List.map_cons, List.nodup_cons]
      refine ⟨fun h => ?_, ih pw.2 fun s hs => wf s (List.mem_cons_of_mem _ hs)⟩
      obtain ⟨y, hy, e⟩ := List.mem_map.mp h
      have h1 := pw.1 y hy
      have h2 := wf x List.mem_cons_self
      have h3 := wf y (List.mem_cons_of_mem _ hy)
      unfold SepP at h1
      omega
  have h1 := nd_le nd (m := repsR p rows) fun x hx => by
    obtain ⟨s, hs, rfl⟩ := List.mem_map.mp hx
    have h1 := w.wf s hs
    have h2 := (w.hi s hs).1
    exact reps_lo p1 hm ok (w.lo s hs) (by omega)
  rw [List.length_map] at h1
  have h2 := reps_len (p := p) (rows := rows)
  have h3 := opens_len rows
  omega
theorem mu_start {p most : Int} {rows : List Rw} {k : Nat} (hr : rows.length ≤ 12) : mu (repsR p rows) (rows.map fun _ => [], [(k, (1, most))]) ≤ 2200000 := by
  have h2 := reps_len (p := p) (rows := rows)
  have h3 := opens_len rows
  have h4 : ∀ l, unc (repsR p rows) l ≤ 7201 := fun l => by
    unfold unc
    have := List.length_filter_le (fun x => !covB l x) (repsR p rows)
    omega
  have h5 : ∀ ls : List (List Sp2), (ls.map (unc (repsR p rows))).sum ≤ 7201 * ls.length := fun ls => by
    induction ls with
    | nil => simp
    | cons l ls ih =>
      rw [List.map_cons, List.sum_cons, List.length_cons]
      have := h4 l
      omega
  have h6 := h5 (rows.map fun _ => [])
  rw [List.length_map] at h6
  unfold mu
  dsimp only
  rw [List.length_singleton]
  omega
section
variable {K : PySem.W.Frag} {Hb0 H0 H : Hp} {G : Ctx} {σ : L2.St} {De : Ends} {te : TE} {tz : TS}
/-- x[i] = a sorted list -/
theorem q_setIxP {n i : Nat} {ds : List PyData} {l : List Sp2} {j : Nat} (c : Cur Hb0 H0 G σ H) (h : G[n]? = some (.own ds)) (hi : G[i]? = some (.p (D (.int (j : Nat))))) (hj : j < ds.length) (hy : Y R0 te G (PermP l)) (k : ∀ m : List Sp2, m.Perm l → ∀ σ' H', Cur Hb0 H0 (G.set n (.own (ds.set j (.list (m.map encP))))) σ' H' → tz De σ' H') :
    tSeq (tAsg te (gSub (tVar n) (tVar i) rSetL)) tz De σ H := by
  obtain ⟨Hb, g, E⟩ := c
  refine hy H0 Hb H σ E trivial g.in_ _ fun v Hb2 H2 g2 p => ?_
  obtain ⟨m, hm, p⟩ := p
  have E2 := E.grow g2
  obtain ⟨l, vs, e1, e2, e3, e4, e5⟩ := E2.ent _ _ h
  obtain ⟨u, e6, e7⟩ := E2.var hi
  obtain rfl := show u = V.int (j : Nat) from e7
  refine ⟨_, e1, _, e6, l, vs, j, j, rfl, rfl, e2, ?_, k m hm _ _ ⟨Hb2, (g.trans g2).mut e3 e4, E2.change h rfl e1 rfl ⟨l, _, rfl, upd_same, e3, e4, DvAll.set j e5 p⟩⟩⟩
  have hj' : j < vs.length := by rw [e5.length]; exact hj
  unfold ixN
  rw [if_pos (by omega), if_pos (by omega)]
  simp
end
abbrev spsD (l : List Sp2) : PyData := .list (l.map encP)
section
variable {P : Program} {w : World} {K : PySem.W.Frag} {mg : Str → Option Value} {base : Heap}
def sp_least_to (K : PySem.W.Frag) : Sp := fun vs H Q E => ∃ (p : Int) (rows : List Rw) (most : Int) (k : Nat), (2 ≤ p ∧ p ≤ 9 ∧ RowsOk rows ∧ rows.length ≤ 12 ∧ k < rows.length ∧ 1 ≤ most ∧ most < 2 ^ 300) ∧ spP [Ws K p rows, D (.int k), D (.int most)] (LeastP p most rows k) vs H Q E
theorem ok_least_to (T : Tx K mg) : Cal P w K mg base 2 "least_to" ["works", "row", "most"] (sp_least_to K) := by
  have C_holds_span := ok_holds_span (P := P) (w := w) (base := base) T
  have C_joined_spans := ok_joined_spans (P := P) (w := w) (base := base) T
  have C_spans_ahead := ok_spans_ahead (P := P) (w := w) (base := base) T
  obtain ⟨fd, F⟩ := T.c.def_ 22 (d := d_least_to) rfl
  refine ⟨_, fd, T.g_least_to, F.kp, FunD.bindsN (ps := ["works", "row", "most"]) F fun _ _ _ _ _ _ us hl => match us, hl with | [_, _, _], _ => rfl, def_ok F sc_least_to ?_ fun cdv A outer s H vs Q E hr h => ?_⟩
  · intro vs H Q E h
    obtain ⟨_, _, _, _, _, h⟩ := h
    exact h.len
  · obtain ⟨p, rows, most, kk, pre, Hb, sm, ha, k⟩ := h
    have c := start_cur (N := N_least_to) (k := 5) sm ha (by repeat' (first | exact trivial | exact mono_D _ | exact mono_Ws | exact mono_Sc | refine ⟨?_, ?_⟩)) rfl
    refine ⟨_, (pss_cons (ps_setLc (i := 3) (own := [("told", 7)]) (g := (gName 7)) rfl sc_least_to.nd rfl rfl (sw_true rfl rfl rfl (by decide +kernel)) (pi_listK (K := K) rfl (pe_fldK (K := K) rfl (pv 0) rfl)) (blkOk_by (own := [("told", 7)]) (N := N_least_to) (sc := defScope s_least_to) (by decide +kernel)) (fun _ _ _ _ _ => (pg_name (i := 7) sc_least_to.nd rfl (Or.inl rfl))) (fun _ _ _ _ _ => pts_nil) (fun _ _ _ _ _ => (pe_lst pa_nil)))
  (pss_cons (ps_set (i := 4) sc_least_to.nd rfl (Or.inl rfl) (pe_lst (pa_cons (pe_tup (pa_cons (pv 1) (pa_cons (pe_tup (pa_cons pe_int (pa_cons (pv 2) pa_nil))) pa_nil))) pa_nil)))
  (pss_cons (ps_while PassesOwn.never (pt_cmpR op_gt (pe_callB (kLen (K := K) rfl) (by rfl) T.len bb_len (pa_cons (pv 4) pa_nil)) pe_int (nomark _))
    (pss_cons (ps_asg (pe_bm0K_ (K := K) rfl PySem.F.plainAttrs_list PySem.F.slot_list_pop PySem.F.type_list_pop mt_pop (pv 4)) (pg_tupK (K := K) rfl rfl (pgs_cons (pg_name (i := 5) sc_least_to.nd rfl (Or.inl rfl)) (pgs_cons (pg_name (i := 6) sc_least_to.nd rfl (Or.inl rfl)) pgs_nil))))
  (pss_one (ps_if (pt_not (pt_val (pe_cal C_holds_span (hr.mono (by decide)) (by rfl) (pa_cons (pe_ix (kxL (K := K) rfl) (pv 3) (pv 5) (fun _ _ => rfl)) (pa_cons (pv 6) pa_nil)))))
    (pss_cons (ps_asg (pe_cal C_joined_spans (hr.mono (by decide)) (by rfl) (pa_cons (pe_ix (kxL (K := K) rfl) (pv 3) (pv 5) (fun _ _ => rfl)) (pa_cons (pv 6) pa_nil))) (pg_sub (pv 3) (pv 5) set_list))
  (pss_one (ps_expr (pe_bmK (K := K) rfl PySem.F.plainAttrs_list PySem.F.slot_list_extend PySem.F.type_list_extend mt_extend (pv 4) (pa_cons (pe_cal C_spans_ahead (hr.mono (by decide)) (by rfl) (pa_cons (pv 0) (pa_cons (pv 5) (pa_cons (pv 6) (pa_cons (pv 2) pa_nil))))) pa_nil)))))
    pss_nil))))
  (pss_cons (ps_if (pt_cmpR op_eq (pe_callB (kLen (K := K) rfl) (by rfl) T.len bb_len (pa_cons (pe_ix (kxL (K := K) rfl) (pv 3) pe_int (fun _ _ => rfl)) pa_nil)) pe_int (nomark _))
    (pss_one (ps_ret pe_non))
    pss_nil)
  (pss_one (ps_ret (pe_ix (kxT (K := K) rfl) (pe_ix (kxL (K := K) rfl) (pe_ix (kxL (K := K) rfl) (pv 3) pe_int (fun _ _ => rfl)) pe_int (fun _ _ => rfl)) pe_int (fun _ _ => rfl)))))))), ?_⟩
    obtain ⟨p1, p2, ok, hl, hk, m1, m2⟩ := pre
    refine q_lcOwn (i := 3) (xs := rows) (enc := rowD) (e := fun _ => .list []) (b := fun _ => true) c (fun x => [.p (Ws K p rows), .p (D (.int kk)), .p (D (.int most)), .no, .no, .no, .no, .p (D (rowD x))]) (y_rows T (y_var rfl)) (by omega) (fun x _ => yg_name) (fun _ _ => yt_yes) (fun _ _ _ => y_lst ya_nilD (by simp)) fun σ1 H1 c1 => ?_
    have e0 : (rows.filter fun _ => true).map (fun _ => PyData.list []) = (rows.map fun _ => ([] : List Sp2)).map spsD := by
      rw [List.filter_eq_self.mpr (fun _ _ => rfl), List.map_map]; rfl
    rw [e0] at c1
    refine q_lstOwn (i := 4) (ds := [(kk, ((1 : Int), most))].map encA) c1 (ya_consD (d := encA (kk, ((1 : Int), most))) (y_tup (ya_consD (y_var rfl) (ya_consD (y_tup (ya_consD y_int (ya_consD (y_var rfl) ya_nilD)) (by simp)) ya_nilD)) (by simp)) ya_nilD) (by simp) fun σ2 H2 c2 => ?_
    refine q_whileI (fun S : LS => [.p (Ws K p rows), .p (D (.int kk)), .p (D (.int most)), .own (S.1.map spsD), .own (S.2.map encA), .no, .no, .no]) (mu (repsR p rows)) (fun S => SOk p most rows kk S ∧ mu (repsR p rows) S ≤ 2200000) (fun S => decide (0 < ((S.2.map encA).length : Int))) (rows.map fun _ => [], [(kk, (1, most))]) ⟨.start hk m1, mu_start hl⟩ c2 (fun S _ => yt_test (y_B0 (y_lenOwn rfl) y_int)) (fun S ⟨o, hmu⟩ hb N hN σ3 H3 c3 => ?_) (fun S ⟨o, hmu⟩ hb σ3 H3 c3 => ?_)
    · rcases S with ⟨sps, line⟩
      have hne : line ≠ [] := fun z => by rw [z] at hb; cases hb
      obtain ⟨ln, g, rfl⟩ : ∃ ln g, line = ln ++ [g] := ⟨_, _, (List.dropLast_concat_getLast hne).symm⟩
      dsimp only at c3
      rw [List.map_append] at c3
      have hgl := (o.ln g (List.mem_append_right _ (List.mem_singleton.mpr rfl))).1
      have hgs : g.1 < sps.length := by have := o.len; dsimp only at this; omega
      have hsl : sps[g.1]? = some sps[g.1] := List.getElem?_eq_getElem hgs
      generalize sps[g.1] = l at hsl
      have hsl2 : (sps.map spsD)[g.1]? = some (spsD l) := by rw [List.getElem?_map, hsl]; rfl
      have hlo := o.sp l (List.mem_of_getElem? hsl)
      have hll := hlo.1.short p1 m2 ok hl hlo.2
      refine q_pop2 (ds := ln.map encA) (d := .int g.1) (e := encP g.2) c3 rfl (by decide) fun σ4 H4 c4 => ?_
      refine z_when1 (b := !holdsR l g.2) c4 (yt_not (yt_B (y_call (P := D (.bool (holdsR l g.2))) (As := [D (spsD l), D (encP g.2)]) (ya_cons (y_ixOwn rfl (y_var rfl) (atI_nat hsl2)) (mono_D _) (ya_cons (y_var rfl) (mono_D _) ya_nil)) fun vs H Q h => ⟨l, g.2, by omega, h⟩))) (fun hh H5 c5 => ?_) (fun hh H5 c5 => ?_)
      · have hh' : holdsR l g.2 = false := by simpa using hh
        refine q_setIxP (n := 3) (i := 5) (l := joinR l g.2) (j := g.1) c5 rfl rfl (by rw [List.length_map]; exact hgs) (y_call (As := [D (spsD l), D (encP g.2)]) (ya_cons (y_ixOwn rfl (y_var rfl) (atI_nat hsl2)) (mono_D _) (ya_cons (y_var rfl) (mono_D _) ya_nil)) fun vs H Q h => ⟨l, g.2, by omega, h⟩) fun m hm σ6 H6 c6 => ?_
        have o2 := o.grown p1 p2 ok hsl hm
        have lt := o.less p1 m2 ok hl hsl hh' hm
        refine z_ext (n := 4) (ds := ln.map encA) (es := (aheadR p rows most g.1 g.2).map encA) c6 rfl (y_call (As := [Ws K p rows, D (.int g.1), D (encP g.2), D (.int most)]) (ya_cons (y_var rfl) mono_Ws (ya_cons (y_var rfl) (mono_D _) (ya_cons (y_var rfl) (mono_D _) (ya_cons (y_var rfl) (mono_D _) ya_nil)))) fun vs H Q h => ⟨p, rows, most, g.1, g.2, ⟨p1, p2, by omega⟩, h⟩) ?_ fun σ7 H7 c7 => ?_
        · have h1 : (ln ++ aheadR p rows most g.1 g.2).length ≤ mu (repsR p rows) (sps.set g.1 m, ln ++ aheadR p rows most g.1 g.2) := Nat.le_add_right _ _
          rw [List.length_append] at h1
          rw [List.length_map, List.length_map]
          exact Nat.le_trans (show _ ≤ 2200000 by omega) (by decide)
        · refine hN (sps.set g.1 m, ln ++ aheadR p rows most g.1 g.2) σ7 H7 lt ⟨o2, by omega⟩ ?_
          have c8 := (c7.forget 5).forget 6
          dsimp only
          rw [List.map_append, List.map_set]
          exact c8
      · have hh' : holdsR l g.2 = true := by simpa using hh
        have o2 := o.held hsl hh'
        refine hN (sps, ln) σ4 H5 ?_ ⟨o2, ?_⟩ ((c5.forget 5).forget 6)
        · unfold mu; dsimp only; rw [List.length_append, List.length_singleton]; omega
        · unfold mu at hmu ⊢; dsimp only at hmu ⊢; rw [List.length_append, List.length_singleton] at hmu; omega
    · rcases S with ⟨sps, line⟩
      have he : line = [] := by
        cases line with
        | nil => rfl
        | cons a b =>
          have := of_decide_eq_false hb
          simp at this
      subst he
      have hs0 : 0 < sps.length := by have := o.len; dsimp only at this; omega
      have hsl : sps[0]? = some sps[0] := List.getElem?_eq_getElem hs0
      generalize sps[0] = l at hsl
      have hsl2 : (sps.map spsD)[0]? = some (spsD l) := by rw [List.getElem?_map, hsl]; rfl
      have fin := fun {x : Int} => o.done p1 p2 (r := 0) (x := x)
      dsimp only at c3
      refine z_when (b := decide (l.length = 0)) c3 (yt_is (yt_test (y_eqI (y_lenL (y_ixOwn (i := ((0 : Nat) : Int)) rfl y_int (atI_nat hsl2))) y_int)) (by rw [List.length_map]; simp)) (fun hb H4 c4 => ?_) (fun hb H4 c4 => ?_)
      · refine z_ret c4 y_non fun v Hb2 H5 g5 d5 => k v Hb2 H5 g5 ⟨none, fun x h1 h2 hr => ?_, d5⟩
        obtain ⟨l', hl', hc⟩ := fin hr h1 h2
        rw [hsl] at hl'
        cases hl'
        rw [List.eq_nil_of_length_eq_zero (of_decide_eq_true hb)] at hc
        exact cov_nil hc
      · cases l with
        | nil => cases hb
        | cons s l =>
          refine z_ret c4 (y_ixT (d := .int s.1) (y_ixL (d := encP s) (y_ixOwn (i := ((0 : Nat) : Int)) rfl y_int (atI_nat hsl2)) y_int (atI_nat (j := 0) rfl)) y_int (atI_nat (j := 0) rfl)) fun v Hb2 H5 g5 d5 => k v Hb2 H5 g5 ⟨some s.1, ?_, d5⟩
          have hlo := (o.sp _ (List.mem_of_getElem? hsl)).1
          have w1 := hlo.wf s List.mem_cons_self
          have w2 := hlo.lo s List.mem_cons_self
          have w3 := hlo.hi s List.mem_cons_self
          exact ⟨w2.1, Int.le_trans w1 w3.1, o.snd 0 _ s.1 hsl ⟨s, List.mem_cons_self, Int.le_refl _, w1⟩⟩
end
end MW

/-! G15 -/
set_option Elab.async false
set_option linter.all false
set_option maxRecDepth 100000
set_option maxHeartbeats 400000
namespace MW
open PySem PySem.Spec L2

/-- a list of what is told for each of so many -/
theorem y_lcRP {R : Res} {G : Ctx} {te : TE} {g : TG} {vs : List Nat} {n : Nat} {ta : TE} {φ : Nat → PyData → Prop} (Gx : Nat → Ctx) (hl : Y R ta G (D (.int n))) (hz : n ≤ 900000) (hg : ∀ x, x < n → YG g vs (wipeG G vs) (.int (x : Nat)) (Gx x))
    (he : ∀ x, x < n → Y R te (Gx x) (fun Hb v => ∃ d, φ x d ∧ Dv Hb d v)) : Y R (tLc (iRng1 (tCons ta tNil)) g tYes te vs) G (fun Hb v => ∃ ds : List PyData, ds.length = n ∧ (∀ i d, ds[i]? = some d → φ i d) ∧ Dv Hb (.list ds) v) := fun H0 Hb H σ E rr s Q q =>
  hl H0 Hb H σ E rr s _ fun v Hb1 H1 g1 p => by
    obtain rfl : v = .int n := p
    refine ⟨n, rfl, by omega, by omega, fun Dl hD => ?_⟩
    have hbD : Hb1 Dl = none := g1.in_.free hD
    refine lc_range (lo := 0) (n := ((n : Int)).toNat) (fun i H' => ∃ ds : List PyData, ds.length = i ∧ (∀ i d, ds[i]? = some d → φ i d) ∧ Acc Hb1 H1 Dl ds H') ⟨[], rfl, (fun i d h => by simp at h), Hb1, [], .own g1.in_ hD, hbD, upd_same, rfl⟩ (fun i H' hi A => ?_) (fun H' A => ?_)
    · have hi' : i < n := by omega
      obtain ⟨ds, len, hφ, Hb2, acc, g2, n2, d2, a2⟩ := id A
      rw [Int.zero_add]
      refine hg i hi' H0 Hb2 H' (wipe σ vs) (.int (i : Nat)) (((E.grow g1).grow g2).wipe vs) g2.in_ rfl _ fun σ2 E2 hw => ⟨by rw [hw, wipe_idem], ?_⟩
      refine he i hi' H0 Hb2 H' σ2 E2 (R.st _ _ _ _ _ (R.st _ _ _ _ _ rr g1) g2) g2.in_ _ fun v Hb3 H3 g3 pd => ?_
      obtain ⟨d, pd, dv⟩ := pd
      have dn : Hb3 Dl = none := by
        cases q : Hb3 Dl with
        | none => rfl
        | some o => have := g3.nw Dl n2 (by rw [q]; simp); rw [d2] at this; cases this
      refine ⟨acc, g3.al _ _ d2, ?_, ds ++ [d], by rw [List.length_append, len]; rfl, fun j e hj => ?_, Hb3, _, (g2.trans g3).mut dn hD, dn, upd_same, (DvAll.mono g3.fz _ _ a2).app (.one dv)⟩
      · rw [a2.length, len]; exact Nat.lt_of_lt_of_le (show i < 1000000 by omega) (by decide)
      · by_cases z : j < ds.length
        · rw [List.getElem?_append_left z] at hj; exact hφ j e hj
        · rw [List.getElem?_append_right (by omega)] at hj
          have hj0 : j - ds.length = 0 := by
            rcases Nat.eq_zero_or_pos (j - ds.length) with y | y
            · exact y
            · rw [List.getElem?_eq_none (by rw [List.length_singleton]; exact y)] at hj; cases hj
          rw [hj0] at hj
          obtain rfl : d = e := by simpa using hj
          have : j = i := by omega
          rw [this]; exact pd
    · rw [Int.toNat_natCast] at A
      obtain ⟨ds, len, hφ, Hb2, acc, g2, n2, d2, a2⟩ := A
      exact q _ _ _ (g1.trans (g2.freeze n2 hD d2)) ⟨ds, len, hφ, Dl, acc, rfl, upd_same, DvAll.mono (same_upd n2) _ _ a2⟩
def mostR (p : Int) : Int := p ^ 13 * 10 ^ 60 * 10
theorem mostR_b {p : Int} (p1 : 2 ≤ p) (p2 : p ≤ 9) : 10 ^ 60 ≤ mostR p ∧ mostR p < 2 ^ 300 := by
  have h : p = 2 ∨ p = 3 ∨ p = 4 ∨ p = 5 ∨ p = 6 ∨ p = 7 ∨ p = 8 ∨ p = 9 := by omega
  unfold mostR
  rcases h with h | h | h | h | h | h | h | h <;> (rw [h]; exact ⟨by decide +kernel, by decide +kernel⟩)
theorem p13 {p : Int} (p1 : 2 ≤ p) (p2 : p ≤ 9) : -(2 ^ 64) < p ^ ((13 : Int)).toNat ∧ p ^ ((13 : Int)).toNat < 2 ^ 64 := by
  have h : p = 2 ∨ p = 3 ∨ p = 4 ∨ p = 5 ∨ p = 6 ∨ p = 7 ∨ p = 8 ∨ p = 9 := by omega
  rcases h with h | h | h | h | h | h | h | h <;> (rw [h]; exact ⟨by decide +kernel, by decide +kernel⟩)
def ReachP (p : Int) (rows : List Rw) : Pr := fun Hb v => ∃ ds : List PyData, ds.length = rows.length ∧ (∀ i d, ds[i]? = some d → ∃ o, LeastS p (mostR p) rows i o ∧ d = optI o) ∧ Dv Hb (.list ds) v
theorem mono_ReachP {p : Int} {rows : List Rw} : Mono (ReachP p rows) := fun _ _ _ s ⟨ds, h1, h2, h3⟩ => ⟨ds, h1, h2, Dv.mono s _ _ h3⟩
section
variable {P : Program} {w : World} {K : PySem.W.Frag} {mg : Str → Option Value} {base : Heap}
def sp_reaching (K : PySem.W.Frag) : Sp := fun vs H Q E => ∃ (p : Int) (rows : List Rw), (2 ≤ p ∧ p ≤ 9 ∧ RowsOk rows ∧ rows.length ≤ 12 ∧ NoRing rows) ∧ spP [Ws K p rows] (ReachP p rows) vs H Q E
theorem ok_reaching (T : Tx K mg) : Cal P w K mg base 6 "reaching" ["works"] (sp_reaching K) := by
  have C_least_to := ok_least_to (P := P) (w := w) (base := base) T
  have C_ring_of := ok_ring_of (P := P) (w := w) (base := base) T
  obtain ⟨fd, F⟩ := T.c.def_ 23 (d := d_reaching) rfl
  refine ⟨_, fd, T.g_reaching, F.kp, FunD.bindsN (ps := ["works"]) F fun _ _ _ _ _ _ us hl => match us, hl with | [_], _ => rfl, def_ok F sc_reaching ?_ fun cdv A outer s H vs Q E hr h => ?_⟩
  · intro vs H Q E h
    obtain ⟨_, _, _, h⟩ := h
    exact h.len
  · obtain ⟨p, rows, pre, Hb, sm, ha, k⟩ := h
    have c := start_cur (N := N_reaching) (k := 2) sm ha (by repeat' (first | exact trivial | exact mono_D _ | exact mono_Ws | exact mono_Sc | refine ⟨?_, ?_⟩)) rfl
    refine ⟨_, (pss_cons (ps_if (pt_cmpR op_notN_ (pe_cal C_ring_of (hr.mono (by decide)) (by rfl) (pa_cons (pv 0) pa_nil)) pe_non (nomark _))
    pss_never
    pss_nil)
  (pss_cons (ps_set (i := 1) sc_reaching.nd rfl (Or.inr rfl) (pe_op op_mul (pe_op op_mul (pe_op op_pow (pe_fldK (K := K) rfl (pv 0) rfl) pe_int) (pe_mint T.WIDEST (by rfl))) pe_int))
  (pss_one (ps_ret (pe_lc (own := [("row", 2)]) (g := (gName 2)) rfl sc_reaching.nd (pi_range1 (by rfl) T.range (pa_cons (pe_callB (kLen (K := K) rfl) (by rfl) T.len bb_len (pa_cons (pe_fldK (K := K) rfl (pv 0) rfl) pa_nil)) pa_nil)) (blkOk_by (own := [("row", 2)]) (N := N_reaching) (sc := defScope s_reaching) (by decide +kernel)) (fun _ _ _ _ _ => (pg_name (i := 2) sc_reaching.nd rfl (Or.inl rfl))) (fun _ _ _ _ _ => pts_nil) (fun _ _ _ _ _ => (pe_cal C_least_to (hr.mono (by decide)) (by rfl) (pa_cons (pv 0) (pa_cons (pv 2) (pa_cons (pv 1) pa_nil)))))))))), ?_⟩
    obtain ⟨p1, p2, ok, hl, nr⟩ := pre
    have mb := mostR_b p1 p2
    refine z_no c (yt_is (yt_test (y_notN (d := .none) (y_call (As := [Ws K p rows]) (ya_cons (y_var rfl) mono_Ws ya_nil) fun vs H Q h => ⟨p, rows, ⟨p1, p2, ok, by omega, nr⟩, h⟩))) rfl) fun H1 c1 => ?_
    refine q_asgD c1 (d := .int (mostR p)) (y_is (y_IC (y_IC (y_IC (y_parts T (y_var rfl)) y_int ⟨by omega, by omega, by omega⟩) y_int ?_) y_int ?_) rfl) fun σ2 H2 c2 => ?_
    · exact .inl (p13 p1 p2)
    · exact .inr ⟨by decide, by decide⟩
    refine z_ret c2 (y_lcRP (n := rows.length) (φ := fun i d => ∃ o, LeastS p (mostR p) rows i o ∧ d = optI o) (fun x => [.p (Ws K p rows), .p (D (.int (mostR p))), .p (D (.int x))]) (y_lenRows (y_rows T (y_var rfl))) (by omega) (fun x _ => yg_name) (fun x hx => (y_call (As := [Ws K p rows, D (.int x), D (.int (mostR p))]) (ya_cons (y_var rfl) mono_Ws (ya_cons (y_var rfl) (mono_D _) (ya_cons (y_var rfl) (mono_D _) ya_nil))) fun vs H Q h => ⟨p, rows, mostR p, x, ⟨p1, p2, ok, hl, hx, by omega, mb.2⟩, h⟩).imp fun H v ⟨o, h1, h2⟩ => ⟨optI o, ⟨o, h1, rfl⟩, h2⟩)) k
end
end MW

/-! G16 -/
set_option Elab.async false
set_option linter.all false
set_option maxRecDepth 100000
set_option maxHeartbeats 400000
namespace MW
open PySem PySem.Spec L2

theorem stD_keys (l : List (Int × PyData)) (k : Int) (d : PyData) : (stD l k d).map (·.1) = if k ∈ l.map (·.1) then l.map (·.1) else l.map (·.1) ++ [k] := by
  unfold stD
  by_cases h : k ∈ l.map (·.1)
  · rw [if_pos h, if_pos h, List.map_map]
    refine List.map_congr_left fun q _ => ?_
    show (if q.1 = k then (q.1, d) else q : Int × PyData).1 = q.1
    split <;> rfl
  · rw [if_neg h, if_neg h, List.map_append]; rfl
theorem mkD_go : ∀ (ps l : List (Int × PyData)), (l.map (·.1)).Nodup → ((ps.foldl (fun acc q => stD acc q.1 q.2) l).map (·.1)).Nodup ∧ ∀ k, k ∈ (ps.foldl (fun acc q => stD acc q.1 q.2) l).map (·.1) ↔ k ∈ l.map (·.1) ∨ k ∈ ps.map (·.1)
  | [], l, h => ⟨h, fun k => by simp⟩
  | p :: ps, l, h => by
    have e := stD_keys l p.1 p.2
    have h1 : ((stD l p.1 p.2).map (·.1)).Nodup := by
      rw [e]
      split
      · exact h
      · rename_i z
        rw [List.nodup_append]
        exact ⟨h, by simp, fun a ha b hb y => by
          have : b = p.1 := by simpa using hb
          rw [this] at y
          exact z (y ▸ ha)⟩
    obtain ⟨k1, k2⟩ := mkD_go ps (stD l p.1 p.2) h1
    refine ⟨k1, fun k => ?_⟩
    rw [List.foldl_cons, k2, e, List.map_cons, List.mem_cons]
    split
    · rename_i z
      constructor
      · rintro (y | y)
        · exact .inl y
        · exact .inr (.inr y)
      · rintro (y | y | y)
        · exact .inl y
        · exact .inl (y ▸ z)
        · exact .inr y
    · rw [List.mem_append, List.mem_singleton, or_assoc]
theorem mkD_nd (ps : List (Int × PyData)) : ((mkD ps).map (·.1)).Nodup := (mkD_go ps [] .nil).1
theorem mkD_mem (ps : List (Int × PyData)) (k : Int) : k ∈ (mkD ps).map (·.1) ↔ k ∈ ps.map (·.1) := by
  have := (mkD_go ps [] .nil).2 k
  unfold mkD
  rw [this]
  simp
def keysD (l : List (Int × Int)) : List Int := (mkD (l.map fun q => (q.1, PyData.int q.2))).map (·.1)
theorem keysD_nd (l : List (Int × Int)) : (keysD l).Nodup := mkD_nd _
theorem keysD_mem (l : List (Int × Int)) (k : Int) : k ∈ keysD l ↔ k ∈ l.map (·.1) := by
  unfold keysD
  rw [mkD_mem, List.map_map]; rfl
def tot (l : List (Int × Int)) (s : Int) : Int := ((l.filter fun q => decide (q.1 = s)).map (·.2)).sum
def lotR (l : List (Int × Int)) : List (Int × Int) := ((isort (keysD l)).filter fun s => decide (0 < tot l s)).map fun s => (s, tot l s)
theorem lotR_keys (l : List (Int × Int)) : ((lotR l).map (·.1)).Pairwise (· < ·) := by
  unfold lotR
  rw [List.map_map]
  have : ((fun x : Int × Int => x.1) ∘ fun k => (k, tot l k)) = id := rfl
  rw [this, List.map_id]
  exact (isort_lt (keysD_nd l)).sublist List.filter_sublist
theorem lotR_mem {l : List (Int × Int)} {q : Int × Int} : q ∈ lotR l ↔ q.2 = tot l q.1 ∧ 0 < q.2 ∧ q.1 ∈ l.map (·.1) := by
  unfold lotR
  rw [List.mem_map]
  constructor
  · rintro ⟨s, hs, rfl⟩
    obtain ⟨h1, h2⟩ := List.mem_filter.mp hs
    exact ⟨rfl, of_decide_eq_true h2, (keysD_mem l s).mp ((isort_perm _).mem_iff.mp h1)⟩
  · rintro ⟨h1, h2, h3⟩
    refine ⟨q.1, List.mem_filter.mpr ⟨(isort_perm _).mem_iff.mpr ((keysD_mem l q.1).mpr h3), decide_eq_true (by rw [← h1]; exact h2)⟩, ?_⟩
    rw [← h1]
section
variable {P : Program} {w : World} {K : PySem.W.Frag} {mg : Str → Option Value} {base : Heap}
def sp__law_lot : Sp := fun vs H Q E => ∃ (l : List (Int × Int)), (l.length ≤ 100000) ∧ spP [D (.list (l.map encP))] (D (.list ((lotR l).map encP))) vs H Q E
theorem ok__law_lot (T : Tx K mg) : Cal P w K mg base 1 "_law_lot" ["pairs"] sp__law_lot := by
  obtain ⟨fd, F⟩ := T.c.def_ 33 (d := d__law_lot) rfl
  refine ⟨_, fd, T.g__law_lot, F.kp, FunD.bindsN (ps := ["pairs"]) F fun _ _ _ _ _ _ us hl => match us, hl with | [_], _ => rfl, def_ok F sc__law_lot ?_ fun cdv A outer s H vs Q E hr h => ?_⟩
  · intro vs H Q E h
    obtain ⟨_, _, h⟩ := h
    exact h.len
  · obtain ⟨l, hl, Hb, sm, ha, k⟩ := h
    have c := start_cur (N := N__law_lot) (k := 5) sm ha (by repeat' (first | exact trivial | exact mono_D _ | exact mono_Ws | exact mono_Sc | refine ⟨?_, ?_⟩)) rfl
    refine ⟨_, (pss_cons (ps_set (i := 1) sc__law_lot.nd rfl (Or.inl rfl) (pe_callB (kSortedI (K := K) rfl) (by rfl) T.sorted bb_sorted (pa_cons (pe_callTy (c_listD rfl) (by rfl) T.list bb_list (pa_cons (pe_callTy (kDictP (K := K) rfl rfl) (by rfl) T.dict bb_dict (pa_cons (pv 0) pa_nil)) pa_nil)) pa_nil)))
  (pss_cons (ps_set (i := 2) sc__law_lot.nd rfl (Or.inl rfl) (pe_lst pa_nil))
  (pss_cons (ps_for PassesOwn.never rfl (pi_listK (K := K) rfl (pv 1)) (pg_name (i := 3) sc__law_lot.nd rfl (Or.inr rfl))
    (pss_cons (ps_set (i := 4) sc__law_lot.nd rfl (Or.inl rfl) (pe_callB (kSum (K := K) rfl rfl) (by rfl) T.sum bb_sum (pa_cons (pe_lc (own := [("pair", 5)]) (g := (gName 5)) rfl sc__law_lot.nd (pi_listK (K := K) rfl (pv 0)) (blkOk_by (own := [("pair", 5)]) (N := N__law_lot) (sc := defScope s__law_lot) (by decide +kernel)) (fun _ _ _ _ _ => (pg_name (i := 5) sc__law_lot.nd rfl (Or.inl rfl))) (fun _ _ _ _ _ => (pts_one (pt_cmpR op_eq (pe_ix (kxT (K := K) rfl) (pv 5) pe_int (fun _ _ => rfl)) (pv 3) (nomark _)))) (fun _ _ _ _ _ => (pe_ix (kxT (K := K) rfl) (pv 5) pe_int (fun _ _ => rfl)))) pa_nil)))
  (pss_one (ps_if (pt_cmpR op_gt (pv 4) pe_int (nomark _))
    (pss_one (ps_expr (pe_bmK (K := K) rfl PySem.F.plainAttrs_list PySem.F.slot_list_append PySem.F.type_list_append mt_append (pv 2) (pa_cons (pe_tup (pa_cons (pv 3) (pa_cons (pv 4) pa_nil))) pa_nil))))
    pss_nil))))
  (pss_one (ps_ret (pv 2)))))), ?_⟩
    have ek : (keysD l).length ≤ 100000 := by
      have := nd_le (keysD_nd l) (m := l.map (·.1)) fun k hk => (keysD_mem l k).mp hk
      rw [List.length_map] at this; omega
    refine q_asgD c (d := .list ((isort (keysD l)).map .int)) (y_sortedC (y_listD (y_dictP (ps := l.map fun q => (q.1, PyData.int q.2)) (y_is (y_var rfl) (by rw [List.map_map]; rfl))))) fun σ1 H1 c1 => ?_
    refine q_new c1 fun σ2 H2 c2 => ?_
    refine q_forL (xs := isort (keysD l)) (enc := .int) (vs := [3]) c2 (y_var rfl) (fun i => [.p (D (.list (l.map encP))), .p (D (.list ((isort (keysD l)).map .int))), .own (((((isort (keysD l)).take i).filter fun s => decide (0 < tot l s)).map fun s => (s, tot l s)).map encP), .no, .no, .no])
      (fun i y => [.p (D (.list (l.map encP))), .p (D (.list ((isort (keysD l)).map .int))), .own (((((isort (keysD l)).take i).filter fun s => decide (0 < tot l s)).map fun s => (s, tot l s)).map encP), .p (D (.int y)), .no, .no]) (fun _ _ c => c) (fun i x _ => yg_name) (fun Hb1 _ i y hy σ4 H4 c4 => ?_) (fun σ4 H4 c4 => ?_)
    · have e : (isort (keysD l)).take (i + 1) = (isort (keysD l)).take i ++ [y] := by rw [List.take_add_one, hy]; rfl
      have len : ((((isort (keysD l)).take i).filter fun s => decide (0 < tot l s)).map fun s => (s, tot l s)).length ≤ 100000 := by
        rw [List.length_map]
        have h1 := List.length_filter_le (fun s => decide (0 < tot l s)) ((isort (keysD l)).take i)
        have h2 : ((isort (keysD l)).take i).length ≤ (isort (keysD l)).length := by rw [List.length_take]; omega
        rw [isort_len] at h2
        omega
      rw [e, List.filter_append, List.map_append, List.map_append]
      generalize (((isort (keysD l)).take i).filter fun s => decide (0 < tot l s)).map (fun s => (s, tot l s)) = acc at c4 len
      refine q_asgD c4 (d := .int (tot l y)) (y_is (y_sum (ns := (l.filter fun q => decide (q.1 = y)).map (·.2)) (y_is (y_lcL (xs := l) (enc := encP) (e := fun q => .int q.2) (b := fun q => decide (q.1 = y)) (fun x => [.p (D (.list (l.map encP))), .p (D (.list ((isort (keysD l)).map .int))), .own (acc.map encP), .p (D (.int y)), .no, .p (D (encP x))]) (y_var rfl) (by omega) (fun x _ => ?_) (fun x _ => yt_is (yt_test (y_eq (by (repeat' (first | with_reducible exact y_int | with_reducible exact y_str | (with_reducible show Y _ (tVar _) _ _; exact y_var rfl) | (with_reducible refine' y_eq _ _ _) | (with_reducible refine' y_ixT _ _ _) | with_reducible refine' y_ixL _ _ _ | with_reducible exact ya_nilD | with_reducible exact y_bl | with_reducible exact y_non | with_reducible exact yo_none | with_reducible exact yt_yes | with_reducible refine' yt_test _ | with_reducible refine' yt_B _ | with_reducible refine' yt_not _ | with_reducible refine' yt_and _ (fun _ => _) | with_reducible refine' yt_or _ (fun _ => _) | with_reducible refine' y_I0 _ _ | with_reducible refine' y_B0 _ _ | with_reducible refine' y_IC _ _ _ | with_reducible refine' y_parts (by assumption) _ | with_reducible refine' y_rows (by assumption) _ | with_reducible refine' ya_consD _ _ | with_reducible refine' y_tup _ (by simp) | with_reducible refine' y_lst _ (by simp) | (with_reducible show Y _ (tCB (rLen _) _) _ _; first | exact y_lenOwn rfl | exact y_lenSc (y_var rfl)) | with_reducible refine' y_len _ _ | with_reducible refine' y_ne _ _ _ | with_reducible refine' y_chain _ _ _ | with_reducible refine' y_andV _ (fun _ => _) | with_reducible refine' y_orV _ (fun _ => _) | with_reducible refine' y_isN _ | with_reducible refine' y_notN _ | exact rfl | (show _ = _; assumption) | exact atI_nat (by assumption) | (show CPow _ _; exact ⟨by decide, by decide, by decide⟩) | (show (0 : Int) < _; first | decide | omega) | (show CDiv _ _; exact ⟨by first | decide | omega, by first | decide | omega⟩) | (show CMul _ _; first | exact .inl ⟨by omega, by omega⟩ | exact .inr ⟨by omega, by omega⟩) ))) (y_var rfl) rfl)) rfl) (fun x _ _ => (by (repeat' (first | with_reducible exact y_int | with_reducible exact y_str | (with_reducible show Y _ (tVar _) _ _; exact y_var rfl) | (with_reducible refine' y_eq _ _ _) | (with_reducible refine' y_ixT _ _ _) | with_reducible refine' y_ixL _ _ _ | with_reducible exact ya_nilD | with_reducible exact y_bl | with_reducible exact y_non | with_reducible exact yo_none | with_reducible exact yt_yes | with_reducible refine' yt_test _ | with_reducible refine' yt_B _ | with_reducible refine' yt_not _ | with_reducible refine' yt_and _ (fun _ => _) | with_reducible refine' yt_or _ (fun _ => _) | with_reducible refine' y_I0 _ _ | with_reducible refine' y_B0 _ _ | with_reducible refine' y_IC _ _ _ | with_reducible refine' y_parts (by assumption) _ | with_reducible refine' y_rows (by assumption) _ | with_reducible refine' ya_consD _ _ | with_reducible refine' y_tup _ (by simp) | with_reducible refine' y_lst _ (by simp) | (with_reducible show Y _ (tCB (rLen _) _) _ _; first | exact y_lenOwn rfl | exact y_lenSc (y_var rfl)) | with_reducible refine' y_len _ _ | with_reducible refine' y_ne _ _ _ | with_reducible refine' y_chain _ _ _ | with_reducible refine' y_andV _ (fun _ => _) | with_reducible refine' y_orV _ (fun _ => _) | with_reducible refine' y_isN _ | with_reducible refine' y_notN _ | exact rfl | (show _ = _; assumption) | exact atI_nat (by assumption) | (show CPow _ _; exact ⟨by decide, by decide, by decide⟩) | (show (0 : Int) < _; first | decide | omega) | (show CDiv _ _; exact ⟨by first | decide | omega, by first | decide | omega⟩) | (show CMul _ _; first | exact .inl ⟨by omega, by omega⟩ | exact .inr ⟨by omega, by omega⟩) ))))) (by rw [List.map_map]; rfl))) rfl) fun σ5 H5 c5 => ?_
      · exact yg_name
      · refine z_when1 (b := decide (0 < tot l y)) c5 (yt_test (y_B0 (y_var rfl) y_int)) (fun hb H6 c6 => ?_) (fun hb H6 c6 => ?_)
        · refine z_app c6 (n := 2) (d := encP (y, tot l y)) rfl (y_tup (ya_consD (y_var rfl) (ya_consD (y_var rfl) ya_nilD)) (by simp)) (by rw [List.length_map]; omega) fun σ7 H7 c7 => ?_
          rw [List.filter_cons, if_pos hb]
          exact (c7.forget 3).forget 4
        · rw [List.filter_cons, if_neg (by rw [hb]; simp), List.filter_nil, List.map_nil, List.map_nil, List.append_nil]
          exact (c6.forget 3).forget 4
    · rw [List.take_of_length_le (by omega)] at c4
      have c5 := c4.freeze (n := 2) rfl
      exact z_ret c5 (y_var rfl) k
end
end MW

/-! G17 -/
set_option Elab.async false
set_option linter.all false
set_option maxRecDepth 100000
set_option maxHeartbeats 400000
namespace MW
open PySem PySem.Spec L2

def gSz (c : Int) : Int := if c % 2 = 0 then 1 + c / 64 % 200 else 1 + c / 64 % 10 ^ 14
def gMn (c : Int) : Int := if c / 2 % 2 = 0 then c / 8 % 9 else c / 8 % 10 ^ 60
def gSl (ns : List Int) : List Int := (ns.drop (HT.sIx ns.length 0 (some 9))).take (HT.sIx ns.length ns.length (some 13) - HT.sIx ns.length 0 (some 9))
def gPairs (ns : List Int) : List (Int × Int) := (gSl ns).map (fun c => (gSz c, gMn c)) ++ [(1 + cellAt ns 0 / 64 % 99, 1)]
def greatR (ns : List Int) : List (Int × Int) := lotR (gPairs ns)
theorem gSl_len (ns : List Int) : (gSl ns).length ≤ 13 := by
  unfold gSl
  rw [List.length_take]
  have : HT.sIx ns.length ns.length (some 13) ≤ 13 := by
    unfold HT.sIx
    first | (simp; done) | (simp; omega) | omega
  omega
theorem gSz_b (c : Int) : 1 ≤ gSz c ∧ gSz c ≤ 10 ^ 14 := by
  unfold gSz
  split <;> omega
theorem gMn_b (c : Int) : 0 ≤ gMn c := by
  unfold gMn
  split <;> omega
theorem gIx (c : Int) : atI [PyData.int (c / 8 % 9), PyData.int (c / 8 % 10 ^ 60)] (c / 2 % 2) = some (.int (gMn c)) := by
  unfold gMn
  have : c / 2 % 2 = 0 ∨ c / 2 % 2 = 1 := by omega
  rcases this with h | h
  · rw [h, if_pos rfl]; rfl
  · rw [h, if_neg (by decide)]; rfl
section
variable {P : Program} {w : World} {K : PySem.W.Frag} {mg : Str → Option Value} {base : Heap}
def sp__law_great (K : PySem.W.Frag) : Sp := fun vs H Q E => ∃ (ns : List Int), True ∧ spP [Sc K ns] (D (.list ((greatR ns).map encP))) vs H Q E
theorem ok__law_great (T : Tx K mg) : Cal P w K mg base 2 "_law_great" ["script"] (sp__law_great K) := by
  have C__law_cell_at := ok__law_cell_at (P := P) (w := w) (base := base) T
  have C__law_lot := ok__law_lot (P := P) (w := w) (base := base) T
  obtain ⟨fd, F⟩ := T.c.def_ 34 (d := d__law_great) rfl
  refine ⟨_, fd, T.g__law_great, F.kp, FunD.bindsN (ps := ["script"]) F fun _ _ _ _ _ _ us hl => match us, hl with | [_], _ => rfl, def_ok F sc__law_great ?_ fun cdv A outer s H vs Q E hr h => ?_⟩
  · intro vs H Q E h
    obtain ⟨_, _, h⟩ := h
    exact h.len
  · obtain ⟨ns, tr, Hb, sm, ha, k⟩ := h
    have c := start_cur (N := N__law_great) (k := 3) sm ha (by repeat' (first | exact trivial | exact mono_D _ | exact mono_Ws | exact mono_Sc | refine ⟨?_, ?_⟩)) rfl
    refine ⟨_, (pss_cons (ps_set (i := 1) sc__law_great.nd rfl (Or.inl rfl) (pe_lst pa_nil))
  (pss_cons (ps_for PassesOwn.never rfl (pi_listK (K := K) rfl (pe_slice (kSl (K := K) rfl) (pv 0) (po_some pe_int) (po_some pe_int))) (pg_name (i := 2) sc__law_great.nd rfl (Or.inl rfl))
    (pss_cons (ps_set (i := 3) sc__law_great.nd rfl (Or.inl rfl) (pe_op op_add pe_int (pe_op op_mod (pe_op op_fdiv (pv 2) pe_int) (pe_op op_pow pe_int pe_int))))
  (pss_cons (ps_if (pt_cmpR op_eq (pe_op op_mod (pv 2) pe_int) pe_int (nomark _))
    (pss_one (ps_set (i := 3) sc__law_great.nd rfl (Or.inl rfl) (pe_op op_add pe_int (pe_op op_mod (pe_op op_fdiv (pv 2) pe_int) pe_int))))
    pss_nil)
  (pss_one (ps_expr (pe_bmK (K := K) rfl PySem.F.plainAttrs_list PySem.F.slot_list_append PySem.F.type_list_append mt_append (pv 1) (pa_cons (pe_tup (pa_cons (pv 3) (pa_cons (pe_ix (kxL (K := K) rfl) (pe_lst (pa_cons (pe_op op_mod (pe_op op_fdiv (pv 2) pe_int) pe_int) (pa_cons (pe_op op_mod (pe_op op_fdiv (pv 2) pe_int) (pe_op op_pow pe_int pe_int)) pa_nil))) (pe_op op_mod (pe_op op_fdiv (pv 2) pe_int) pe_int) (fun _ _ => rfl)) pa_nil))) pa_nil)))))))
  (pss_one (ps_ret (pe_cal C__law_lot (hr.mono (by decide)) (by rfl) (pa_cons (pe_op op_cat (pv 1) (pe_lst (pa_cons (pe_tup (pa_cons (pe_op op_add pe_int (pe_op op_mod (pe_op op_fdiv (pe_cal C__law_cell_at (hr.mono (by decide)) (by rfl) (pa_cons (pv 0) (pa_cons pe_int pa_nil))) pe_int) pe_int)) (pa_cons pe_int pa_nil))) pa_nil))) pa_nil)))))), ?_⟩
    have sl := gSl_len ns
    refine q_new c fun σ1 H1 c1 => ?_
    refine q_forL (xs := gSl ns) (enc := .int) (vs := [2]) c1 (y_slSc (y_var rfl) (yo_some y_int) (yo_some y_int)) (fun i => [.p (Sc K ns), .own ((((gSl ns).take i).map fun c => (gSz c, gMn c)).map encP), .no, .no])
      (fun i y => [.p (Sc K ns), .own ((((gSl ns).take i).map fun c => (gSz c, gMn c)).map encP), .p (D (.int y)), .no]) (fun _ _ c => c) (fun i x _ => yg_name) (fun Hb1 _ i y hy σ4 H4 c4 => ?_) (fun σ4 H4 c4 => ?_)
    · have e : (gSl ns).take (i + 1) = (gSl ns).take i ++ [y] := by rw [List.take_add_one, hy]; rfl
      have len : (((gSl ns).take i).map fun c => (gSz c, gMn c)).length ≤ 13 := by rw [List.length_map, List.length_take]; omega
      rw [e, List.map_append, List.map_append]
      generalize ((gSl ns).take i).map (fun c => (gSz c, gMn c)) = acc at c4 len
      refine q_asgD c4 (d := .int (1 + y / 64 % 10 ^ 14)) (y_I0 y_int (y_IC (y_IC (y_var rfl) y_int ⟨by decide, by decide⟩) (y_IC y_int y_int ⟨by decide, by decide, by decide⟩) (by decide))) fun σ5 H5 c5 => ?_
      refine z_when (b := decide (y % 2 = 0)) c5 (yt_is (yt_test (y_eq (y_IC (y_var rfl) y_int (by decide)) y_int rfl)) rfl) (fun hb H6 c6 => ?_) (fun hb H6 c6 => ?_)
      · refine z_asgD c6 (d := .int (gSz y)) (y_is (y_I0 (g := fun a b => a + b) y_int (y_IC (y_IC (y_var rfl) y_int ⟨by decide, by decide⟩) y_int (by decide))) (by unfold gSz; rw [if_pos (of_decide_eq_true hb)])) fun σ7 H7 c7 => ?_
        refine z_app c7 (n := 1) (d := encP (gSz y, gMn y)) rfl (y_tup (ya_consD (y_var rfl) (ya_consD (y_ixL (y_lst (ds := [.int (y / 8 % 9), .int (y / 8 % 10 ^ 60)]) (ya_consD (y_IC (y_IC (y_var rfl) y_int ⟨by decide, by decide⟩) y_int (by decide)) (ya_consD (y_IC (y_IC (y_var rfl) y_int ⟨by decide, by decide⟩) (y_IC y_int y_int ⟨by decide, by decide, by decide⟩) (by decide)) ya_nilD)) (by simp)) (y_IC (y_IC (y_var rfl) y_int ⟨by decide, by decide⟩) y_int (by decide)) (gIx y)) ya_nilD)) (by simp)) (by rw [List.length_map]; omega) fun σ8 H8 c8 => ?_
        exact (c8.forget 2).forget 3
      · have e2 : 1 + y / 64 % 10 ^ 14 = gSz y := by unfold gSz; rw [if_neg (of_decide_eq_false hb)]
        rw [e2] at c6
        refine z_app c6 (n := 1) (d := encP (gSz y, gMn y)) rfl (y_tup (ya_consD (y_var rfl) (ya_consD (y_ixL (y_lst (ds := [.int (y / 8 % 9), .int (y / 8 % 10 ^ 60)]) (ya_consD (y_IC (y_IC (y_var rfl) y_int ⟨by decide, by decide⟩) y_int (by decide)) (ya_consD (y_IC (y_IC (y_var rfl) y_int ⟨by decide, by decide⟩) (y_IC y_int y_int ⟨by decide, by decide, by decide⟩) (by decide)) ya_nilD)) (by simp)) (y_IC (y_IC (y_var rfl) y_int ⟨by decide, by decide⟩) y_int (by decide)) (gIx y)) ya_nilD)) (by simp)) (by rw [List.length_map]; omega) fun σ8 H8 c8 => ?_
        exact (c8.forget 2).forget 3
    · rw [List.take_length] at c4
      refine z_ret c4 (y_call (As := [D (.list ((gPairs ns).map encP))]) (ya_cons (y_is (y_catOwn (n := 1) (es := [encP (1 + cellAt ns 0 / 64 % 99, 1)]) rfl (y_lst (ds := [encP (1 + cellAt ns 0 / 64 % 99, 1)]) (ya_consD (y_tup (ya_consD (y_I0 y_int (y_IC (y_IC (y_call (As := [Sc K ns, D (.int ((0 : Nat) : Int))]) (ya_cons (y_var rfl) mono_Sc (ya_cons y_int (mono_D _) ya_nil)) fun vs H Q h => ⟨_, _, h⟩) y_int ⟨by decide, by decide⟩) y_int (by decide))) (ya_consD y_int ya_nilD)) (by simp)) ya_nilD) (by simp)) ?_) ?_) (mono_D _) ya_nil) fun vs H Q h => ⟨_, ?_, h⟩) k
      · rw [List.length_map, List.length_map]
        show _ + 1 ≤ 100000
        omega
      · unfold gPairs
        rw [List.map_append]; rfl
      · unfold gPairs
        rw [List.length_append, List.length_map]
        show _ + 1 ≤ 100000
        omega
end
end MW

/-! G18 -/
set_option Elab.async false
set_option linter.all false
set_option maxRecDepth 100000
set_option maxHeartbeats 400000
namespace MW
open PySem PySem.Spec L2

/-! ### dicts of lots -/
section
variable {β : Type}
def stG (l : List (Int × β)) (k : Int) (d : β) : List (Int × β) := if k ∈ l.map (·.1) then l.map (fun q => if q.1 = k then (q.1, d) else q) else l ++ [(k, d)]
def lkG (l : List (Int × β)) (k : Int) : Option β := (l.find? fun q => decide (q.1 = k)).map (·.2)
def mkG (ps : List (Int × β)) : List (Int × β) := ps.foldl (fun acc q => stG acc q.1 q.2) []
abbrev enG (f : β → PyData) (l : List (Int × β)) : List (Int × PyData) := l.map fun q => (q.1, f q.2)
theorem enG_keys (f : β → PyData) (l : List (Int × β)) : (enG f l).map (·.1) = l.map (·.1) := by unfold enG; rw [List.map_map]; rfl
theorem enG_st (f : β → PyData) (l : List (Int × β)) (k : Int) (d : β) : stD (enG f l) k (f d) = enG f (stG l k d) := by
  unfold stD stG
  rw [enG_keys]
  split
  · unfold enG
    rw [List.map_map, List.map_map]
    refine List.map_congr_left fun q _ => ?_
    show (if q.1 = k then (q.1, f d) else (q.1, f q.2)) = ((if q.1 = k then (q.1, d) else q : Int × β).1, f (if q.1 = k then (q.1, d) else q : Int × β).2)
    split <;> rfl
  · unfold enG; rw [List.map_append]; rfl
theorem enG_lk (f : β → PyData) (l : List (Int × β)) (k : Int) : lkD (enG f l) k = (lkG l k).map f := by
  unfold lkD lkG enG
  induction l with
  | nil => rfl
  | cons q l ih =>
    rw [List.map_cons, List.find?_cons, List.find?_cons]
    by_cases e : q.1 = k
    · simp [e]
    · simp only [decide_eq_false e]; exact ih
theorem enG_mk (f : β → PyData) (ps : List (Int × β)) : mkD (enG f ps) = enG f (mkG ps) := by
  have key : ∀ (ps l : List (Int × β)), (enG f ps).foldl (fun acc q => stD acc q.1 q.2) (enG f l) = enG f (ps.foldl (fun acc q => stG acc q.1 q.2) l) := by
    intro ps
    induction ps with
    | nil => intro l; rfl
    | cons p ps ih =>
      intro l
      show (enG f ps).foldl _ (stD (enG f l) p.1 (f p.2)) = _
      rw [enG_st, ih]; rfl
  exact key ps []
end
abbrev Bins := List (Int × List (Int × Int))
@[reducible] def lotD (l : List (Int × Int)) : PyData := .list (l.map encP)
def pourS (l : Bins) (q : Int × List (Int × Int)) : Bins := stG l q.1 (lotR ((lkG l q.1).getD [] ++ q.2))
def pouredR (bins more : Bins) : Bins := more.foldl pourS (mkG bins)
theorem lotR_len (l : List (Int × Int)) : (lotR l).length ≤ l.length := by
  unfold lotR
  rw [List.length_map]
  have h1 := List.length_filter_le (fun s => decide (0 < tot l s)) (isort (keysD l))
  rw [isort_len] at h1
  have := nd_le (keysD_nd l) (m := l.map (·.1)) fun k hk => (keysD_mem l k).mp hk
  rw [List.length_map] at this; omega
theorem stG_mem {β : Type} {l : List (Int × β)} {k : Int} {d : β} {q : Int × β} (h : q ∈ stG l k d) : q ∈ l ∨ q.2 = d := by
  unfold stG at h
  split at h
  · obtain ⟨q0, h0, h1⟩ := List.mem_map.mp h
    by_cases e : q0.1 = k
    · rw [if_pos e] at h1; rw [← h1]; exact .inr rfl
    · rw [if_neg e] at h1; rw [← h1]; exact .inl h0
  · rcases List.mem_append.mp h with z | z
    · exact .inl z
    · rw [List.mem_singleton.mp z]; exact .inr rfl
theorem mkG_mem {β : Type} {ps : List (Int × β)} {q : Int × β} (h : q ∈ mkG ps) : ∃ r ∈ ps, q.2 = r.2 := by
  have key : ∀ (ps l : List (Int × β)), q ∈ ps.foldl (fun acc q => stG acc q.1 q.2) l → q ∈ l ∨ ∃ r ∈ ps, q.2 = r.2 := by
    intro ps
    induction ps with
    | nil => intro l h; exact .inl h
    | cons p ps ih =>
      intro l h
      rcases ih _ h with z | ⟨r, hr, e⟩
      · rcases stG_mem z with y | y
        · exact .inl y
        · exact .inr ⟨p, List.mem_cons_self, y⟩
      · exact .inr ⟨r, List.mem_cons_of_mem _ hr, e⟩
  rcases key ps [] h with z | z
  · cases z
  · exact z
theorem lkG_mem {β : Type} {l : List (Int × β)} {k : Int} {d : β} (h : lkG l k = some d) : (k, d) ∈ l := by
  unfold lkG at h
  cases e : l.find? fun q => decide (q.1 = k) with
  | none => rw [e] at h; cases h
  | some q =>
    rw [e] at h
    cases h
    have h1 := List.find?_some e
    have h2 := List.mem_of_find?_eq_some e
    have h3 : q.1 = k := by simpa using h1
    rw [← h3]; exact h2
theorem pour_len {n : Nat} {l : Bins} (h : ∀ q ∈ l, q.2.length ≤ n) {q : Int × List (Int × Int)} (hq : q.2.length ≤ 2000) : ((lkG l q.1).getD [] ++ q.2).length ≤ n + 2000 ∧ ∀ r ∈ pourS l q, r.2.length ≤ n + 2000 := by
  have h1 : ((lkG l q.1).getD [] ++ q.2).length ≤ n + 2000 := by
    rw [List.length_append]
    cases e : lkG l q.1 with
    | none => show ([] : List (Int × Int)).length + _ ≤ _; rw [List.length_nil]; omega
    | some d =>
      have := h _ (lkG_mem e)
      show d.length + _ ≤ _
      dsimp only at this
      omega
  refine ⟨h1, fun r hr => ?_⟩
  rcases stG_mem hr with z | z
  · have := h r z; omega
  · rw [z]
    have := lotR_len ((lkG l q.1).getD [] ++ q.2)
    omega
theorem pours_len {bins : Bins} (h : ∀ q ∈ bins, q.2.length ≤ 2000) : ∀ (more : Bins), (∀ q ∈ more, q.2.length ≤ 2000) → ∀ r ∈ pouredR bins more, r.2.length ≤ 2000 + 2000 * more.length := by
  have key : ∀ (more l : Bins) (n : Nat), (∀ q ∈ l, q.2.length ≤ n) → (∀ q ∈ more, q.2.length ≤ 2000) → ∀ r ∈ more.foldl pourS l, r.2.length ≤ n + 2000 * more.length := by
    intro more
    induction more with
    | nil => intro l n hl _ r hr; have := hl r hr; simpa using this
    | cons q more ih =>
      intro l n hl hm r hr
      have := ih (pourS l q) (n + 2000) (pour_len hl (hm q List.mem_cons_self)).2 (fun q hq => hm q (List.mem_cons_of_mem _ hq)) r hr
      rw [List.length_cons]; omega
  intro more hm
  refine key more (mkG bins) 2000 (fun q hq => ?_) hm
  obtain ⟨r, hr, e⟩ := mkG_mem hq
  rw [e]; exact h r hr
theorem stG_len {β : Type} (l : List (Int × β)) (k : Int) (d : β) : (stG l k d).length ≤ l.length + 1 := by
  unfold stG
  split
  · rw [List.length_map]; omega
  · rw [List.length_append]; exact Nat.le_refl _
theorem mkG_len {β : Type} (ps : List (Int × β)) : (mkG ps).length ≤ ps.length := by
  have key : ∀ (ps l : List (Int × β)), (ps.foldl (fun acc q => stG acc q.1 q.2) l).length ≤ l.length + ps.length := by
    intro ps
    induction ps with
    | nil => intro l; exact Nat.le_refl _
    | cons p ps ih =>
      intro l
      rw [List.foldl_cons, List.length_cons]
      have := ih (stG l p.1 p.2)
      have := stG_len l p.1 p.2
      omega
  have := key ps []
  rw [List.length_nil, Nat.zero_add] at this
  exact this
theorem poured_len (bins more : Bins) : (pouredR bins more).length ≤ bins.length + more.length := by
  have key : ∀ (more l : Bins), (more.foldl pourS l).length ≤ l.length + more.length := by
    intro ps
    induction ps with
    | nil => intro l; exact Nat.le_refl _
    | cons p ps ih =>
      intro l
      rw [List.foldl_cons, List.length_cons]
      have h1 := ih (pourS l p)
      have h2 : (pourS l p).length ≤ l.length + 1 := stG_len _ _ _
      omega
  have h1 := key more (mkG bins)
  have h2 := mkG_len bins
  unfold pouredR
  omega
section
variable {R : Res} {K : PySem.W.Frag} {Hb0 H0 H : Hp} {G : Ctx} {σ : L2.St} {De : Ends} {ta tb te : TE} {tz : TS}
/-- x = dict(pairs), to be changed later -/
theorem q_dictOwn {i : Nat} {ps : List (Int × PyData)} (c : Cur Hb0 H0 G σ H) (ha : Y R0 ta G (D (.list (ps.map fun q => .tuple [.int q.1, q.2])))) (k : ∀ σ' H', Cur Hb0 H0 (G.set i (.ownD ((mkD ps).map fun q => (PyData.int q.1, q.2)))) σ' H' → tz De σ' H') : tSeq (tAsg (tCB (rDictP K) (tCons ta tNil)) (gName i)) tz De σ H := by
  obtain ⟨Hb, g, E⟩ := c
  refine ha H0 Hb H σ E trivial g.in_ _ fun x Hb1 H1 g1 p1 => ?_
  obtain ⟨a, vs, rfl, h1, r1⟩ := p1
  have key : ∀ {ps : List (Int × PyData)} {vs : List V}, DvAll Hb1 (ps.map fun q => PyData.tuple [.int q.1, q.2]) vs → ∃ (as : List Addr) (kvs : List (Key × V)), vs = as.map V.ref ∧ Paired (fun p kv => SqT K H1 p [kV kv.1, kv.2]) as kvs ∧ ∀ (l : List (Int × PyData)) (qs : List (Key × V)), DvKv Hb1 (l.map fun q => (PyData.int q.1, q.2)) qs → DvKv Hb1 ((ps.foldl (fun acc q => stD acc q.1 q.2) l).map fun q => (PyData.int q.1, q.2)) (mergeK qs kvs) := by
    intro ps
    induction ps with
    | nil =>
      intro vs h
      obtain rfl := show vs = [] from h
      exact ⟨[], [], rfl, .nil, fun l qs h => h⟩
    | cons x ps ih =>
      rintro vs ⟨v, r, rfl, ⟨b, us, rfl, hb, u1, r1, rfl, k1, u2, r2, rfl, k2, rfl⟩, h⟩
      obtain ⟨as, kvs, rfl, c, z⟩ := ih h
      obtain rfl := show u1 = V.int x.1 from k1
      exact ⟨b :: as, ((Sum.inl x.1 : Key), u2) :: kvs, rfl, .cons (.inl (.inl (g1.in_ _ _ hb))) c, fun l qs hh => z _ _ (DvKv.put hh k2)⟩
  obtain ⟨as, kvs, rfl, c, z⟩ := key r1
  refine ⟨a, as, kvs, rfl, .inl (.inl (g1.in_ _ _ h1)), c, fun p hp => k _ _ ⟨Hb1, g.trans (g1.trans (.own g1.in_ hp)), ?_⟩⟩
  refine (E.grow (g1.trans (.own g1.in_ hp))).putOwn rfl (fun j f k q m _ s => ?_) ⟨p, _, rfl, upd_same, g1.in_.free hp, (g.al.trans g1.al).free hp, z [] [] rfl⟩
  rintro rfl
  exact ((E.grow g1).mineAt q m s).1 hp
/-- x.get(k, d) of an own dict -/
theorem y_dget2Own {n : Nat} {l : List (Int × PyData)} {k : Int} {e : PyData} (h : G[n]? = some (.ownD (l.map fun q => (PyData.int q.1, q.2)))) (hb : Y R tb G (D (.int k))) (hc : Y R te G (D e)) : Y R (tDGet2 (tVar n) tb te) G (D ((lkD l k).getD e)) := fun H0 Hb H σ E rr s Q q => by
  obtain ⟨a, ps, e1, e2, e3, e4, e5⟩ := E.ent _ _ h
  refine ⟨_, e1, a, rfl, .inl ⟨ps, .inl e2⟩, hb H0 Hb H σ E rr s _ fun y Hb2 H2 g2 p2 => hc H0 Hb2 H2 σ (E.grow g2) (R.st _ _ _ _ _ rr g2) g2.in_ _ fun z Hb3 H3 g3 p3 => ?_⟩
  obtain rfl : y = .int k := p2
  have h3 := (g2.trans g3).al _ _ e2
  refine ⟨_, DGet.k (k := (Sum.inl k : Key)) h3, ?_⟩
  cases w : lkD l k with
  | none => rw [DvKv.no e5 w]; exact q _ Hb3 H3 (g2.trans g3) (by rw [w]; exact p3)
  | some d =>
    obtain ⟨v, f1, f2⟩ := DvKv.get e5 w
    rw [f1]
    exact q _ Hb3 H3 (g2.trans g3) (by rw [w]; exact Dv.mono (g2.fz.trans g3.fz) d v f2)
/-- x[k] = .. of an own dict -/
theorem z_dput {n i : Nat} {l : List (Int × PyData)} {k : Int} {d : PyData} (c : Cur Hb0 H0 G σ H) (h : G[n]? = some (.ownD (l.map fun q => (PyData.int q.1, q.2)))) (hi : G[i]? = some (.p (D (.int k)))) (hl : l.length ≤ 100000) (hy : Y R0 te G (D d))
    (kk : ∀ σ' H', Cur Hb0 H0 (G.set n (.ownD ((stD l k d).map fun q => (PyData.int q.1, q.2)))) σ' H' → De.nx σ' H') : sDPut (tVar n) (tVar i) te De σ H := by
  obtain ⟨Hb, g, E⟩ := c
  refine hy H0 Hb H σ E trivial g.in_ _ fun v Hb2 H2 g2 p => ?_
  have E2 := E.grow g2
  obtain ⟨a, ps, e1, e2, e3, e4, e5⟩ := E2.ent _ _ h
  obtain ⟨u, e6, e7⟩ := E2.var hi
  obtain rfl := show u = V.int k from e7
  refine ⟨_, e1, _, e6, a, _, rfl, DPut.k (k := (Sum.inl k : Key)) e2 ?_, kk _ _ ⟨Hb2, (g.trans g2).mut e3 e4, E2.change h rfl e1 rfl ⟨a, _, rfl, upd_same, e3, e4, DvKv.put e5 p⟩⟩⟩
  rw [(DvKv.at e5).2.1]
  exact Nat.lt_of_le_of_lt hl (by decide)
end
section
variable {P : Program} {w : World} {K : PySem.W.Frag} {mg : Str → Option Value} {base : Heap}
def sp__law_poured : Sp := fun vs H Q E => ∃ (bins more : Bins), (bins.length ≤ 20 ∧ more.length ≤ 20 ∧ (∀ q ∈ bins, q.2.length ≤ 2000) ∧ ∀ q ∈ more, q.2.length ≤ 2000) ∧ spP [D (.list (bins.map encB)), D (.list (more.map encB))] (D (dD (enG lotD (pouredR bins more)))) vs H Q E
theorem ok__law_poured (T : Tx K mg) : Cal P w K mg base 2 "_law_poured" ["bins", "more"] sp__law_poured := by
  have C__law_lot := ok__law_lot (P := P) (w := w) (base := base) T
  obtain ⟨fd, F⟩ := T.c.def_ 35 (d := d__law_poured) rfl
  refine ⟨_, fd, T.g__law_poured, F.kp, FunD.bindsN (ps := ["bins", "more"]) F fun _ _ _ _ _ _ us hl => match us, hl with | [_, _], _ => rfl, def_ok F sc__law_poured ?_ fun cdv A outer s H vs Q E hr h => ?_⟩
  · intro vs H Q E h
    obtain ⟨_, _, _, h⟩ := h
    exact h.len
  · obtain ⟨bins, more, pre, Hb, sm, ha, k⟩ := h
    have c := start_cur (N := N__law_poured) (k := 4) sm ha (by repeat' (first | exact trivial | exact mono_D _ | exact mono_Ws | exact mono_Sc | refine ⟨?_, ?_⟩)) rfl
    refine ⟨_, (pss_cons (ps_set (i := 2) sc__law_poured.nd rfl (Or.inl rfl) (pe_callTy (kDictP (K := K) rfl rfl) (by rfl) T.dict bb_dict (pa_cons (pe_lc (own := [("pair", 5)]) (g := (gName 5)) rfl sc__law_poured.nd (pi_listK (K := K) rfl (pv 0)) (blkOk_by (own := [("pair", 5)]) (N := N__law_poured) (sc := defScope s__law_poured) (by decide +kernel)) (fun _ _ _ _ _ => (pg_name (i := 5) sc__law_poured.nd rfl (Or.inl rfl))) (fun _ _ _ _ _ => pts_nil) (fun _ _ _ _ _ => (pe_tup (pa_cons (pe_ix (kxT (K := K) rfl) (pv 5) pe_int (fun _ _ => rfl)) (pa_cons (pe_callTy (kListOf (K := K) rfl) (by rfl) T.list bb_list (pa_cons (pe_ix (kxT (K := K) rfl) (pv 5) pe_int (fun _ _ => rfl)) pa_nil)) pa_nil))))) pa_nil)))
  (pss_cons (ps_for PassesOwn.never rfl (pi_listK (K := K) rfl (pv 1)) (pg_tupK (K := K) rfl rfl (pgs_cons (pg_name (i := 3) sc__law_poured.nd rfl (Or.inl rfl)) (pgs_cons (pg_name (i := 4) sc__law_poured.nd rfl (Or.inl rfl)) pgs_nil)))
    (pss_one (ps_dput (hu_of hr) (pv 2) (pv 3) (pe_cal C__law_lot (hr.mono (by decide)) (by rfl) (pa_cons (pe_op op_cat (pe_dget2 (hu_of hr) (pv 2) (pv 3) (pe_lst pa_nil) ⟨rfl, rfl, rfl, rfl⟩) (pv 4)) pa_nil)) rfl)))
  (pss_one (ps_ret (pv 2))))), ?_⟩
    obtain ⟨b1, b2, b3, b4⟩ := pre
    refine q_dictOwn (i := 2) (ps := enG lotD bins) c (y_is (y_lcL (xs := bins) (enc := encB) (e := encB) (b := fun _ => true) (fun x => [.p (D (.list (bins.map encB))), .p (D (.list (more.map encB))), .no, .no, .no, .p (D (encB x))]) (y_var rfl) (by omega) (fun x _ => yg_name) (fun x _ => yt_yes) (fun x _ _ => y_tup (ya_consD (by (repeat' (first | with_reducible exact y_int | with_reducible exact y_str | (with_reducible show Y _ (tVar _) _ _; exact y_var rfl) | (with_reducible refine' y_eq _ _ _) | (with_reducible refine' y_ixT _ _ _) | with_reducible refine' y_ixL _ _ _ | with_reducible exact ya_nilD | with_reducible exact y_bl | with_reducible exact y_non | with_reducible exact yo_none | with_reducible exact yt_yes | with_reducible refine' yt_test _ | with_reducible refine' yt_B _ | with_reducible refine' yt_not _ | with_reducible refine' yt_and _ (fun _ => _) | with_reducible refine' yt_or _ (fun _ => _) | with_reducible refine' y_I0 _ _ | with_reducible refine' y_B0 _ _ | with_reducible refine' y_IC _ _ _ | with_reducible refine' y_parts (by assumption) _ | with_reducible refine' y_rows (by assumption) _ | with_reducible refine' ya_consD _ _ | with_reducible refine' y_tup _ (by simp) | with_reducible refine' y_lst _ (by simp) | (with_reducible show Y _ (tCB (rLen _) _) _ _; first | exact y_lenOwn rfl | exact y_lenSc (y_var rfl)) | with_reducible refine' y_len _ _ | with_reducible refine' y_ne _ _ _ | with_reducible refine' y_chain _ _ _ | with_reducible refine' y_andV _ (fun _ => _) | with_reducible refine' y_orV _ (fun _ => _) | with_reducible refine' y_isN _ | with_reducible refine' y_notN _ | exact rfl | (show _ = _; assumption) | exact atI_nat (by assumption) | (show CPow _ _; exact ⟨by decide, by decide, by decide⟩) | (show (0 : Int) < _; first | decide | omega) | (show CDiv _ _; exact ⟨by first | decide | omega, by first | decide | omega⟩) | (show CMul _ _; first | exact .inl ⟨by omega, by omega⟩ | exact .inr ⟨by omega, by omega⟩) ))) (ya_consD (y_listOf (y_ixT (y_var rfl) y_int rfl)) ya_nilD)) (by simp))) ?_) fun σ1 H1 c1 => ?_
    · rw [List.filter_eq_self.mpr (fun _ _ => rfl)]
      unfold enG
      rw [List.map_map]; rfl
    rw [enG_mk] at c1
    refine q_forL (xs := more) (enc := encB) (vs := [3, 4]) c1 (y_var rfl) (fun i => [.p (D (.list (bins.map encB))), .p (D (.list (more.map encB))), .ownD ((enG lotD (pouredR bins (more.take i))).map fun (q : Int × PyData) => (PyData.int q.1, q.2)), .no, .no, .no])
      (fun i y => [.p (D (.list (bins.map encB))), .p (D (.list (more.map encB))), .ownD ((enG lotD (pouredR bins (more.take i))).map fun (q : Int × PyData) => (PyData.int q.1, q.2)), .p (D (.int y.1)), .p (D (lotD y.2)), .no]) (fun _ _ c => c) (fun i x _ => yg_two (by decide)) (fun Hb1 _ i y hy σ4 H4 c4 => ?_) (fun σ4 H4 c4 => ?_)
    · have e : pouredR bins (more.take (i + 1)) = pourS (pouredR bins (more.take i)) y := by
        unfold pouredR
        rw [List.take_add_one, hy, List.foldl_append]; rfl
      rw [e]
      have tl : (more.take i).length ≤ 20 := by rw [List.length_take]; omega
      have len := pours_len b3 (more.take i) fun q hq => b4 q (List.mem_of_mem_take hq)
      have len2 := poured_len bins (more.take i)
      have hy2 := b4 y (List.mem_of_getElem? hy)
      generalize pouredR bins (more.take i) = l at c4 len len2
      have pl := (pour_len (q := y) len hy2).1
      unfold pourS
      rw [← enG_st lotD l y.1 (lotR ((lkG l y.1).getD [] ++ y.2))]
      refine z_dput (n := 2) (i := 3) (k := y.1) (d := lotD (lotR ((lkG l y.1).getD [] ++ y.2))) c4 rfl rfl ?_ (y_call (As := [D (lotD ((lkG l y.1).getD [] ++ y.2))]) (ya_cons (y_is (y_cat (ds := ((lkG l y.1).getD []).map encP) (y_is (y_dget2Own (n := 2) (l := enG lotD l) (k := y.1) (e := .list []) rfl (y_var rfl) (y_lst ya_nilD (by simp))) ?_) (y_var rfl) ?_) ?_) (mono_D _) ya_nil) fun vs H Q h => ⟨_, ?_, h⟩) fun σ5 H5 c5 => ?_
      · unfold enG; rw [List.length_map]; omega
      · rw [enG_lk]
        cases lkG l y.1 <;> rfl
      · rw [List.length_append] at pl
        rw [List.length_map, List.length_map]; omega
      · show PyData.list _ = PyData.list _
        rw [List.map_append]
      · omega
      · exact (c5.forget 3).forget 4
    · rw [List.take_length] at c4
      have c5 := c4.freezeD (n := 2) rfl
      exact z_ret c5 (y_var rfl) k
end
end MW

/-! G19 -/
set_option Elab.async false
set_option linter.all false
set_option maxRecDepth 100000
set_option maxHeartbeats 400000
namespace MW
open PySem PySem.Spec L2

theorem Cur.open {ι : Type} {φ : ι → Prop} {f : ι → PyData} {Hb0 H0 H : Hp} {G : Ctx} {σ : L2.St} {n : Nat} {P : Pr} (c : Cur Hb0 H0 G σ H) (h : G[n]? = some (.p P)) (hP : ∀ Hb v, P Hb v → ∃ x, φ x ∧ Dv Hb (f x) v) : ∃ x, φ x ∧ Cur Hb0 H0 (G.set n (.p (D (f x)))) σ H := by
  obtain ⟨Hb, g, E⟩ := c
  obtain ⟨m, v, e, p⟩ := E.ent _ _ h
  obtain ⟨x, p1, p2⟩ := hP Hb v p
  refine ⟨x, p1, Hb, g, ?_⟩
  have E2 := E.put (i := n) (mono_D (f x)) p2
  have es : σ.set n (some v) = σ := by
    refine List.ext_getElem? fun i => ?_
    by_cases z : n = i
    · subst z
      rw [List.getElem?_set_self', e]; rfl
    · rw [List.getElem?_set_ne z]
  rw [es] at E2
  exact E2
theorem mkG_self {β : Type} {ps : List (Int × β)} (h : (ps.map (·.1)).Nodup) : mkG ps = ps := by
  have key : ∀ (ps l : List (Int × β)), ((l ++ ps).map (·.1)).Nodup → ps.foldl (fun acc q => stG acc q.1 q.2) l = l ++ ps := by
    intro ps
    induction ps with
    | nil => intro l _; rw [List.append_nil]; rfl
    | cons p ps ih =>
      intro l hn
      have hp : p.1 ∉ l.map (·.1) := fun z => by
        rw [List.map_append, List.nodup_append] at hn
        exact hn.2.2 p.1 z p.1 (by simp) rfl
      have e : stG l p.1 p.2 = l ++ [p] := by unfold stG; rw [if_neg hp]
      rw [List.foldl_cons, e, ih (l ++ [p]) (by rw [List.append_assoc]; exact hn), List.append_assoc]; rfl
  have := key ps [] (by simpa using h)
  rw [List.nil_append] at this
  exact this
theorem lt_nd {l : List Int} (h : l.Pairwise (· < ·)) : l.Nodup := h.imp fun h => by omega
def handR (rows : List Rw) (b : Int) (done : List Int) : List Int := ((List.range rows.length).filter fun k => !isB b (rows.getD k (.crush 0))).map fun k => done.getD k 0
def cutB (bins : Bins) (b : Int) : Bins := bins.filter fun q => !decide (q.1 = b)
def intoR (bins : Bins) (b : Int) : List (Int × Int) := (lkG bins b).getD []
@[reducible] def dueD (rows : List Rw) (b : Int) (r : (Bins × List Int) × (Bins × List Int)) : PyData := .list [dD (enG lotD (pouredR (cutB r.1.1 b) r.2.1)), .list ((handR rows b r.1.2 ++ r.2.2).map .int)]
def DueOk (pt : Int) (rows1 rows2 : List Rw) (U : List Int) (lot : List (Int × Int)) (b : Int) (r : (Bins × List Int) × (Bins × List Int)) : Prop := Worked pt rows1 U 0 lot r.1.1 r.1.2 ∧ Worked pt rows2 U 0 (intoR r.1.1 b) r.2.1 r.2.2
def DueP (pt : Int) (rows1 rows2 : List Rw) (U : List Int) (lot : List (Int × Int)) (b : Int) : Pr := fun Hb v => ∃ r, DueOk pt rows1 rows2 U lot b r ∧ Dv Hb (dueD rows1 b r) v
theorem mono_WkP {pt : Int} {rows : List Rw} {U : List Int} {r : Nat} {lot : List (Int × Int)} : Mono (WkP pt rows U r lot) := fun _ _ _ s ⟨b, d, h1, h2⟩ => ⟨b, d, h1, Dv.mono s _ _ h2⟩
theorem mono_DueP {pt : Int} {rows1 rows2 : List Rw} {U : List Int} {lot : List (Int × Int)} {b : Int} : Mono (DueP pt rows1 rows2 U lot b) := fun _ _ _ s ⟨r, h1, h2⟩ => ⟨r, h1, Dv.mono s _ _ h2⟩
theorem lot_len {U : List Int} {l : List (Int × Int)} (h : (l.map (·.1)).Pairwise (· < ·)) (k : ∀ x ∈ l, x.1 ∈ U) : l.length ≤ U.length := by
  have := nd_le (lt_nd h) (m := U) fun y hy => by
    obtain ⟨x, hx, rfl⟩ := List.mem_map.mp hy
    exact k x hx
  rwa [List.length_map] at this
section
variable {pt : Int} {rows : List Rw} {U : List Int} {r : Nat} {lot : List (Int × Int)} {bins : Bins} {done : List Int}
theorem Worked.len (w : Worked pt rows U r lot bins done) : bins.length ≤ rows.length := by
  have h1 := nd_le (lt_nd w.bs) (m := rows.flatMap binN) fun y hy => List.mem_flatMap.mpr ⟨_, (w.bk y).mp hy, List.mem_singleton.mpr rfl⟩
  rw [List.length_map] at h1
  have := flat_binN rows
  omega
theorem Worked.lots (w : Worked pt rows U r lot bins done) {q : Int × List (Int × Int)} (hq : q ∈ bins) : q.2.length ≤ U.length := lot_len (w.ls q hq) fun x hx => (w.lk q hq x hx).1
theorem Worked.into (w : Worked pt rows U r lot bins done) (b : Int) : (intoR bins b).length ≤ U.length ∧ ∀ x ∈ intoR bins b, x.1 ∈ U ∧ 0 < x.2 := by
  unfold intoR
  cases e : lkG bins b with
  | none => exact ⟨Nat.zero_le _, fun x h => nomatch h⟩
  | some l => exact ⟨w.lots (lkG_mem e), w.lk _ (lkG_mem e)⟩
end
section
variable {P : Program} {w : World} {K : PySem.W.Frag} {mg : Str → Option Value} {base : Heap}
def sp__law_due (K : PySem.W.Frag) : Sp := fun vs H Q E => ∃ (pt : Int) (rows1 rows2 : List Rw) (U : List Int) (lot : List (Int × Int)) (b : Int), (WPre pt rows1 U lot ∧ WPre pt rows2 U lot ∧ 1 ≤ rows1.length ∧ rows1.length ≤ 12 ∧ 1 ≤ rows2.length ∧ rows2.length ≤ 12 ∧ U.length ≤ 2000) ∧ spP [Ws K pt rows1, D (.int b), Ws K pt rows2, D (lotD lot)] (DueP pt rows1 rows2 U lot b) vs H Q E
theorem ok__law_due (T : Tx K mg) : Cal P w K mg base 8 "_law_due" ["one", "number", "other", "lot"] (sp__law_due K) := by
  have C__law_poured := ok__law_poured (P := P) (w := w) (base := base) T
  have C_worked := ok_worked (P := P) (w := w) (base := base) T
  obtain ⟨fd, F⟩ := T.c.def_ 36 (d := d__law_due) rfl
  refine ⟨_, fd, T.g__law_due, F.kp, FunD.bindsN (ps := ["one", "number", "other", "lot"]) F fun _ _ _ _ _ _ us hl => match us, hl with | [_, _, _, _], _ => rfl, def_ok F sc__law_due ?_ fun cdv A outer s H vs Q E hr h => ?_⟩
  · intro vs H Q E h
    obtain ⟨_, _, _, _, _, _, _, h⟩ := h
    exact h.len
  · obtain ⟨pt, rows1, rows2, U, lot, b, pre, Hb, sm, ha, k⟩ := h
    have c := start_cur (N := N__law_due) (k := 7) sm ha (by repeat' (first | exact trivial | exact mono_D _ | exact mono_Ws | exact mono_Sc | refine ⟨?_, ?_⟩)) rfl
    refine ⟨_, (pss_cons (ps_set (i := 4) sc__law_due.nd rfl (Or.inr rfl) (pe_cal C_worked (hr.mono (by decide)) (by rfl) (pa_cons (pv 0) (pa_cons (pe_callTy (kListOf (K := K) rfl) (by rfl) T.list bb_list (pa_cons (pv 3) pa_nil)) pa_nil))))
  (pss_cons (ps_set (i := 5) sc__law_due.nd rfl (Or.inl rfl) (pe_dget2 (hu_of hr) (pe_callTy (kDictP (K := K) rfl rfl) (by rfl) T.dict bb_dict (pa_cons (pe_ix (kxT (K := K) rfl) (pv 4) pe_int (fun _ _ => rfl)) pa_nil)) (pv 1) (pe_lst pa_nil) ⟨rfl, rfl, rfl, rfl⟩))
  (pss_cons (ps_set (i := 6) sc__law_due.nd rfl (Or.inl rfl) (pe_cal C_worked (hr.mono (by decide)) (by rfl) (pa_cons (pv 2) (pa_cons (pe_callTy (kListOf (K := K) rfl) (by rfl) T.list bb_list (pa_cons (pv 5) pa_nil)) pa_nil))))
  (pss_cons (ps_set (i := 7) sc__law_due.nd rfl (Or.inl rfl) (pe_cal C__law_poured (hr.mono (by decide)) (by rfl) (pa_cons (pe_lc (own := [("pair", 10)]) (g := (gName 10)) rfl sc__law_due.nd (pi_listK (K := K) rfl (pe_ix (kxT (K := K) rfl) (pv 4) pe_int (fun _ _ => rfl))) (blkOk_by (own := [("pair", 10)]) (N := N__law_due) (sc := defScope s__law_due) (by decide +kernel)) (fun _ _ _ _ _ => (pg_name (i := 10) sc__law_due.nd rfl (Or.inl rfl))) (fun _ _ _ _ _ => (pts_one (pt_cmpR op_ne (pe_ix (kxT (K := K) rfl) (pv 10) pe_int (fun _ _ => rfl)) (pv 1) (nomark _)))) (fun _ _ _ _ _ => (pv 10))) (pa_cons (pe_ix (kxT (K := K) rfl) (pv 6) pe_int (fun _ _ => rfl)) pa_nil))))
  (pss_cons (ps_setLc (i := 8) (own := [("k", 9)]) (g := (gName 9)) rfl sc__law_due.nd rfl rfl (sw_true rfl rfl rfl (by decide +kernel)) (pi_range1 (by rfl) T.range (pa_cons (pe_callB (kLen (K := K) rfl) (by rfl) T.len bb_len (pa_cons (pe_fldK (K := K) rfl (pv 0) rfl) pa_nil)) pa_nil)) (blkOk_by (own := [("k", 9)]) (N := N__law_due) (sc := defScope s__law_due) (by decide +kernel)) (fun _ _ _ _ _ => (pg_name (i := 9) sc__law_due.nd rfl (Or.inl rfl))) (fun _ _ _ _ _ => (pts_one (pt_cmpR (kNeD (K := K) rfl hr.units) (pe_ix (kxL (K := K) rfl) (pe_fldK (K := K) rfl (pv 0) rfl) (pv 9) (fun _ _ => rfl)) (pe_tup (pa_cons pe_str (pa_cons (pv 1) pa_nil))) (nomark _)))) (fun _ _ _ _ _ => (pe_ix (kxL (K := K) rfl) (pe_ix (kxT (K := K) rfl) (pv 4) pe_int (fun _ _ => rfl)) (pv 9) (fun _ _ => rfl))))
  (pss_one (ps_ret (pe_lst (pa_cons (pv 7) (pa_cons (pe_op op_cat (pv 8) (pe_ix (kxT (K := K) rfl) (pv 6) pe_int (fun _ _ => rfl))) pa_nil)))))))))), ?_⟩
    obtain ⟨w1, w2, a1, a2, b1, b2, ul⟩ := pre
    refine q_asg c (P := WkP pt rows1 U 0 lot) (y_call (As := [Ws K pt rows1, D (lotD lot)]) (ya_cons (y_var rfl) mono_Ws (ya_cons (y_listOf (y_var rfl)) (mono_D _) ya_nil)) fun vs H Q h => ⟨pt, rows1, U, lot, ⟨w1, a1⟩, h⟩) mono_WkP fun σ1 H1 c1 => ?_
    obtain ⟨⟨bins1, done1⟩, k1, c1⟩ := c1.open (n := 4) (φ := fun r : Bins × List Int => Worked pt rows1 U 0 lot r.1 r.2) (f := fun r => toldD r.1 r.2) rfl fun Hb v ⟨x, y, h1, h2⟩ => ⟨(x, y), h1, h2⟩
    dsimp only at k1
    have n1 := lt_nd k1.bs
    have in1 := k1.into b
    refine q_asgD c1 (d := lotD (intoR bins1 b)) (y_is (y_dget2 (l := mkD (enG lotD bins1)) (k := b) (e := .list []) (y_dictP (ps := enG lotD bins1) (y_is (y_ixT (y_var rfl) y_int rfl) (by unfold enG; rw [List.map_map]; rfl))) (y_var rfl) (y_lst ya_nilD (by simp))) ?_) fun σ2 H2 c2 => ?_
    · rw [enG_mk, mkG_self n1, enG_lk]
      unfold intoR
      cases lkG bins1 b <;> rfl
    have w2' : WPre pt rows2 U (intoR bins1 b) := ⟨w2.1, w2.2.1, w2.2.2.1, w2.2.2.2.1, w2.2.2.2.2.1, w2.2.2.2.2.2.1, by omega, in1.2⟩
    refine q_asg c2 (P := WkP pt rows2 U 0 (intoR bins1 b)) (y_call (As := [Ws K pt rows2, D (lotD (intoR bins1 b))]) (ya_cons (y_var rfl) mono_Ws (ya_cons (y_listOf (y_var rfl)) (mono_D _) ya_nil)) fun vs H Q h => ⟨pt, rows2, U, intoR bins1 b, ⟨w2', b1⟩, h⟩) mono_WkP fun σ3 H3 c3 => ?_
    obtain ⟨⟨bins2, done2⟩, k2, c3⟩ := c3.open (n := 6) (φ := fun r : Bins × List Int => Worked pt rows2 U 0 (intoR bins1 b) r.1 r.2) (f := fun r => toldD r.1 r.2) rfl fun Hb v ⟨x, y, h1, h2⟩ => ⟨(x, y), h1, h2⟩
    dsimp only at k2
    have l1 := k1.len
    have l2 := k2.len
    have hd : ∀ x, x < rows1.length → rows1[x]? = some (rows1.getD x (.crush 0)) := fun x hx => by
      rw [List.getD_eq_getElem?_getD, List.getElem?_eq_getElem hx]; rfl
    have hdd : ∀ x, x < rows1.length → done1[x]? = some (done1.getD x 0) := fun x hx => by
      have hx' : x < done1.length := by rw [k1.dl]; exact hx
      rw [List.getD_eq_getElem?_getD, List.getElem?_eq_getElem hx']; rfl
    refine q_asgD c3 (d := dD (enG lotD (pouredR (cutB bins1 b) bins2))) (y_call (As := [D (.list ((cutB bins1 b).map encB)), D (.list (bins2.map encB))]) (ya_cons (y_lcL (xs := bins1) (enc := encB) (e := encB) (b := fun q => !decide (q.1 = b)) (fun x => [.p (Ws K pt rows1), .p (D (.int b)), .p (Ws K pt rows2), .p (D (lotD lot)), .p (D (toldD bins1 done1)), .p (D (lotD (intoR bins1 b))), .p (D (toldD bins2 done2)), .no, .no, .no, .p (D (encB x))]) (y_ixT (y_var rfl) y_int rfl) (by omega) (fun x _ => yg_name) (fun x _ => yt_test (y_neI (by (repeat' (first | with_reducible exact y_int | with_reducible exact y_str | (with_reducible show Y _ (tVar _) _ _; exact y_var rfl) | (with_reducible refine' y_eq _ _ _) | (with_reducible refine' y_ixT _ _ _) | with_reducible refine' y_ixL _ _ _ | with_reducible exact ya_nilD | with_reducible exact y_bl | with_reducible exact y_non | with_reducible exact yo_none | with_reducible exact yt_yes | with_reducible refine' yt_test _ | with_reducible refine' yt_B _ | with_reducible refine' yt_not _ | with_reducible refine' yt_and _ (fun _ => _) | with_reducible refine' yt_or _ (fun _ => _) | with_reducible refine' y_I0 _ _ | with_reducible refine' y_B0 _ _ | with_reducible refine' y_IC _ _ _ | with_reducible refine' y_parts (by assumption) _ | with_reducible refine' y_rows (by assumption) _ | with_reducible refine' ya_consD _ _ | with_reducible refine' y_tup _ (by simp) | with_reducible refine' y_lst _ (by simp) | (with_reducible show Y _ (tCB (rLen _) _) _ _; first | exact y_lenOwn rfl | exact y_lenSc (y_var rfl)) | with_reducible refine' y_len _ _ | with_reducible refine' y_ne _ _ _ | with_reducible refine' y_chain _ _ _ | with_reducible refine' y_andV _ (fun _ => _) | with_reducible refine' y_orV _ (fun _ => _) | with_reducible refine' y_isN _ | with_reducible refine' y_notN _ | exact rfl | (show _ = _; assumption) | exact atI_nat (by assumption) | (show CPow _ _; exact ⟨by decide, by decide, by decide⟩) | (show (0 : Int) < _; first | decide | omega) | (show CDiv _ _; exact ⟨by first | decide | omega, by first | decide | omega⟩) | (show CMul _ _; first | exact .inl ⟨by omega, by omega⟩ | exact .inr ⟨by omega, by omega⟩) ))) (y_var rfl))) (fun x _ _ => y_var rfl)) (mono_D _) (ya_cons (y_ixT (y_var rfl) y_int rfl) (mono_D _) ya_nil)) fun vs H Q h => ⟨_, _, ⟨?_, by omega, ?_, ?_⟩, h⟩) fun σ4 H4 c4 => ?_
    · have := List.length_filter_le (fun q : Int × List (Int × Int) => !decide (q.1 = b)) bins1
      unfold cutB; omega
    · intro q hq
      have := k1.lots (List.mem_filter.mp hq).1
      omega
    · intro q hq
      have := k2.lots hq
      omega
    refine q_asgD c4 (d := .list ((handR rows1 b done1).map .int)) (y_is (y_lcR (n := rows1.length) (e := fun k => .int (done1.getD k 0)) (b := fun k => !isB b (rows1.getD k (.crush 0))) (fun x => [.p (Ws K pt rows1), .p (D (.int b)), .p (Ws K pt rows2), .p (D (lotD lot)), .p (D (toldD bins1 done1)), .p (D (lotD (intoR bins1 b))), .p (D (toldD bins2 done2)), .p (D (dD (enG lotD (pouredR (cutB bins1 b) bins2)))), .no, .p (D (.int x)), .no]) (y_lenRows (y_rows T (y_var rfl))) (by omega) (fun x _ => yg_name) (fun x hx => yt_test (y_isnB (y_ixL (y_rows T (y_var rfl)) (y_var rfl) (atI_nat (by rw [List.getElem?_map, hd x hx]; rfl))) (y_var rfl))) (fun x hx _ => y_ixL (y_ixT (y_var rfl) y_int rfl) (y_var rfl) (atI_nat (by rw [List.getElem?_map, hdd x hx]; rfl)))) (by unfold handR; rw [List.map_map]; rfl)) fun σ5 H5 c5 => ?_
    have hl : (handR rows1 b done1).length ≤ rows1.length := by
      unfold handR
      rw [List.length_map]
      have := List.length_filter_le (fun k => !isB b (rows1.getD k (.crush 0))) (List.range rows1.length)
      rw [List.length_range] at this
      exact this
    refine z_ret c5 (P := D (dueD rows1 b ((bins1, done1), (bins2, done2)))) (y_lst (ya_consD (y_var rfl) (ya_consD (y_is (y_cat (ds := (handR rows1 b done1).map .int) (es := done2.map .int) (y_var rfl) (y_ixT (y_var rfl) y_int rfl) ?_) ?_) ya_nilD)) (by simp)) fun v Hb2 H6 g d => k v Hb2 H6 g ⟨((bins1, done1), (bins2, done2)), ⟨k1, k2⟩, d⟩
    · rw [List.length_map, List.length_map, k2.dl]; omega
    · dsimp only
      rw [List.map_append]
end
end MW

/-! MI -/
set_option Elab.async false
set_option linter.all false
set_option maxRecDepth 100000
set_option maxHeartbeats 400000
namespace MW
open PySem PySem.Spec L2
/-! ### dicts from ints to lots compared: the same -/
section
variable {X : Cx}
theorem hits_data {H : Hp} {pins : List (Addr × Obj)} {σ : L2.St} {s : Shared} (I : Inv X pins σ H s) {A : Around} (hu : A.units + 61 < cLine) {ls : List (Key × V)} {vb : List (Key × Value)} (rb : KV ls vb) {ks : List (Key × V)} {va : List (Key × Value)} (ra : KV ks va) :
    (∀ p ∈ ks, ∃ u d, valV ls p.1 = some u ∧ Dp X.K H p.2 d ∧ Dp X.K H u d ∧ d.canLay0 = true ∧ d.depth ≤ 60 ∧ PyData.eqv d d = true) → PySem.W.KeqHits A s vb va true := by
  unfold KV at ra
  induction ra with
  | nil => intro _; exact .nil
  | @cons p q ps qs h t k =>
    intro hp
    obtain ⟨h1, h2⟩ := h
    obtain ⟨u, d, e, d1, d2, d3, d4, d5⟩ := hp p List.mem_cons_self
    have rr : RelO (some u) (valueAt vb p.1) := by rw [← e]; exact rb.val p.1
    obtain ⟨y, hy, ry⟩ := rr.some_of
    obtain ⟨key, v⟩ := q
    have h1' : p.1 = key := h1
    rw [h1'] at hy
    show PySem.W.KeqHits A s vb ((key, v) :: qs) (true && true)
    obtain ⟨as, r1⟩ := Dp.reads I d p.2 v d1 h2
    obtain ⟨bs, r2⟩ := Dp.reads I d u y d2 ry
    have eq := SeqAt.eqAt_reads d d A s v y as bs r1 r2 d3 d3 (by omega)
    rw [d5] at eq
    exact .hit hy eq (k fun p' hm => hp p' (List.mem_cons_of_mem _ hm))
def rDd (K : PySem.W.Frag) (r : Bool) : R2 := fun x y H Q => ∃ a b ks ls, x = .ref a ∧ y = .ref b ∧ H a = some (.dK ks) ∧ H b = some (.dK ls) ∧ ks.length = ls.length ∧ (∀ p ∈ ks, ∃ u d, valV ls p.1 = some u ∧ Dp K H p.2 d ∧ Dp K H u d ∧ d.canLay0 = true ∧ d.depth ≤ 60 ∧ PyData.eqv d d = true) ∧ Q (.bl r) H
theorem op_eqDd (hu : X.A.units + 64 < cLine) : OpR X (compareOp .Eq) (rDd X.K true) := by
  intro pins s σ H x y v u Q I rx ry h
  obtain ⟨a, b, ks, ls, rfl, rfl, ea, eb, hlen, hp, q⟩ := h
  obtain rfl : v = Value.ref a := rx
  obtain rfl : u = Value.ref b := ry
  obtain ⟨_, ya, va, ra, da⟩ := (show ObjOk X.prog X.w H s.heap a (.dK ks) from I.hok a _ ea)
  obtain ⟨_, yb, vb, rb, db⟩ := (show ObjOk X.prog X.w H s.heap b (.dK ls) from I.hok b _ eb)
  have hl : va.length = vb.length := by rw [← ra.length, ← rb.length]; exact hlen
  exact PySem.W.keq_eq (knd := mixKind X.prog X.w) (r := true) ya yb da db (by omega) (fun _ => hits_data I (A := X.A.in1) (by show X.A.units + 1 + 61 < cLine; omega) rb ra hp) (fin_bl I q (by simp [hl]))
theorem op_neDd (hu : X.A.units + 64 < cLine) : OpR X (compareOp .NotEq) (rDd X.K false) := by
  intro pins s σ H x y v u Q I rx ry h
  obtain ⟨a, b, ks, ls, rfl, rfl, ea, eb, hlen, hp, q⟩ := h
  obtain rfl : v = Value.ref a := rx
  obtain rfl : u = Value.ref b := ry
  obtain ⟨_, ya, va, ra, da⟩ := (show ObjOk X.prog X.w H s.heap a (.dK ks) from I.hok a _ ea)
  obtain ⟨_, yb, vb, rb, db⟩ := (show ObjOk X.prog X.w H s.heap b (.dK ls) from I.hok b _ eb)
  have hl : va.length = vb.length := by rw [← ra.length, ← rb.length]; exact hlen
  exact PySem.W.keq_ne (knd := mixKind X.prog X.w) (r := true) ya yb da db (by omega) (fun _ => hits_data I (A := X.A.in1) (by show X.A.units + 1 + 61 < cLine; omega) rb ra hp) (fin_bl I q (by simp [hl]))
variable {K : PySem.W.Frag}
theorem kEqDd (h : X.K = K) (hu : X.A.units + 64 < cLine) : OpR X (compareOp .Eq) (rDd K true) := by subst h; exact op_eqDd hu
theorem kNeDd (h : X.K = K) (hu : X.A.units + 64 < cLine) : OpR X (compareOp .NotEq) (rDd K false) := by subst h; exact op_neDd hu
end
theorem eqv_ints (ns : List Int) : PyData.eqvAll (ns.map PyData.int) (ns.map PyData.int) = true := by
  induction ns with
  | nil => rfl
  | cons n ns ih => simp [PyData.eqvAll, PyData.eqv, ih]
theorem eqv_lot (l : List (Int × Int)) : PyData.eqv (lotD l) (lotD l) = true := by
  show PyData.eqvAll (l.map encP) (l.map encP) = true
  induction l with
  | nil => rfl
  | cons q l ih => simp [PyData.eqvAll, PyData.eqv, encP, ih]
theorem canLay_lot (l : List (Int × Int)) : (lotD l).canLay0 = true := by
  show PyData.canLayAll0 (l.map encP) = true
  induction l with
  | nil => rfl
  | cons q l ih => simp [PyData.canLayAll0, PyData.canLay0, encP, ih]
theorem depth_lot (l : List (Int × Int)) : (lotD l).depth ≤ 60 := by
  have key : PyData.depthAll (l.map encP) ≤ 50 := by
    induction l with
    | nil => simp [PyData.depthAll]
    | cons q l ih => simp [PyData.depthAll, PyData.depth, encP]; omega
  show PyData.depth (.list (l.map encP)) ≤ 60
  unfold PyData.depth
  omega
theorem nod_lot (l : List (Int × Int)) : NoD (lotD l) = true := by
  show NoDs (l.map encP) = true
  induction l with
  | nil => rfl
  | cons q l ih => simp [NoDs, NoD, encP, ih]
section
variable {R : Res} {K : PySem.W.Frag} {G : Ctx} {ta tb : TE} {l m : Bins}
theorem DvKv.mem {H : Hp} : ∀ {l : Bins} {ps : List (Key × V)}, DvKv H ((enG lotD l).map fun q => (PyData.int q.1, q.2)) ps → ∀ p ∈ ps, ∃ q ∈ l, p.1 = (Sum.inl q.1 : Key) ∧ Dv H (lotD q.2) p.2
  | [], ps, h => by
    obtain rfl := show ps = [] from h
    exact fun _ h => nomatch h
  | q :: l, ps, h => by
    obtain ⟨i, v, r, e1, rfl, h1, h2⟩ := h
    obtain rfl : q.1 = i := PyData.int.inj e1
    intro p hp
    rcases List.mem_cons.mp hp with rfl | hp
    · exact ⟨q, List.mem_cons_self, rfl, h1⟩
    · obtain ⟨q', h3, h4⟩ := DvKv.mem h2 p hp
      exact ⟨q', List.mem_cons_of_mem _ h3, h4⟩
theorem y_dd {r : Bool} (ha : Y R ta G (D (dD (enG lotD l)))) (hb : Y R tb G (D (dD (enG lotD m)))) (hlen : l.length = m.length) (h : ∀ q ∈ l, lkG m q.1 = some q.2) : Y R (tOp (rDd K r) ta tb) G (D (.bool r)) := y_op ha (mono_D _) hb fun x y Hb H p1 p2 s Q q => by
  obtain ⟨a, ps, rfl, h1, r1⟩ := p1
  obtain ⟨b, qs, rfl, h2, r2⟩ := p2
  refine ⟨a, b, ps, qs, rfl, rfl, s _ _ h1, s _ _ h2, ?_, fun p hp => ?_, q _ Hb H (.refl s) rfl⟩
  · rw [(DvKv.at r1).2.1, (DvKv.at r2).2.1]
    unfold enG
    rw [List.length_map, List.length_map]; exact hlen
  · obtain ⟨e, he, e1, e2⟩ := DvKv.mem r1 p hp
    have e3 : lkD (enG lotD m) e.1 = some (lotD e.2) := by rw [enG_lk, h e he]; rfl
    obtain ⟨v, e4, e5⟩ := DvKv.get r2 e3
    refine ⟨v, lotD e.2, by rw [e1]; exact e4, Dv.dp _ _ (nod_lot _) (Dv.mono s _ _ e2), Dv.dp _ _ (nod_lot _) (Dv.mono s _ _ e5), canLay_lot _, depth_lot _, eqv_lot _⟩
end
end MW

/-! PM1 -/
set_option Elab.async false
set_option linter.all false
set_option maxRecDepth 100000
set_option maxHeartbeats 400000
namespace MW
open PySem PySem.Spec L2
/-! ### works without rings: induction -/
theorem itW_step {rows : List Rw} {s : Int} {r : Nat} {N : Nat} : itW rows s (some r) (1 + N) = itW rows s (wholeAt rows s r) N := itW_add 1 N
theorem itW_no {rows : List Rw} {s : Int} : ∀ N, itW rows s none N = none
  | 0 => rfl
  | N + 1 => by show (itW rows s none N).bind _ = none; rw [itW_no N]; rfl
section
variable {pt : Int} {rows : List Rw}
theorem goes_pos (p1 : 2 ≤ pt) (p2 : pt ≤ 9) {row : Rw} {s : Int} (hs : 1 ≤ s) {g : Nat × Int × Int} (hg : g ∈ goesR pt row s) : 1 ≤ g.2.1 ∧ g.2.1 ≤ s ∧ 0 < g.2.2 := by
  cases row with
  | bin b => cases hg
  | mesh c u oo =>
    have hg' : g ∈ (if s ≤ c then [(u, s, 1)] else [(oo, s, 1)]) := hg
    split at hg' <;> (rw [List.mem_singleton.mp hg']; exact ⟨hs, Int.le_refl _, (by decide : (0 : Int) < 1)⟩)
  | crush t =>
    obtain ⟨pc, hpc, rfl⟩ := List.mem_map.mp (show g ∈ (pieces s pt).map _ from hg)
    dsimp only
    have d3 := Int.emod_lt_of_pos s (show 0 < pt by omega)
    rcases pieces_cases hs p1 p2 with ⟨_, z1, z2, z⟩ | ⟨z1, z2, z⟩ | ⟨z1, z2, z3, z4, z⟩
    · rw [z] at hpc; rw [List.mem_singleton.mp hpc]; dsimp only; omega
    · rw [z] at hpc; rw [List.mem_singleton.mp hpc]; dsimp only; omega
    · rw [z] at hpc
      rcases List.mem_cons.mp hpc with y | y
      · rw [y]; dsimp only; omega
      · rw [List.mem_singleton.mp y]; dsimp only; omega
theorem goes_row {row : Rw} {n : Nat} {s : Int} (ok : row.ok n) {g : Nat × Int × Int} (hg : g ∈ goesR pt row s) : g.1 < n := by
  cases row with
  | bin b => cases hg
  | mesh c u oo =>
    obtain ⟨_, _, h1, h2⟩ := ok
    have hg' : g ∈ (if s ≤ c then [(u, s, 1)] else [(oo, s, 1)]) := hg
    split at hg' <;> (rw [List.mem_singleton.mp hg']; assumption)
  | crush t =>
    obtain ⟨pc, hpc, rfl⟩ := List.mem_map.mp (show g ∈ (pieces s pt).map _ from hg)
    exact ok
theorem works_ind (p1 : 2 ≤ pt) (p2 : pt ≤ 9) (ok : RowsOk rows) (nr : NoRing rows) {M : Nat → Int → Prop} (h : ∀ r row s, rows[r]? = some row → 1 ≤ s → (∀ g ∈ goesR pt row s, M g.1 g.2.1) → M r s) : ∀ (s : Int), 1 ≤ s → ∀ r, r < rows.length → M r s := by
  have key : ∀ (n : Nat) (s : Int), s = n → 1 ≤ s → ∀ r, r < rows.length → M r s := by
    intro n
    induction n using Nat.strongRecOn with
    | ind n ih =>
      intro s hn hs
      have inner : ∀ N r, r < rows.length → itW rows s (some r) N = none → M r s := by
        intro N
        induction N with
        | zero => intro r _ e; cases e
        | succ N ihN =>
          intro r hr e
          rw [Nat.add_comm, itW_step] at e
          have hrow : rows[r]? = some rows[r] := List.getElem?_eq_getElem hr
          refine h r rows[r] s hrow hs fun g hg => ?_
          obtain ⟨g1, g2, _⟩ := goes_pos p1 p2 hs hg
          have g3 := goes_row (ok _ (List.mem_of_getElem? hrow)) hg
          rcases Int.lt_or_eq_of_le g2 with z | z
          · exact ih g.2.1.toNat (by omega) g.2.1 (by omega) g1 g.1 g3
          · have w := (goes_whole p1 p2 hs hg).2 z
            have : wholeAt rows s r = some g.1 := by unfold wholeAt; rw [hrow]; exact w
            rw [this] at e
            rw [z]
            exact ihN g.1 g3 e
      intro r hr
      obtain ⟨N, _, e⟩ := nr s hs r hr
      exact inner N r hr e
  exact fun s hs r hr => key s.toNat s (by omega) hs r hr
/-! ### the weights -/
def FnW (pt : Int) (rows : List Rw) (α : Nat → Int) (β : Int → Int → Int) : Nat → Nat → Int → Int
  | 0, _, _ => 0
  | n + 1, r, s => match rows[r]? with
    | none => 0
    | some row => α r + (match row with | .bin b => β b s | _ => 0) + ((goesR pt row s).map fun g => g.2.2 * FnW pt rows α β n g.1 g.2.1).sum
theorem bound_all {ι : Type} {Q : ι → Nat → Prop} : ∀ (l : List ι), (∀ g ∈ l, ∃ N, ∀ n, N ≤ n → Q g n) → ∃ N, ∀ n, N ≤ n → ∀ g ∈ l, Q g n
  | [], _ => ⟨0, fun _ _ _ h => nomatch h⟩
  | x :: l, h => by
    obtain ⟨N1, h1⟩ := h x List.mem_cons_self
    obtain ⟨N2, h2⟩ := bound_all l fun g hg => h g (List.mem_cons_of_mem _ hg)
    refine ⟨N1 + N2, fun n hn g hg => ?_⟩
    rcases List.mem_cons.mp hg with z | z
    · rw [z]; exact h1 n (by omega)
    · exact h2 n (by omega) g z
theorem fn_stable (p1 : 2 ≤ pt) (p2 : pt ≤ 9) (ok : RowsOk rows) (nr : NoRing rows) (α : Nat → Int) (β : Int → Int → Int) : ∀ (s : Int), 1 ≤ s → ∀ r, r < rows.length → ∃ v, ∃ N, ∀ n, N ≤ n → FnW pt rows α β n r s = v := by
  refine works_ind p1 p2 ok nr fun r row s hr hs ih => ?_
  have := bound_all (Q := fun g n => ∀ m, n ≤ m → FnW pt rows α β m g.1 g.2.1 = FnW pt rows α β n g.1 g.2.1) (goesR pt row s) fun g hg => by
    obtain ⟨v, N, h⟩ := ih g hg
    exact ⟨N, fun n hn m hm => by rw [h n hn, h m (by omega)]⟩
  obtain ⟨N, hN⟩ := this
  refine ⟨FnW pt rows α β (N + 1) r s, N + 1, fun n hn => ?_⟩
  obtain ⟨m, rfl⟩ : ∃ m, n = m + 1 := ⟨n - 1, by omega⟩
  unfold FnW
  rw [hr]
  dsimp only
  congr 1
  refine congrArg List.sum (List.map_congr_left fun g hg => ?_)
  rw [hN N (Nat.le_refl _) g hg m (by omega)]
theorem F_ex (p1 : 2 ≤ pt) (p2 : pt ≤ 9) (ok : RowsOk rows) (nr : NoRing rows) (α : Nat → Int) (β : Int → Int → Int) : ∃ F, Eqn pt rows α β F := by
  have st := fn_stable p1 p2 ok nr α β
  have ch : ∀ (r : Nat) (s : Int), ∃ v, 1 ≤ s → r < rows.length → ∃ N, ∀ n, N ≤ n → FnW pt rows α β n r s = v := fun r s => by
    by_cases h : 1 ≤ s ∧ r < rows.length
    · obtain ⟨v, hv⟩ := st s h.1 r h.2
      exact ⟨v, fun _ _ => hv⟩
    · exact ⟨0, fun a b => absurd ⟨a, b⟩ h⟩
  obtain ⟨G, hG⟩ : ∃ G : Nat → Int → Int, ∀ r s, 1 ≤ s → r < rows.length → ∃ N, ∀ n, N ≤ n → FnW pt rows α β n r s = G r s := ⟨fun r s => Classical.choose (ch r s), fun r s => Classical.choose_spec (ch r s)⟩
  refine ⟨G, ⟨fun r row s hr hs => ?_⟩⟩
  have hrl : r < rows.length := (List.getElem?_eq_some_iff.mp hr).1
  obtain ⟨N1, h1⟩ := hG r s hs hrl
  obtain ⟨N2, h2⟩ := bound_all (Q := fun g n => FnW pt rows α β n g.1 g.2.1 = G g.1 g.2.1) (goesR pt row s) fun g hg => by
    have g3 := goes_row (ok _ (List.mem_of_getElem? hr)) hg
    exact hG g.1 g.2.1 (goes_pos p1 p2 hs hg).1 g3
  have e := h1 (N1 + N2 + 1) (by omega)
  rw [← e]
  unfold FnW
  rw [hr]
  dsimp only
  congr 1
  refine congrArg List.sum (List.map_congr_left fun g hg => ?_)
  rw [h2 (N1 + N2) (by omega) g hg]
/-! ### sizes of the weights -/
theorem sum_nonneg : ∀ {l : List Int}, (∀ x ∈ l, 0 ≤ x) → 0 ≤ l.sum
  | [], _ => Int.le_refl _
  | x :: l, h => by
    rw [List.sum_cons]
    have h1 := h x List.mem_cons_self
    have h2 := sum_nonneg fun y hy => h y (List.mem_cons_of_mem _ hy)
    omega
theorem sum_ge : ∀ {l : List Int}, (∀ x ∈ l, 0 ≤ x) → ∀ y ∈ l, y ≤ l.sum
  | x :: l, h, y, hy => by
    rw [List.sum_cons]
    have h1 := h x List.mem_cons_self
    have h2 := sum_nonneg fun y hy => h y (List.mem_cons_of_mem _ hy)
    rcases List.mem_cons.mp hy with z | z
    · omega
    · have := sum_ge (fun y hy => h y (List.mem_cons_of_mem _ hy)) y z
      omega
def dl (k : Nat) (r : Nat) : Int := if r = k then 1 else 0
variable {F : Nat → Int → Int} {k : Nat}
theorem Eqn.z {α : Nat → Int} (e : Eqn pt rows α (fun _ _ => 0) F) {r : Nat} {row : Rw} {s : Int} (hr : rows[r]? = some row) (hs : 1 ≤ s) : F r s = α r + ((goesR pt row s).map fun g => g.2.2 * F g.1 g.2.1).sum := by
  rw [e.eq r row s hr hs]
  cases row <;> simp
theorem F_nn (p1 : 2 ≤ pt) (p2 : pt ≤ 9) (ok : RowsOk rows) (nr : NoRing rows) (e : Eqn pt rows (dl k) (fun _ _ => 0) F) : ∀ (s : Int), 1 ≤ s → ∀ r, r < rows.length → 0 ≤ F r s := by
  refine works_ind p1 p2 ok nr fun r row s hr hs ih => ?_
  rw [e.z hr hs]
  have h1 : 0 ≤ dl k r := by unfold dl; split <;> decide
  have h2 : 0 ≤ ((goesR pt row s).map fun g => g.2.2 * F g.1 g.2.1).sum := sum_nonneg fun x hx => by
    obtain ⟨g, hg, rfl⟩ := List.mem_map.mp hx
    exact Int.mul_nonneg (Int.le_of_lt (goes_pos p1 p2 hs hg).2.2) (ih g hg)
  omega
theorem F_one (p1 : 2 ≤ pt) (p2 : pt ≤ 9) (ok : RowsOk rows) (nr : NoRing rows) (e : Eqn pt rows (dl k) (fun _ _ => 0) F) (hk : k < rows.length) {r : Nat} {s : Int} (h : Reach pt rows k r s) : 1 ≤ s → 1 ≤ F r s := by
  have nn := F_nn p1 p2 ok nr e
  induction h with
  | here s =>
    intro hs
    have hr : rows[k]? = some rows[k] := List.getElem?_eq_getElem hk
    rw [e.z hr hs]
    have h1 : dl k k = 1 := by unfold dl; rw [if_pos rfl]
    have h2 : 0 ≤ ((goesR pt rows[k] s).map fun g => g.2.2 * F g.1 g.2.1).sum := sum_nonneg fun x hx => by
      obtain ⟨g, hg, rfl⟩ := List.mem_map.mp hx
      obtain ⟨g1, _, g3⟩ := goes_pos p1 p2 hs hg
      exact Int.mul_nonneg (Int.le_of_lt g3) (nn _ g1 _ (goes_row (ok _ (List.mem_of_getElem? hr)) hg))
    omega
  | @step r row s g hr hg h ih =>
    intro hs
    obtain ⟨g1, _, g3⟩ := goes_pos p1 p2 hs hg
    have i := ih g1
    rw [e.z hr hs]
    have h1 : 0 ≤ dl k r := by unfold dl; split <;> decide
    have h2 := sum_ge (l := (goesR pt row s).map fun g => g.2.2 * F g.1 g.2.1) (fun x hx => by
      obtain ⟨g, hg, rfl⟩ := List.mem_map.mp hx
      obtain ⟨g1, _, g3⟩ := goes_pos p1 p2 hs hg
      exact Int.mul_nonneg (Int.le_of_lt g3) (nn _ g1 _ (goes_row (ok _ (List.mem_of_getElem? hr)) hg))) _ (List.mem_map.mpr ⟨g, hg, rfl⟩)
    have h3 : 1 * 1 ≤ g.2.2 * F g.1 g.2.1 := Int.mul_le_mul (by omega) i (by decide) (by omega)
    omega
theorem F_zero (p1 : 2 ≤ pt) (p2 : pt ≤ 9) (ok : RowsOk rows) (nr : NoRing rows) (e : Eqn pt rows (dl k) (fun _ _ => 0) F) : ∀ (s : Int), 1 ≤ s → ∀ r, r < rows.length → ¬ Reach pt rows k r s → F r s = 0 := by
  refine works_ind p1 p2 ok nr fun r row s hr hs ih => fun hn => ?_
  rw [e.z hr hs]
  have h1 : dl k r = 0 := by
    unfold dl
    rw [if_neg]
    rintro rfl
    exact hn (.here s)
  have h2 : ((goesR pt row s).map fun g => g.2.2 * F g.1 g.2.1).sum = 0 := by
    have : ∀ l : List (Nat × Int × Int), (∀ g ∈ l, F g.1 g.2.1 = 0) → (l.map fun g => g.2.2 * F g.1 g.2.1).sum = 0 := by
      intro l
      induction l with
      | nil => intro _; rfl
      | cons g l ih =>
        intro h
        rw [List.map_cons, List.sum_cons, h g List.mem_cons_self, ih fun g hg => h g (List.mem_cons_of_mem _ hg)]; simp
    exact this _ fun g hg => ih g hg fun z => hn (.step hr hg z)
  omega
theorem dsum_dl (k : Nat) : ∀ (ds : List Int) (i : Nat), dsum ds i (dl (i + k)) = ds.getD k 0
  | [], i => by cases k <;> rfl
  | d :: ds, i => by
    show d * dl (i + k) i + dsum ds (i + 1) (dl (i + k)) = _
    cases k with
    | zero =>
      have z : ∀ (ds : List Int) (j : Nat), i < j → dsum ds j (dl (i + 0)) = 0 := by
        intro ds
        induction ds with
        | nil => intro j _; rfl
        | cons x ds ih =>
          intro j hj
          show x * dl (i + 0) j + dsum ds (j + 1) (dl (i + 0)) = 0
          rw [ih (j + 1) (by omega)]
          have : dl (i + 0) j = 0 := by unfold dl; rw [if_neg (by omega)]
          rw [this]; simp
      rw [z ds (i + 1) (by omega)]
      have : dl (i + 0) i = 1 := by unfold dl; rw [if_pos (by omega)]
      rw [this]; simp
    | succ k =>
      have h1 : dl (i + (k + 1)) i = 0 := by unfold dl; rw [if_neg (by omega)]
      have h2 := dsum_dl k ds (i + 1)
      rw [show i + 1 + k = i + (k + 1) by omega] at h2
      rw [h1, h2]; simp
theorem dsum_dl0 (k : Nat) (ds : List Int) : dsum ds 0 (dl k) = ds.getD k 0 := by
  have := dsum_dl k ds 0
  rwa [Nat.zero_add] at this
theorem sumF_z : ∀ l : List (Int × Int), sumF l (fun _ => 0) = 0
  | [] => rfl
  | q :: l => by rw [sumF_cons, sumF_z l]; simp
theorem bins_z (bins : Bins) : (bins.map fun q => sumF q.2 ((fun _ _ => (0 : Int)) q.1)).sum = 0 := by
  induction bins with
  | nil => rfl
  | cons q bins ih => rw [List.map_cons, List.sum_cons, ih]; show sumF q.2 (fun _ => 0) + 0 = 0; rw [sumF_z]; rfl
/-- what reaching says of worked -/
theorem reach_done (p1 : 2 ≤ pt) (p2 : pt ≤ 9) (ok : RowsOk rows) (nr : NoRing rows) (hk : k < rows.length) {U : List Int} {lot : List (Int × Int)} {bins : Bins} {done : List Int} (w : Worked pt rows U 0 lot bins done) (hl : ∀ q ∈ lot, 1 ≤ q.1 ∧ 0 < q.2) :
    ((∀ q ∈ lot, ¬ Reach pt rows k 0 q.1) → done.getD k 0 = 0) ∧ ((∃ q ∈ lot, Reach pt rows k 0 q.1) → 1 ≤ done.getD k 0) := by
  obtain ⟨F, e⟩ := F_ex p1 p2 ok nr (dl k) (fun _ _ => 0)
  have v := w.v _ _ _ e
  rw [bins_z, dsum_dl0] at v
  have h0 : 0 < rows.length := by omega
  constructor
  · intro h
    have : ∀ l : List (Int × Int), (∀ q ∈ l, F 0 q.1 = 0) → (l.map fun q => q.2 * F 0 q.1).sum = 0 := by
      intro l
      induction l with
      | nil => intro _; rfl
      | cons q l ih =>
        intro h
        rw [List.map_cons, List.sum_cons, h q List.mem_cons_self, ih fun q hq => h q (List.mem_cons_of_mem _ hq)]; simp
    rw [this lot fun q hq => F_zero p1 p2 ok nr e q.1 (hl q hq).1 0 h0 (h q hq)] at v
    omega
  · rintro ⟨q, hq, hr⟩
    have h1 := F_one p1 p2 ok nr e hk hr (hl q hq).1
    have h2 := sum_ge (l := lot.map fun q => q.2 * F 0 q.1) (fun x hx => by
      obtain ⟨q, hq, rfl⟩ := List.mem_map.mp hx
      exact Int.mul_nonneg (Int.le_of_lt (hl q hq).2) (F_nn p1 p2 ok nr e _ (hl q hq).1 0 h0)) _ (List.mem_map.mpr ⟨q, hq, rfl⟩)
    have h3 : 1 * 1 ≤ q.2 * F 0 q.1 := Int.mul_le_mul (by have := (hl q hq).2; omega) h1 (by decide) (by have := (hl q hq).2; omega)
    omega
end
end MW

/-! PM2 -/
set_option Elab.async false
set_option linter.all false
set_option maxRecDepth 100000
set_option maxHeartbeats 400000
namespace MW
open PySem PySem.Spec L2
/-! ### lots that weigh the same are the same -/
def d1 (z x : Int) : Int := if x = z then 1 else 0
theorem sumF_no {z : Int} : ∀ {l : List (Int × Int)}, z ∉ l.map (·.1) → sumF l (d1 z) = 0
  | [], _ => rfl
  | q :: l, h => by
    rw [List.map_cons, List.mem_cons, not_or] at h
    rw [sumF_cons, sumF_no h.2]
    have : d1 z q.1 = 0 := by unfold d1; rw [if_neg fun e => h.1 e.symm]
    rw [this]; simp
theorem sumF_at : ∀ {l : List (Int × Int)}, (l.map (·.1)).Nodup → ∀ q ∈ l, sumF l (d1 q.1) = q.2
  | x :: l, hn, q, hq => by
    rw [List.map_cons, List.nodup_cons] at hn
    rw [sumF_cons]
    rcases List.mem_cons.mp hq with e | hq
    · subst e
      rw [sumF_no hn.1]
      have : d1 q.1 q.1 = 1 := by unfold d1; rw [if_pos rfl]
      rw [this]; omega
    · rw [sumF_at hn.2 q hq]
      have : d1 q.1 x.1 = 0 := by
        unfold d1
        rw [if_neg fun e => hn.1 (List.mem_map.mpr ⟨q, hq, e.symm⟩)]
      rw [this]; omega
theorem sort_ext {l m : List Int} (h1 : l.Pairwise (· < ·)) (h2 : m.Pairwise (· < ·)) (h : ∀ x, x ∈ l ↔ x ∈ m) : l = m :=
  sorted_unique ((List.perm_ext_iff_of_nodup (lt_nd h1) (lt_nd h2)).mpr h) (h1.imp fun h => by omega) (h2.imp fun h => by omega)
theorem lot_self {l : List (Int × Int)} (hn : (l.map (·.1)).Nodup) : (l.map (·.1)).map (fun k => (k, sumF l (d1 k))) = l := by
  rw [List.map_map]
  have : l.map ((fun k => (k, sumF l (d1 k))) ∘ fun x : Int × Int => x.1) = l.map id := List.map_congr_left fun q hq => by
    show (q.1, sumF l (d1 q.1)) = q
    rw [sumF_at hn q hq]
  rw [this, List.map_id]
theorem lot_ext {l m : List (Int × Int)} (h1 : (l.map (·.1)).Pairwise (· < ·)) (h2 : (m.map (·.1)).Pairwise (· < ·)) (p1 : ∀ q ∈ l, 0 < q.2) (p2 : ∀ q ∈ m, 0 < q.2) (h : ∀ z, sumF l (d1 z) = sumF m (d1 z)) : l = m := by
  have key : ∀ {l : List (Int × Int)}, (l.map (·.1)).Pairwise (· < ·) → (∀ q ∈ l, 0 < q.2) → ∀ z, z ∈ l.map (·.1) ↔ 0 < sumF l (d1 z) := fun {l} h1 p1 z => by
    constructor
    · intro hz
      obtain ⟨q, hq, rfl⟩ := List.mem_map.mp hz
      rw [sumF_at (lt_nd h1) q hq]; exact p1 q hq
    · intro hz
      by_cases y : z ∈ l.map (·.1)
      · exact y
      · rw [sumF_no y] at hz; omega
  have ks : l.map (·.1) = m.map (·.1) := sort_ext h1 h2 fun x => by rw [key h1 p1, key h2 p2, h]
  rw [← lot_self (lt_nd h1), ← lot_self (lt_nd h2), ks]
  exact List.map_congr_left fun k _ => by rw [h]
theorem lkG_none {β : Type} {l : List (Int × β)} {k : Int} : lkG l k = none ↔ k ∉ l.map (·.1) := by
  unfold lkG
  rw [Option.map_eq_none_iff, List.find?_eq_none]
  constructor
  · intro h hm
    obtain ⟨q, h1, h2⟩ := List.mem_map.mp hm
    exact h q h1 (by simpa using h2)
  · intro h q hq e
    exact h (List.mem_map.mpr ⟨q, hq, by simpa using e⟩)
theorem lkG_at {β : Type} {l : List (Int × β)} (hn : (l.map (·.1)).Nodup) {q : Int × β} (hq : q ∈ l) : lkG l q.1 = some q.2 := by
  cases e : lkG l q.1 with
  | none => exact absurd (List.mem_map.mpr ⟨q, hq, rfl⟩) (lkG_none.mp e)
  | some d =>
    have := lkG_mem e
    have inj : ∀ {l : List (Int × β)}, (l.map (·.1)).Nodup → ∀ a ∈ l, ∀ b ∈ l, a.1 = b.1 → a = b := by
      intro l
      induction l with
      | nil => intro _ a h; cases h
      | cons x l ih =>
        intro hn a ha b hb e
        rw [List.map_cons, List.nodup_cons] at hn
        rcases List.mem_cons.mp ha with z1 | ha
        · rcases List.mem_cons.mp hb with z2 | hb
          · rw [z1, z2]
          · exact absurd (List.mem_map.mpr ⟨b, hb, by rw [← e, z1]⟩) hn.1
        · rcases List.mem_cons.mp hb with z2 | hb
          · exact absurd (List.mem_map.mpr ⟨a, ha, by rw [e, z2]⟩) hn.1
          · exact ih hn.2 a ha b hb e
    have := inj hn _ this _ hq rfl
    rw [← this]
/-- how many grains of a size a bin holds -/
def bz (b z b' z' : Int) : Int := if b' = b then d1 z z' else 0
def wB (bins : Bins) (β : Int → Int → Int) : Int := (bins.map fun q => sumF q.2 (β q.1)).sum
theorem wB_cons (q : Int × List (Int × Int)) (bins : Bins) (β : Int → Int → Int) : wB (q :: bins) β = sumF q.2 (β q.1) + wB bins β := by unfold wB; rw [List.map_cons, List.sum_cons]
theorem bz_no {b z b' : Int} (h : ¬ b' = b) : bz b z b' = fun _ => 0 := by funext x; unfold bz; rw [if_neg h]
theorem bz_yes {b z : Int} : bz b z b = d1 z := by funext x; unfold bz; rw [if_pos rfl]
theorem wB_no {b z : Int} : ∀ {bins : Bins}, b ∉ bins.map (·.1) → wB bins (bz b z) = 0
  | [], _ => rfl
  | q :: bins, h => by
    rw [List.map_cons, List.mem_cons, not_or] at h
    rw [wB_cons, wB_no h.2, bz_no fun e => h.1 e.symm, sumF_z]; rfl
theorem wB_lk {b z : Int} : ∀ {bins : Bins}, (bins.map (·.1)).Nodup → wB bins (bz b z) = sumF ((lkG bins b).getD []) (d1 z)
  | [], _ => rfl
  | q :: bins, hn => by
    rw [List.map_cons, List.nodup_cons] at hn
    rw [wB_cons]
    by_cases e : q.1 = b
    · have h1 : lkG (q :: bins) b = some q.2 := by unfold lkG; rw [List.find?_cons, decide_eq_true e]; rfl
      rw [h1, wB_no (by rw [← e]; exact hn.1), e, bz_yes]
      show _ + 0 = sumF q.2 _
      omega
    · have h1 : lkG (q :: bins) b = lkG bins b := by unfold lkG; rw [List.find?_cons, decide_eq_false e]
      rw [h1, wB_lk hn.2, bz_no e, sumF_z]; omega
theorem bins_self {bins : Bins} (hn : (bins.map (·.1)).Nodup) : (bins.map (·.1)).map (fun k => (k, (lkG bins k).getD [])) = bins := by
  rw [List.map_map]
  have : bins.map ((fun k => (k, (lkG bins k).getD [])) ∘ fun x : Int × List (Int × Int) => x.1) = bins.map id := List.map_congr_left fun q hq => by
    show (q.1, (lkG bins q.1).getD []) = q
    rw [lkG_at hn hq]; rfl
  rw [this, List.map_id]
theorem list_getD {l m : List Int} (h : l.length = m.length) (k : ∀ i, l.getD i 0 = m.getD i 0) : l = m := by
  refine List.ext_getElem h fun i h1 h2 => ?_
  have := k i
  rw [List.getD_eq_getElem?_getD, List.getD_eq_getElem?_getD, List.getElem?_eq_getElem h1, List.getElem?_eq_getElem h2] at this
  exact this
/-- what worked tells is told once -/
theorem worked_one {pt : Int} {rows : List Rw} {U : List Int} {lot : List (Int × Int)} (p1 : 2 ≤ pt) (p2 : pt ≤ 9) (ok : RowsOk rows) (nr : NoRing rows) {b1 b2 : Bins} {n1 n2 : List Int} (w1 : Worked pt rows U 0 lot b1 n1) (w2 : Worked pt rows U 0 lot b2 n2) : b1 = b2 ∧ n1 = n2 := by
  have eq : ∀ α β, dsum n1 0 α + wB b1 β = dsum n2 0 α + wB b2 β := fun α β => by
    obtain ⟨F, e⟩ := F_ex p1 p2 ok nr α β
    exact (w1.v α β F e).trans (w2.v α β F e).symm
  constructor
  · have hk : b1.map (·.1) = b2.map (·.1) := sort_ext w1.bs w2.bs fun x => by rw [w1.bk, w2.bk]
    rw [← bins_self (lt_nd w1.bs), ← bins_self (lt_nd w2.bs), hk]
    refine List.map_congr_left fun b hb => ?_
    have hb1 : b ∈ b1.map (·.1) := by rw [hk]; exact hb
    obtain ⟨q1, h1, rfl⟩ := List.mem_map.mp hb1
    obtain ⟨q2, h2, e2⟩ := List.mem_map.mp hb
    have l2 := lkG_at (lt_nd w2.bs) h2
    rw [e2] at l2
    have l1 := lkG_at (lt_nd w1.bs) h1
    rw [l1, l2]
    have : q1.2 = q2.2 := lot_ext (w1.ls q1 h1) (w2.ls q2 h2) (fun x hx => (w1.lk q1 h1 x hx).2) (fun x hx => (w2.lk q2 h2 x hx).2) fun z => by
      have := eq (fun _ => 0) (bz q1.1 z)
      rw [wB_lk (lt_nd w1.bs), wB_lk (lt_nd w2.bs), l1, l2] at this
      have z0 : ∀ (n : List Int) i, dsum n i (fun _ => 0) = 0 := by
        intro n
        induction n with
        | nil => intro i; rfl
        | cons x n ih => intro i; show x * 0 + dsum n (i + 1) _ = 0; rw [ih]; simp
      rw [z0, z0] at this
      show sumF q1.2 _ = sumF q2.2 _
      have t : (0 : Int) + sumF q1.2 (d1 z) = 0 + sumF q2.2 (d1 z) := this
      omega
    rw [this]
  · refine list_getD (w1.dl.trans w2.dl.symm) fun i => ?_
    have := eq (dl i) (fun _ _ => 0)
    unfold wB at this
    rw [bins_z, bins_z, dsum_dl0, dsum_dl0] at this
    omega
end MW

/-! PM3 -/
set_option Elab.async false
set_option linter.all false
set_option maxRecDepth 100000
set_option maxHeartbeats 400000
namespace MW
open PySem PySem.Spec L2
/-! ### the works behind: what it does -/
section
variable {pt : Int} {one other : List Rw} {b : Int}
def n0 (one : List Rw) (b : Int) : Nat := (keptR one b).length
/-- where a row of the first goes -/
def cnt (one : List Rw) (b : Int) (i : Nat) : Nat := ((one.take i).filter fun r => !isB b r).length
def pos (one : List Rw) (b : Int) (r : Nat) : Nat := if one[r]? = some (.bin b) then n0 one b else cnt one b r
theorem isB_iff {row : Rw} : isB b row = true ↔ row = .bin b := by
  first
  | (unfold isB; exact decide_eq_true_iff)
  | simp [isB]
theorem plc_at {r : Nat} (h : r < one.length) : (plc one b)[r]? = some ((pos one b r : Nat) : Int) := by
  have hr : one[r]? = some one[r] := List.getElem?_eq_getElem h
  have := (plcN_facts one b one.length (Nat.le_refl _)).2 r one[r] h hr
  unfold plc
  rw [this]
  unfold pos
  rw [hr]
  by_cases e : one[r] = .bin b
  · rw [if_pos e, if_pos (by rw [e])]; rfl
  · rw [if_neg e, if_neg (fun z => e (Option.some.inj z))]; rfl
theorem kept_at {r : Nat} {row : Rw} (h : one[r]? = some row) (hb : row ≠ .bin b) : (keptR one b)[cnt one b r]? = some row := by
  have hl := (List.getElem?_eq_some_iff.mp h).1
  have e2 : one = one.take r ++ row :: one.drop (r + 1) := by
    have := (List.getElem?_eq_some_iff.mp h).2
    rw [← this, ← List.drop_eq_getElem_cons hl, List.take_append_drop]
  have hf : isB b row = false := by
    cases q : isB b row with
    | false => rfl
    | true => exact absurd (isB_iff.mp q) hb
  unfold keptR cnt
  conv => lhs; lhs; rw [e2]
  rw [List.filter_append, List.getElem?_append_right (Nat.le_refl _), Nat.sub_self, List.filter_cons, if_pos (by rw [hf]; rfl)]
  rfl
theorem cnt_lt {r : Nat} {row : Rw} (h : one[r]? = some row) (hb : row ≠ .bin b) : cnt one b r < n0 one b := (List.getElem?_eq_some_iff.mp (kept_at h hb)).1
theorem furt_at {n r : Nat} (h : r < n) : (furt one b n)[r]? = some ((n0 one b + r : Nat) : Int) := by
  unfold furt
  rw [List.getElem?_map, List.getElem?_range h]
  show some _ = some _
  unfold n0
  congr 1
theorem getD_of {l : List Int} {i : Nat} {v : Int} (h : l[i]? = some v) : l.getD i 0 = v := by rw [List.getD_eq_getElem?_getD, h]; rfl
variable (hf : ¬ one[0]? = some (.bin b))
theorem made_eq (hf : ¬ one[0]? = some (.bin b)) : behindR one b other = (keptR one b).map (movR (plc one b)) ++ other.map (movR (furt one b other.length)) := by unfold behindR; rw [if_neg hf]
theorem made_one (hf : ¬ one[0]? = some (.bin b)) {r : Nat} {row : Rw} (h : one[r]? = some row) (hb : row ≠ .bin b) : (behindR one b other)[cnt one b r]? = some (movR (plc one b) row) := by
  rw [made_eq hf, List.getElem?_append_left (by rw [List.length_map]; exact cnt_lt h hb), List.getElem?_map, kept_at h hb]; rfl
theorem made_two (hf : ¬ one[0]? = some (.bin b)) {r : Nat} {row : Rw} (h : other[r]? = some row) : (behindR one b other)[n0 one b + r]? = some (movR (furt one b other.length) row) := by
  rw [made_eq hf, List.getElem?_append_right (by rw [List.length_map]; exact Nat.le_add_right _ _), List.length_map]
  show (other.map _)[n0 one b + r - n0 one b]? = _
  rw [Nat.add_sub_cancel_left, List.getElem?_map, h]; rfl
theorem made_len (hf : ¬ one[0]? = some (.bin b)) : (behindR one b other).length = n0 one b + other.length := by rw [made_eq hf, List.length_append, List.length_map, List.length_map]; rfl
/-- a moved row's grains -/
theorem goes_mov {n : Nat} {pl : List Int} {f : Nat → Nat} {row : Rw} (ok : row.ok n) (h : ∀ r, r < n → pl[r]? = some ((f r : Nat) : Int)) (s : Int) : goesR pt (movR pl row) s = (goesR pt row s).map fun g => (f g.1, g.2) := by
  have key : ∀ r, r < n → (pl.getD r 0).toNat = f r := fun r hr => by rw [getD_of (h r hr)]; rfl
  cases row with
  | bin x => rfl
  | crush t =>
    have := key t ok
    simp only [movR, goesR, List.map_map]
    refine List.map_congr_left fun q _ => ?_
    show (_, _, _) = (_, _, _)
    rw [this]
  | mesh c u o =>
    obtain ⟨_, _, h1, h2⟩ := ok
    have k1 := key u h1
    have k2 := key o h2
    simp only [movR, goesR]
    split
    · simp only [List.map_cons, List.map_nil, k1]
    · simp only [List.map_cons, List.map_nil, k2]
theorem whole_mov {n : Nat} {pl : List Int} {f : Nat → Nat} {row : Rw} (ok : row.ok n) (h : ∀ r, r < n → pl[r]? = some ((f r : Nat) : Int)) (s : Int) : wholeR (movR pl row) s = (wholeR row s).map f := by
  have key : ∀ r, r < n → (pl.getD r 0).toNat = f r := fun r hr => by rw [getD_of (h r hr)]; rfl
  cases row with
  | bin x => rfl
  | crush t =>
    have := key t ok
    simp only [movR, wholeR]
    split
    · rw [Option.map_some, this]
    · rfl
  | mesh c u o =>
    obtain ⟨_, _, h1, h2⟩ := ok
    have k1 := key u h1
    have k2 := key o h2
    simp only [movR, wholeR]
    split
    · rw [Option.map_some, k1]
    · rw [Option.map_some, k2]
theorem ok_mov {n m : Nat} {pl : List Int} {f : Nat → Nat} {row : Rw} (ok : row.ok n) (h : ∀ r, r < n → pl[r]? = some ((f r : Nat) : Int)) (hm : ∀ r, r < n → f r < m) : (movR pl row).ok m := by
  have key : ∀ r, r < n → (pl.getD r 0).toNat < m := fun r hr => by rw [getD_of (h r hr)]; exact hm r hr
  cases row with
  | bin x => exact ok
  | crush t => exact key t ok
  | mesh c u o =>
    obtain ⟨h1, h2, h3, h4⟩ := ok
    exact ⟨h1, h2, key u h3, key o h4⟩
theorem pos_lt (h0 : 1 ≤ other.length) {r : Nat} (hr : r < one.length) : pos one b r < n0 one b + other.length := by
  unfold pos
  have e : one[r]? = some one[r] := List.getElem?_eq_getElem hr
  by_cases z : one[r]? = some (.bin b)
  · rw [if_pos z]; omega
  · rw [if_neg z]
    have := cnt_lt e fun y => z (by rw [e, y])
    omega
theorem made_ok (hf : ¬ one[0]? = some (.bin b)) (h0 : 1 ≤ other.length) (ok1 : RowsOk one) (ok2 : RowsOk other) : RowsOk (behindR one b other) := fun row hr => by
  rw [made_len hf]
  rw [made_eq hf] at hr
  rcases List.mem_append.mp hr with z | z
  · obtain ⟨r0, h1, rfl⟩ := List.mem_map.mp z
    exact ok_mov (ok1 r0 (List.mem_filter.mp h1).1) (fun r hr => plc_at hr) fun r hr => pos_lt h0 hr
  · obtain ⟨r0, h1, rfl⟩ := List.mem_map.mp z
    exact ok_mov (f := fun r => n0 one b + r) (ok2 r0 h1) (fun r hr => furt_at hr) fun r hr => by omega
/-! no rings -/
theorem ends_two (hf : ¬ one[0]? = some (.bin b)) (ok2 : RowsOk other) {s : Int} : ∀ N r, r < other.length → itW other s (some r) N = none → itW (behindR one b other) s (some (n0 one b + r)) N = none
  | 0, r, _, e => nomatch e
  | N + 1, r, hr, e => by
    rw [Nat.add_comm N 1, itW_step] at e ⊢
    have h1 : other[r]? = some other[r] := List.getElem?_eq_getElem hr
    have w1 : wholeAt other s r = wholeR other[r] s := by unfold wholeAt; rw [h1]; rfl
    have w2 : wholeAt (behindR one b other) s (n0 one b + r) = (wholeR other[r] s).map fun r => n0 one b + r := by
      unfold wholeAt
      rw [made_two hf h1]
      exact whole_mov (ok2 _ (List.mem_of_getElem? h1)) (fun r hr => furt_at hr) s
    rw [w1] at e
    rw [w2]
    cases q : wholeR other[r] s with
    | none => exact itW_no N
    | some t =>
      rw [q] at e
      exact ends_two hf ok2 N t (wholeR_lt (ok2 _ (List.mem_of_getElem? h1)) q) e
theorem ends_one (hf : ¬ one[0]? = some (.bin b)) (h0 : 1 ≤ other.length) (ok1 : RowsOk one) (ok2 : RowsOk other) {s : Int} {M : Nat} (hM : itW other s (some 0) M = none) : ∀ N r, r < one.length → itW one s (some r) N = none → itW (behindR one b other) s (some (pos one b r)) (N + M) = none
  | 0, r, _, e => nomatch e
  | N + 1, r, hr, e => by
    have h1 : one[r]? = some one[r] := List.getElem?_eq_getElem hr
    by_cases z : one[r] = .bin b
    · have : pos one b r = n0 one b + 0 := by unfold pos; rw [if_pos (by rw [h1, z])]; rfl
      rw [this]
      have := ends_two (s := s) hf ok2 M 0 (by omega) hM
      rw [show N + 1 + M = M + (N + 1) by omega]
      exact itW_none this (N + 1)
    · have hp : pos one b r = cnt one b r := by unfold pos; rw [if_neg (by rw [h1]; exact fun y => z (Option.some.inj y))]
      rw [hp, show N + 1 + M = 1 + (N + M) by omega, itW_step]
      rw [Nat.add_comm, itW_step] at e
      have w1 : wholeAt one s r = wholeR one[r] s := by unfold wholeAt; rw [h1]; rfl
      have w2 : wholeAt (behindR one b other) s (cnt one b r) = (wholeR one[r] s).map fun r => pos one b r := by
        unfold wholeAt
        rw [made_one hf h1 z]
        exact whole_mov (ok1 _ (List.mem_of_getElem? h1)) (fun r hr => plc_at hr) s
      rw [w1] at e
      rw [w2]
      cases q : wholeR one[r] s with
      | none => exact itW_no _
      | some t =>
        rw [q] at e
        exact ends_one hf h0 ok1 ok2 hM N t (wholeR_lt (ok1 _ (List.mem_of_getElem? h1)) q) e
/-- with a bound -/
def NoRingB (rows : List Rw) (n : Nat) : Prop := ∀ s, 1 ≤ s → ∀ r, r < rows.length → itW rows s (some r) n = none
theorem NoRingB.nr {rows : List Rw} {n : Nat} (h : NoRingB rows n) (hn : n ≤ 1000) : NoRing rows := fun s hs r hr => ⟨n, hn, h s hs r hr⟩
/-- every row of the made works is one of the first's or the second's -/
theorem kept_from {k : Nat} : ∀ {l : List Rw} {i : Nat}, k < ((l.take i).filter fun r => !isB b r).length → ∃ r row, l[r]? = some row ∧ row ≠ .bin b ∧ ((l.take r).filter fun r => !isB b r).length = k := by
  intro l i
  induction i with
  | zero => intro h; simp at h
  | succ i ih =>
    intro h
    by_cases hk : k < ((l.take i).filter fun r => !isB b r).length
    · exact ih hk
    · rw [List.take_add_one, List.filter_append, List.length_append] at h
      cases e : l[i]? with
      | none => rw [e] at h; simp at h; omega
      | some row =>
        rw [e] at h
        by_cases z : row = .bin b
        · have : isB b row = true := isB_iff.mpr z
          simp [this] at h; omega
        · refine ⟨i, row, e, z, ?_⟩
          have hlen : (([row] : List Rw).filter fun r => !isB b r).length ≤ 1 := List.length_filter_le _ _
          have h' : k < ((l.take i).filter fun r => !isB b r).length + (([row] : List Rw).filter fun r => !isB b r).length := h
          omega
theorem made_nr (hf : ¬ one[0]? = some (.bin b)) (h0 : 1 ≤ other.length) (ok1 : RowsOk one) (ok2 : RowsOk other) {n m : Nat} (nr1 : NoRingB one n) (nr2 : NoRingB other m) : NoRingB (behindR one b other) (n + m) := fun s hs r hr => by
  rw [made_len hf] at hr
  by_cases h : r < n0 one b
  · have h' : r < ((one.take one.length).filter fun r => !isB b r).length := by rw [List.take_length]; exact h
    obtain ⟨j, row, h1, h2, h3⟩ := kept_from h'
    have hj := (List.getElem?_eq_some_iff.mp h1).1
    have hp : pos one b j = r := by
      unfold pos
      rw [if_neg (by rw [h1]; exact fun y => h2 (Option.some.inj y))]; exact h3
    rw [← hp]
    exact ends_one hf h0 ok1 ok2 (nr2 s hs 0 (by omega)) n j hj (nr1 s hs j hj)
  · have := ends_two (s := s) hf ok2 m (r - n0 one b) (by omega) (nr2 s hs _ (by omega))
    rw [show n0 one b + (r - n0 one b) = r by omega] at this
    rw [Nat.add_comm]
    exact itW_none this n
end
end MW

/-! PM4 -/
set_option Elab.async false
set_option linter.all false
set_option maxRecDepth 100000
set_option maxHeartbeats 400000
namespace MW
open PySem PySem.Spec L2
section
variable {pt : Int} {one other : List Rw} {b : Int} {α : Nat → Int} {β : Int → Int → Int} {F : Nat → Int → Int}
def alT (one : List Rw) (b : Int) (α : Nat → Int) : Nat → Int := fun r => α (n0 one b + r)
def fT (one : List Rw) (b : Int) (F : Nat → Int → Int) : Nat → Int → Int := fun r s => F (n0 one b + r) s
def alO (one : List Rw) (b : Int) (α : Nat → Int) : Nat → Int := fun r => if isB b (one.getD r (.crush 0)) then 0 else α (cnt one b r)
def beO (one : List Rw) (b : Int) (β : Int → Int → Int) (F : Nat → Int → Int) : Int → Int → Int := fun b' z => if b' = b then F (n0 one b) z else β b' z
def fO (one : List Rw) (b : Int) (F : Nat → Int → Int) : Nat → Int → Int := fun r s => F (pos one b r) s
theorem eqn_two (hf : ¬ one[0]? = some (.bin b)) (ok2 : RowsOk other) (e : Eqn pt (behindR one b other) α β F) : Eqn pt other (alT one b α) β (fT one b F) := ⟨fun r row s hr hs => by
  have := e.eq (n0 one b + r) _ s (made_two hf hr) hs
  show F (n0 one b + r) s = _
  rw [this, goes_mov (f := fun r => n0 one b + r) (ok2 row (List.mem_of_getElem? hr)) (fun r hr => furt_at hr) s, List.map_map]
  cases row <;> rfl⟩
theorem eqn_one (hf : ¬ one[0]? = some (.bin b)) (ok1 : RowsOk one) (e : Eqn pt (behindR one b other) α β F) : Eqn pt one (alO one b α) (beO one b β F) (fO one b F) := ⟨fun r row s hr hs => by
  have hd : one.getD r (.crush 0) = row := by rw [List.getD_eq_getElem?_getD, hr]; rfl
  by_cases z : row = .bin b
  · subst z
    have hp : pos one b r = n0 one b := by unfold pos; rw [if_pos hr]
    have h1 : alO one b α r = 0 := by unfold alO; rw [hd, if_pos (isB_iff.mpr rfl)]
    show F (pos one b r) s = _
    rw [hp, h1]
    show F (n0 one b) s = 0 + (if b = b then F (n0 one b) s else β b s) + 0
    rw [if_pos rfl]; omega
  · have hp : pos one b r = cnt one b r := by unfold pos; rw [if_neg (by rw [hr]; exact fun y => z (Option.some.inj y))]
    have h1 : alO one b α r = α (cnt one b r) := by
      unfold alO
      rw [hd, if_neg (fun y => z (isB_iff.mp y))]
    have := e.eq (cnt one b r) _ s (made_one hf hr z) hs
    show F (pos one b r) s = _
    rw [hp, h1, this, goes_mov (f := pos one b) (ok1 row (List.mem_of_getElem? hr)) (fun r hr => plc_at hr) s, List.map_map]
    cases row with
    | mesh c u o => rfl
    | crush t => rfl
    | bin x =>
      have hx : ¬ x = b := fun y => z (by rw [y])
      show α _ + β x s + 0 = α _ + (if x = b then F (n0 one b) s else β x s) + 0
      rw [if_neg hx]⟩
theorem cnt_succ {i : Nat} {row : Rw} (h : one[i]? = some row) : cnt one b (i + 1) = cnt one b i + (if isB b row then 0 else 1) := by
  unfold cnt
  rw [List.take_add_one, h, List.filter_append, List.length_append]
  congr 1
  show (([row] : List Rw).filter _).length = _
  cases q : isB b row <;> simp [q]
theorem hand_sum {done : List Int} (hd : done.length = one.length) (α : Nat → Int) : ∀ (m i : Nat), i + m = one.length → dsum (done.drop i) i (alO one b α) = dsum (((List.range' i m).filter fun k => !isB b (one.getD k (.crush 0))).map fun k => done.getD k 0) (cnt one b i) α
  | 0, i, h => by
    rw [List.drop_of_length_le (by omega)]; rfl
  | m + 1, i, h => by
    have hi : i < one.length := by omega
    have hr : one[i]? = some one[i] := List.getElem?_eq_getElem hi
    have hdd : done.drop i = done[i]'(by omega) :: done.drop (i + 1) := List.drop_eq_getElem_cons (by omega)
    have hg : one.getD i (.crush 0) = one[i] := by rw [List.getD_eq_getElem?_getD, hr]; rfl
    have hgd : done.getD i 0 = done[i]'(by omega) := by rw [List.getD_eq_getElem?_getD, List.getElem?_eq_getElem (by omega)]; rfl
    have ih := hand_sum hd α m (i + 1) (by omega)
    rw [cnt_succ hr] at ih
    rw [hdd, List.range'_succ, List.filter_cons, hg]
    show done[i]'(by omega) * alO one b α i + dsum (done.drop (i + 1)) (i + 1) (alO one b α) = _
    rw [ih]
    have ha : alO one b α i = if isB b one[i] then 0 else α (cnt one b i) := by unfold alO; rw [hg]
    rw [ha]
    cases q : isB b one[i] with
    | true => simp
    | false =>
      simp only [Bool.false_eq_true, if_false, Bool.not_false, if_true, List.map_cons]
      show _ = done.getD i 0 * α (cnt one b i) + _
      rw [hgd]
theorem hand_len : ∀ (m i : Nat), i + m = one.length → ((List.range' i m).filter fun k => !isB b (one.getD k (.crush 0))).length = ((one.drop i).filter fun r => !isB b r).length
  | 0, i, h => by
    rw [List.drop_of_length_le (by omega)]; rfl
  | m + 1, i, h => by
    have hi : i < one.length := by omega
    have hr : one[i]? = some one[i] := List.getElem?_eq_getElem hi
    have hg : one.getD i (.crush 0) = one[i] := by rw [List.getD_eq_getElem?_getD, hr]; rfl
    have ih := hand_len m (i + 1) (by omega)
    rw [List.range'_succ, List.drop_eq_getElem_cons hi, List.filter_cons, List.filter_cons, hg]
    cases q : isB b one[i] with
    | true => simpa [q] using ih
    | false => simpa [q] using ih
theorem handR_len (done : List Int) : (handR one b done).length = n0 one b := by
  unfold handR
  rw [List.length_map, List.range_eq_range', hand_len one.length 0 (by omega), List.drop_zero]; rfl
theorem handR_sum {done : List Int} (hd : done.length = one.length) (α : Nat → Int) : dsum done 0 (alO one b α) = dsum (handR one b done) 0 α := by
  have := hand_sum (b := b) hd α one.length 0 (by omega)
  rw [List.drop_zero] at this
  unfold handR
  rw [List.range_eq_range', this]
  rfl
theorem dsum_app (α : Nat → Int) : ∀ (l m : List Int) (i : Nat), dsum (l ++ m) i α = dsum l i α + dsum m (i + l.length) α
  | [], m, i => by show dsum m i α = 0 + dsum m (i + 0) α; rw [Nat.add_zero]; omega
  | x :: l, m, i => by
    show x * α i + dsum (l ++ m) (i + 1) α = x * α i + dsum l (i + 1) α + dsum m (i + (l.length + 1)) α
    rw [dsum_app α l m (i + 1), show i + 1 + l.length = i + (l.length + 1) by omega]; omega
theorem dsum_shift (α : Nat → Int) (n : Nat) : ∀ (l : List Int) (i : Nat), dsum l i (fun r => α (n + r)) = dsum l (n + i) α
  | [], _ => rfl
  | x :: l, i => by
    show x * α (n + i) + dsum l (i + 1) _ = x * α (n + i) + dsum l (n + i + 1) α
    rw [dsum_shift α n l (i + 1)]; rfl
theorem wB_cut {G : Int → Int} : ∀ {bins : Bins}, (bins.map (·.1)).Nodup → wB bins (fun b' z => if b' = b then G z else β b' z) = wB (cutB bins b) β + sumF (intoR bins b) G
  | [], _ => rfl
  | q :: bins, hn => by
    rw [List.map_cons, List.nodup_cons] at hn
    have ih := wB_cut (G := G) hn.2
    rw [wB_cons, ih]
    unfold cutB intoR
    rw [List.filter_cons]
    by_cases e : q.1 = b
    · have h1 : lkG (q :: bins) b = some q.2 := by unfold lkG; rw [List.find?_cons, decide_eq_true e]; rfl
      have h2 : lkG bins b = none := lkG_none.mpr (by rw [← e]; exact hn.1)
      rw [h1, h2, decide_eq_true e]
      have h3 : (fun z => if q.1 = b then G z else β q.1 z) = G := by funext z; rw [if_pos e]
      rw [h3]
      show sumF q.2 G + (wB (bins.filter _) β + 0) = wB (bins.filter _) β + sumF q.2 G
      omega
    · have h1 : lkG (q :: bins) b = lkG bins b := by unfold lkG; rw [List.find?_cons, decide_eq_false e]
      rw [h1, decide_eq_false e]
      have h3 : (fun z => if q.1 = b then G z else β q.1 z) = β q.1 := by funext z; rw [if_neg e]
      rw [h3]
      show sumF q.2 (β q.1) + (wB (bins.filter _) β + _) = wB (q :: bins.filter _) β + _
      rw [wB_cons]; omega
/-- the whole -/
theorem joint (p1 : 2 ≤ pt) (p2 : pt ≤ 9) (hf : ¬ one[0]? = some (.bin b)) (h0 : 1 ≤ one.length) (ok1 : RowsOk one) (ok2 : RowsOk other) (okm : RowsOk (behindR one b other)) (nrm : NoRing (behindR one b other)) {U : List Int} {lot : List (Int × Int)}
    {bm bo bt : Bins} {dm do_ dt : List Int} (wm : Worked pt (behindR one b other) U 0 lot bm dm) (wo : Worked pt one U 0 lot bo do_) (wt : Worked pt other U 0 (intoR bo b) bt dt) (α : Nat → Int) (β : Int → Int → Int) :
    dsum dm 0 α + wB bm β = dsum (handR one b do_ ++ dt) 0 α + (wB (cutB bo b) β + wB bt β) := by
  obtain ⟨F, e⟩ := F_ex p1 p2 okm nrm α β
  have v1 := wm.v _ _ _ e
  have v2 := wo.v _ _ _ (eqn_one hf ok1 e)
  have v3 := wt.v _ _ _ (eqn_two hf ok2 e)
  have hp : pos one b 0 = 0 := by
    unfold pos
    rw [if_neg hf]; rfl
  have e1 : (lot.map fun q => q.2 * fO one b F 0 q.1).sum = (lot.map fun q => q.2 * F 0 q.1).sum := by
    unfold fO
    rw [hp]
  have e2 : ((intoR bo b).map fun q => q.2 * fT one b F 0 q.1).sum = sumF (intoR bo b) (F (n0 one b)) := rfl
  have e3 := wB_cut (b := b) (β := β) (G := F (n0 one b)) (lt_nd wo.bs)
  rw [e1, handR_sum wo.dl] at v2
  rw [e2] at v3
  have e4 : dsum dt 0 (alT one b α) = dsum dt (n0 one b) α := dsum_shift α (n0 one b) dt 0
  rw [e4] at v3
  rw [dsum_app, handR_len, Nat.zero_add]
  have v1' : dsum dm 0 α + wB bm β = (lot.map fun q => q.2 * F 0 q.1).sum := v1
  have v2' : dsum (handR one b do_) 0 α + wB bo (fun b' z => if b' = b then F (n0 one b) z else β b' z) = (lot.map fun q => q.2 * F 0 q.1).sum := v2
  have v3' : dsum dt (n0 one b) α + wB bt β = sumF (intoR bo b) (F (n0 one b)) := v3
  omega
/-! the poured bins -/
theorem lkG_st {γ : Type} {l : List (Int × γ)} {k : Int} {d : γ} {x : Int} : lkG (stG l k d) x = if x = k then some d else lkG l x := by
  unfold stG
  by_cases h : k ∈ l.map (·.1)
  · rw [if_pos h]
    induction l with
    | nil => cases h
    | cons q l ih =>
      unfold lkG
      rw [List.map_cons, List.find?_cons, List.find?_cons]
      by_cases e : q.1 = k
      · rw [if_pos e]
        by_cases y : q.1 = x
        · have : x = k := by rw [← y, e]
          simp [y, this]
        · have hx : ¬ x = k := fun w => y (by rw [w, e])
          simp only [decide_eq_false y, if_neg hx]
          -- below, keys k may stand again
          clear ih h
          induction l with
          | nil => rfl
          | cons r l ih =>
            rw [List.map_cons, List.find?_cons, List.find?_cons]
            by_cases w : r.1 = x
            · have : ¬ r.1 = k := fun u => hx (by rw [← w, u])
              rw [if_neg this, decide_eq_true w]
            · have h2 : decide ((if r.1 = k then (r.1, d) else r : Int × γ).1 = x) = false := by
                split
                · exact decide_eq_false w
                · exact decide_eq_false w
              rw [h2, decide_eq_false w]
              exact ih
      · rw [if_neg e]
        by_cases y : q.1 = x
        · have hx : ¬ x = k := fun w => e (by rw [y, w])
          simp [y, hx]
        · simp only [decide_eq_false y]
          have hm : k ∈ l.map (·.1) := by
            rcases List.mem_cons.mp (show k ∈ q.1 :: l.map (·.1) from h) with w | w
            · exact absurd w.symm e
            · exact w
          exact ih hm
  · rw [if_neg h]
    unfold lkG
    rw [List.find?_append]
    by_cases y : x = k
    · subst y
      have : l.find? (fun q => decide (q.1 = x)) = none := List.find?_eq_none.mpr fun q hq w => h (List.mem_map.mpr ⟨q, hq, by simpa using w⟩)
      rw [this, if_pos rfl]
      simp
    · have hk : ¬ k = x := fun w => y w.symm
      rw [if_neg y]
      simp [hk]
theorem lkG_poured : ∀ {more l : Bins} {x : Int}, (more.map (·.1)).Nodup → lkG (more.foldl pourS l) x = match lkG more x with
    | some m => some (lotR ((lkG l x).getD [] ++ m))
    | none => lkG l x
  | [], l, x, _ => rfl
  | q :: more, l, x, hn => by
    rw [List.map_cons, List.nodup_cons] at hn
    rw [List.foldl_cons, lkG_poured hn.2]
    by_cases e : q.1 = x
    · have h1 : lkG (q :: more) x = some q.2 := by unfold lkG; rw [List.find?_cons, decide_eq_true e]; rfl
      have h2 : lkG more x = none := lkG_none.mpr (by rw [← e]; exact hn.1)
      rw [h1, h2]
      dsimp only
      unfold pourS
      rw [lkG_st, if_pos e.symm, e]
    · have h1 : lkG (q :: more) x = lkG more x := by unfold lkG; rw [List.find?_cons, decide_eq_false e]
      have h2 : lkG (pourS l q) x = lkG l x := by unfold pourS; rw [lkG_st, if_neg fun w => e w.symm]
      rw [h1, h2]
theorem stG_keys {γ : Type} (l : List (Int × γ)) (k : Int) (d : γ) : (stG l k d).map (·.1) = if k ∈ l.map (·.1) then l.map (·.1) else l.map (·.1) ++ [k] := by
  unfold stG
  by_cases h : k ∈ l.map (·.1)
  · rw [if_pos h, if_pos h, List.map_map]
    refine List.map_congr_left fun q _ => ?_
    show (if q.1 = k then (q.1, d) else q : Int × γ).1 = q.1
    split <;> rfl
  · rw [if_neg h, if_neg h, List.map_append]; rfl
theorem stG_nd {γ : Type} {l : List (Int × γ)} {k : Int} {d : γ} (h : (l.map (·.1)).Nodup) : ((stG l k d).map (·.1)).Nodup := by
  rw [stG_keys]
  split
  · exact h
  · rename_i z
    rw [List.nodup_append]
    exact ⟨h, by simp, fun a ha b hb y => by
      have : b = k := by simpa using hb
      rw [this] at y
      exact z (y ▸ ha)⟩
theorem poured_nd : ∀ (more l : Bins), (l.map (·.1)).Nodup → ((more.foldl pourS l).map (·.1)).Nodup
  | [], _, h => h
  | q :: more, l, h => poured_nd more (pourS l q) (stG_nd h)
theorem sumF_tot (z : Int) : ∀ l : List (Int × Int), sumF l (d1 z) = tot l z
  | [] => rfl
  | q :: l => by
    rw [sumF_cons, sumF_tot z l]
    unfold tot
    rw [List.filter_cons]
    by_cases e : q.1 = z
    · rw [decide_eq_true e, if_pos rfl, List.map_cons, List.sum_cons]
      have : d1 z q.1 = 1 := by unfold d1; rw [if_pos e]
      rw [this]; omega
    · rw [decide_eq_false e]
      have : d1 z q.1 = 0 := by unfold d1; rw [if_neg e]
      rw [this]; simp
theorem lotR_sum {l : List (Int × Int)} (hp : ∀ q ∈ l, 0 < q.2) (z : Int) : sumF (lotR l) (d1 z) = sumF l (d1 z) := by
  rw [sumF_tot z l]
  have nn : ∀ (l : List (Int × Int)), (∀ q ∈ l, 0 < q.2) → 0 ≤ tot l z := fun l hp => sum_nonneg fun x hx => by
    obtain ⟨q, hq, rfl⟩ := List.mem_map.mp hx
    exact Int.le_of_lt (hp q (List.mem_filter.mp hq).1)
  by_cases h : 0 < tot l z
  · have hk : z ∈ l.map (·.1) := by
      by_cases y : z ∈ l.map (·.1)
      · exact y
      · rw [← sumF_tot, sumF_no y] at h; omega
    have hm : (z, tot l z) ∈ lotR l := lotR_mem.mpr ⟨rfl, h, hk⟩
    exact sumF_at (lt_nd (lotR_keys l)) _ hm
  · have h1 := nn l hp
    have h2 : tot l z = 0 := by omega
    rw [h2]
    refine sumF_no fun hm => ?_
    obtain ⟨q, hq, e⟩ := List.mem_map.mp hm
    have := lotR_mem.mp hq
    rw [e] at this
    omega
/-- the bins of the made works are the poured ones, the handled are joined -/
theorem whole_law (p1 : 2 ≤ pt) (p2 : pt ≤ 9) (hf : ¬ one[0]? = some (.bin b)) (h0 : 1 ≤ one.length) (ok1 : RowsOk one) (ok2 : RowsOk other) (okm : RowsOk (behindR one b other)) (nrm : NoRing (behindR one b other)) {U : List Int} {lot : List (Int × Int)}
    {bm bo bt : Bins} {dm do_ dt : List Int} (wm : Worked pt (behindR one b other) U 0 lot bm dm) (wo : Worked pt one U 0 lot bo do_) (wt : Worked pt other U 0 (intoR bo b) bt dt) :
    dm = handR one b do_ ++ dt ∧ bm.length = (pouredR (cutB bo b) bt).length ∧ ∀ q ∈ bm, lkG (pouredR (cutB bo b) bt) q.1 = some q.2 := by
  have J := joint p1 p2 hf h0 ok1 ok2 okm nrm wm wo wt
  have z0 : ∀ (n : List Int) i, dsum n i (fun _ => 0) = 0 := by
    intro n
    induction n with
    | nil => intro i; rfl
    | cons x n ih => intro i; show x * 0 + dsum n (i + 1) _ = 0; rw [ih]; simp
  have cs : (cutB bo b).Sublist bo := List.filter_sublist
  have cn : ((cutB bo b).map (·.1)).Nodup := (lt_nd wo.bs).sublist (cs.map _)
  have mk : mkG (cutB bo b) = cutB bo b := mkG_self cn
  have lk : ∀ x, lkG (pouredR (cutB bo b) bt) x = match lkG bt x with
      | some m => some (lotR ((lkG (cutB bo b) x).getD [] ++ m))
      | none => lkG (cutB bo b) x := fun x => by unfold pouredR; rw [mk]; exact lkG_poured (lt_nd wt.bs)
  have pn : ((pouredR (cutB bo b) bt).map (·.1)).Nodup := by unfold pouredR; rw [mk]; exact poured_nd _ _ cn
  have ck : ∀ x, x ∈ (cutB bo b).map (·.1) ↔ x ≠ b ∧ Rw.bin x ∈ one := fun x => by
    constructor
    · intro h
      obtain ⟨q, hq, rfl⟩ := List.mem_map.mp h
      obtain ⟨h1, h2⟩ := List.mem_filter.mp hq
      exact ⟨by simpa using h2, (wo.bk _).mp (List.mem_map.mpr ⟨q, h1, rfl⟩)⟩
    · rintro ⟨h1, h2⟩
      obtain ⟨q, hq, rfl⟩ := List.mem_map.mp ((wo.bk x).mpr h2)
      exact List.mem_map.mpr ⟨q, List.mem_filter.mpr ⟨hq, by simpa using h1⟩, rfl⟩
  have mkeys : ∀ x, Rw.bin x ∈ behindR one b other ↔ (x ≠ b ∧ Rw.bin x ∈ one) ∨ Rw.bin x ∈ other := fun x => by
    have mv : ∀ (pl : List Int) (row : Rw), movR pl row = .bin x ↔ row = .bin x := fun pl row => by cases row <;> simp [movR]
    rw [made_eq hf, List.mem_append]
    constructor
    · rintro (h | h)
      · obtain ⟨row, h1, h2⟩ := List.mem_map.mp h
        rw [mv] at h2
        rw [h2] at h1
        obtain ⟨h3, h4⟩ := List.mem_filter.mp h1
        refine .inl ⟨fun y => ?_, h3⟩
        have : isB b (.bin x) = true := isB_iff.mpr (by rw [y])
        rw [this] at h4; cases h4
      · obtain ⟨row, h1, h2⟩ := List.mem_map.mp h
        rw [mv] at h2
        rw [h2] at h1
        exact .inr h1
    · rintro (⟨h1, h2⟩ | h)
      · refine .inl (List.mem_map.mpr ⟨_, List.mem_filter.mpr ⟨h2, ?_⟩, (mv _ _).mpr rfl⟩)
        cases q : isB b (.bin x) with
        | false => rfl
        | true => exact absurd (Rw.bin.inj (isB_iff.mp q)) h1
      · exact .inr (List.mem_map.mpr ⟨_, h, (mv _ _).mpr rfl⟩)
  have pk : ∀ x, x ∈ (pouredR (cutB bo b) bt).map (·.1) ↔ x ∈ (cutB bo b).map (·.1) ∨ x ∈ bt.map (·.1) := fun x => by
    have h1 : x ∈ (pouredR (cutB bo b) bt).map (·.1) ↔ ¬ lkG (pouredR (cutB bo b) bt) x = none := by rw [lkG_none, Classical.not_not]
    have h2 : x ∈ (cutB bo b).map (·.1) ↔ ¬ lkG (cutB bo b) x = none := by rw [lkG_none, Classical.not_not]
    have h3 : x ∈ bt.map (·.1) ↔ ¬ lkG bt x = none := by rw [lkG_none, Classical.not_not]
    rw [h1, h2, h3, lk]
    cases lkG bt x <;> simp
  refine ⟨list_getD ?_ fun i => ?_, ?_, fun q hq => ?_⟩
  · rw [wm.dl, made_len hf, List.length_append, handR_len, wt.dl]
  · have := J (dl i) (fun _ _ => 0)
    unfold wB at this
    rw [bins_z, bins_z, bins_z, dsum_dl0, dsum_dl0] at this
    omega
  · have := ((List.perm_ext_iff_of_nodup (lt_nd wm.bs) pn).mpr fun x => by rw [wm.bk, mkeys, pk, ck, wt.bk]).length_eq
    rwa [List.length_map, List.length_map] at this
  · have l1 := lkG_at (lt_nd wm.bs) hq
    have hkey := (mkeys q.1).mp ((wm.bk q.1).mp (List.mem_map.mpr ⟨q, hq, rfl⟩))
    have mult : ∀ z, sumF q.2 (d1 z) = sumF ((lkG (cutB bo b) q.1).getD []) (d1 z) + sumF ((lkG bt q.1).getD []) (d1 z) := fun z => by
      have := J (fun _ => 0) (bz q.1 z)
      rw [z0, z0, wB_lk (lt_nd wm.bs), wB_lk cn, wB_lk (lt_nd wt.bs), l1] at this
      have t : 0 + sumF q.2 (d1 z) = 0 + (sumF ((lkG (cutB bo b) q.1).getD []) (d1 z) + sumF ((lkG bt q.1).getD []) (d1 z)) := this
      omega
    have cpos : ∀ x ∈ (lkG (cutB bo b) q.1).getD [], 0 < x.2 := fun x hx => by
      cases e : lkG (cutB bo b) q.1 with
      | none => rw [e] at hx; cases hx
      | some c => rw [e] at hx; exact (wo.lk _ (cs.subset (lkG_mem e)) x hx).2
    rw [lk]
    cases e : lkG bt q.1 with
    | some m =>
      dsimp only
      congr 1
      rw [e] at mult
      have mp : ∀ x ∈ m, 0 < x.2 := fun x hx => (wt.lk _ (lkG_mem e) x hx).2
      have lp : ∀ x ∈ (lkG (cutB bo b) q.1).getD [] ++ m, 0 < x.2 := fun x hx => by
        rcases List.mem_append.mp hx with y | y
        · exact cpos x y
        · exact mp x y
      refine lot_ext (lotR_keys _) (wm.ls q hq) (fun x hx => (lotR_mem.mp hx).2.1) (fun x hx => (wm.lk q hq x hx).2) fun z => ?_
      rw [lotR_sum lp, sumF_append, mult z]; rfl
    | none =>
      dsimp only
      have hb : q.1 ∈ (cutB bo b).map (·.1) := by
        rcases hkey with y | y
        · exact (ck _).mpr y
        · exact absurd ((wt.bk _).mpr y) (lkG_none.mp e)
      cases e2 : lkG (cutB bo b) q.1 with
      | none => exact absurd hb (lkG_none.mp e2)
      | some c =>
        congr 1
        rw [e, e2] at mult
        have hc := cs.subset (lkG_mem e2)
        refine lot_ext (wo.ls _ hc) (wm.ls q hq) (fun x hx => (wo.lk _ hc x hx).2) (fun x hx => (wm.lk q hq x hx).2) fun z => ?_
        have := mult z
        have t : sumF q.2 (d1 z) = sumF c (d1 z) + 0 := this
        show sumF c _ = _
        omega
end
end MW

/-! PM5 -/
set_option Elab.async false
set_option linter.all false
set_option maxRecDepth 100000
set_option maxHeartbeats 400000
namespace MW
open PySem PySem.Spec L2
/-! ### the law's works: no rings -/
theorem stuck_no {rows : List Rw} (h : lawStuck rows = false) : ∀ s ∈ lawSizes rows, ∀ r, r < rows.length → itW rows s (some r) rows.length = none := fun s hs r hr => by
  have h1 := of_decide_eq_false h
  have h2 : ((lawSizes rows).filter (goesRound rows)).length = 0 := by omega
  have h3 : goesRound rows s = false := by
    cases q : goesRound rows s with
    | false => rfl
    | true =>
      have : s ∈ (lawSizes rows).filter (goesRound rows) := List.mem_filter.mpr ⟨hs, q⟩
      rw [List.eq_nil_of_length_eq_zero h2] at this; cases this
  have := List.any_eq_false.mp h3 r (List.mem_range.mpr hr)
  cases q : itW rows s (some r) rows.length with
  | none => rfl
  | some t => rw [q] at this; exact absurd rfl this
theorem itW_mono {rows : List Rw} {s s' : Int} (h : ∀ r t, wholeAt rows s r = some t → wholeAt rows s' r = some t) : ∀ N r, itW rows s' (some r) N = none → itW rows s (some r) N = none
  | 0, r, e => nomatch e
  | N + 1, r, e => by
    rw [Nat.add_comm, itW_step] at e ⊢
    cases q : wholeAt rows s r with
    | none => exact itW_no N
    | some t =>
      rw [h r t q] at e
      exact itW_mono h N t e
theorem below : ∀ (l : List Int) (s : Int), (∀ c ∈ l, s ≤ c) ∨ ∃ c ∈ l, c < s ∧ ∀ c' ∈ l, c' < s → c' ≤ c
  | [], _ => .inl fun _ h => nomatch h
  | x :: l, s => by
    rcases below l s with h | ⟨c, hc, h1, h2⟩
    · by_cases z : x < s
      · refine .inr ⟨x, List.mem_cons_self, z, fun c' hc' lt => ?_⟩
        rcases List.mem_cons.mp hc' with y | y
        · omega
        · have := h c' y; omega
      · refine .inl fun c hc => ?_
        rcases List.mem_cons.mp hc with y | y
        · omega
        · exact h c y
    · by_cases z : x < s ∧ c < x
      · refine .inr ⟨x, List.mem_cons_self, z.1, fun c' hc' lt => ?_⟩
        rcases List.mem_cons.mp hc' with y | y
        · omega
        · have := h2 c' y lt; omega
      · refine .inr ⟨c, List.mem_cons_of_mem _ hc, h1, fun c' hc' lt => ?_⟩
        rcases List.mem_cons.mp hc' with y | y
        · by_cases w : c < c'
          · rw [y] at w lt; exact absurd ⟨lt, w⟩ z
          · omega
        · exact h2 c' y lt
theorem free_nr {rows : List Rw} (ok : RowsOk rows) (h : lawStuck rows = false) : NoRingB rows rows.length := fun s hs r hr => by
  have st := stuck_no h
  rcases below (opens rows) s with hb | ⟨c, hc, h1, h2⟩
  · refine itW_mono (s' := 1) (fun r t e => ?_) _ r (st 1 List.mem_cons_self r hr)
    unfold wholeAt at e ⊢
    cases q : rows[r]? with
    | none => rw [q] at e; cases e
    | some row =>
      rw [q] at e
      have e : wholeR row s = some t := e
      show wholeR row 1 = some t
      cases row with
      | bin b => cases e
      | crush u =>
        simp only [wholeR] at e ⊢
        split at e
        · rw [if_pos trivial]; exact e
        · cases e
      | mesh c u o =>
        have hm := hb c (opens_mem.mpr ⟨u, o, List.mem_of_getElem? q⟩)
        simp only [wholeR] at e ⊢
        rw [if_pos hm] at e
        rw [if_pos (by omega)]; exact e
  · obtain ⟨u0, o0, hm0⟩ := opens_mem.mp hc
    have c1 := (ok _ hm0).1
    have hin : c + 1 ∈ lawSizes rows := List.mem_cons_of_mem _ (List.mem_flatMap.mpr ⟨_, hm0, List.mem_cons_of_mem _ List.mem_cons_self⟩)
    refine itW_mono (s' := c + 1) (fun r t e => ?_) _ r (st _ hin r hr)
    unfold wholeAt at e ⊢
    cases q : rows[r]? with
    | none => rw [q] at e; cases e
    | some row =>
      rw [q] at e
      have e : wholeR row s = some t := e
      show wholeR row (c + 1) = some t
      cases row with
      | bin b => cases e
      | crush u =>
        simp only [wholeR] at e
        rw [if_neg (by omega)] at e
        cases e
      | mesh c' u o =>
        have hm := h2 c' (opens_mem.mpr ⟨u, o, List.mem_of_getElem? q⟩)
        simp only [wholeR] at e ⊢
        by_cases z : s ≤ c'
        · rw [if_pos z] at e
          rw [if_pos (by omega)]; exact e
        · rw [if_neg z] at e
          have := hm (by omega)
          rw [if_neg (by omega)]; exact e
theorem NoRingB.up {rows : List Rw} {n m : Nat} (h : NoRingB rows n) (hm : n ≤ m) : NoRingB rows m := fun s hs r hr => by
  obtain ⟨d, rfl⟩ := Nat.exists_eq_add_of_le hm
  exact itW_none (h s hs r hr) d
/-- some bin there is -/
theorem free_bin {rows : List Rw} (ok : RowsOk rows) (h0 : 1 ≤ rows.length) (h : lawStuck rows = false) : ∃ b, Rw.bin b ∈ rows := by
  by_cases hb : ∃ b, Rw.bin b ∈ rows
  · exact hb
  · exfalso
    have nx : ∀ N r, r < rows.length → itW rows 1 (some r) N ≠ none := by
      intro N
      induction N with
      | zero => intro r _ e; cases e
      | succ N ih =>
        intro r hr
        rw [Nat.add_comm, itW_step]
        have hrow : rows[r]? = some rows[r] := List.getElem?_eq_getElem hr
        have hw : ∃ t, wholeR rows[r] 1 = some t := by
          cases q : rows[r] with
          | bin b => exact absurd ⟨b, by rw [← q]; exact List.getElem_mem hr⟩ hb
          | crush t => exact ⟨t, by simp [wholeR]⟩
          | mesh c u o =>
            simp only [wholeR]
            split
            · exact ⟨u, rfl⟩
            · exact ⟨o, rfl⟩
        obtain ⟨t, ht⟩ := hw
        have hwa : wholeAt rows 1 r = some t := by unfold wholeAt; rw [hrow]; exact ht
        rw [hwa]
        exact ih t (wholeR_lt (ok _ (List.mem_of_getElem? hrow)) ht)
    exact nx _ 0 (by omega) (stuck_no h 1 List.mem_cons_self 0 (by omega))
/-- rows whose ways go onward, or to a row that ends them -/
theorem fwd_nr {rows : List Rw} (h : ∀ r t s, 1 ≤ s → wholeAt rows s r = some t → t < rows.length ∧ (r < t ∨ wholeAt rows s t = none)) : NoRingB rows (rows.length + 1) := fun s hs => by
  have key : ∀ n r, r < rows.length → rows.length - r ≤ n → itW rows s (some r) (n + 1) = none := by
    intro n
    induction n with
    | zero => intro r h1 h2; omega
    | succ n ih =>
      intro r h1 h2
      rw [show n + 1 + 1 = 1 + (n + 1) by omega, itW_step]
      cases q : wholeAt rows s r with
      | none => exact itW_no _
      | some t =>
        obtain ⟨k1, k2 | k2⟩ := h r t s hs q
        · exact ih t k1 (by omega)
        · rw [Nat.add_comm, itW_step, k2]; exact itW_no _
  exact fun r hr => key rows.length r hr (by omega)
theorem pre_at (ns : List Int) {j : Nat} : ∀ {k : Nat}, j < k → (lawPre ns k)[j]? = some (lawNew (lawPre ns j) (cellAt ns (1 + j)) j ((lawM ns : Int) - (j : Int)))
  | k + 1, h => by
    show (lawPre ns k ++ [lawNew (lawPre ns k) (cellAt ns (1 + k)) k ((lawM ns : Int) - (k : Int))])[j]? = _
    by_cases e : j < k
    · rw [List.getElem?_append_left (by rw [lawPre_len]; exact e)]
      exact pre_at ns e
    · have : j = k := by omega
      subst this
      rw [List.getElem?_append_right (by rw [lawPre_len]; exact Nat.le_refl _), lawPre_len, Nat.sub_self]; rfl
theorem pre_pre (ns : List Int) {j k m : Nat} (h1 : j < k) (h2 : j < m) : (lawPre ns k)[j]? = (lawPre ns m)[j]? := by rw [pre_at ns h1, pre_at ns h2]
/-- a row of the law's own rows -/
def FwdRow (rows : List Rw) (r : Nat) : Rw → Prop
  | .mesh c u o => (1 ≤ c ∧ c ≤ 10 ^ 60) ∧ (r < u ∧ u < rows.length) ∧ o < rows.length ∧ (r < o ∨ ∃ t, rows[o]? = some (.crush t))
  | .crush t => r < t ∧ t < rows.length
  | .bin b => 0 ≤ b ∧ b ≤ 5
theorem rows_fwd (ns : List Int) : (lawRows ns).length = lawM ns + 1 ∧ ∀ r row, (lawRows ns)[r]? = some row → FwdRow (lawRows ns) r row := by
  obtain ⟨m1, m2, m3⟩ := lawM_le ns
  have hl : (lawRows ns).length = lawM ns + 1 := by unfold lawRows; rw [List.length_append, lawPre_len]; rfl
  refine ⟨hl, fun r row hr => ?_⟩
  have hlt : r < lawM ns + 1 := by rw [← hl]; exact (List.getElem?_eq_some_iff.mp hr).1
  have inj : ∀ j, j < lawM ns → (lawRows ns)[j]? = (lawPre ns (lawM ns))[j]? := fun j hj => by
    unfold lawRows
    rw [List.getElem?_append_left (by rw [lawPre_len]; exact hj)]
  by_cases h : r < lawM ns
  · rw [inj r h, pre_at ns h] at hr
    cases hr
    generalize cellAt ns (1 + r) = cell
    have later : 1 ≤ (lawM ns : Int) - r := by omega
    have q1 := Int.emod_nonneg (cell / 5) (show (lawM ns : Int) - r ≠ 0 by omega)
    have q2 := Int.emod_lt_of_pos (cell / 5) (show 0 < (lawM ns : Int) - r by omega)
    unfold lawNew
    split
    · refine ⟨lawSize_ok _, ⟨by omega, by rw [hl]; omega⟩, ?_⟩
      unfold lawOver
      rw [lawPre_len]
      generalize cell / 64 = c2
      have q3 := Int.emod_nonneg (c2 / 3) (show (lawM ns : Int) - r ≠ 0 by omega)
      have q4 := Int.emod_lt_of_pos (c2 / 3) (show 0 < (lawM ns : Int) - r by omega)
      split
      · rename_i hc
        have al := hc.2
        have q5 := Int.emod_nonneg (c2 / 3) (show ((lawAhead (lawPre ns r)).length : Int) ≠ 0 by omega)
        have q6 := Int.emod_lt_of_pos (c2 / 3) (show 0 < ((lawAhead (lawPre ns r)).length : Int) by omega)
        have hi : (c2 / 3 % ((lawAhead (lawPre ns r)).length : Int)).toNat < (lawAhead (lawPre ns r)).length := by omega
        have hm : (lawAhead (lawPre ns r)).getD (c2 / 3 % ((lawAhead (lawPre ns r)).length : Int)).toNat 0 ∈ lawAhead (lawPre ns r) := by
          rw [List.getD_eq_getElem?_getD, List.getElem?_eq_getElem hi]
          exact List.getElem_mem hi
        generalize (lawAhead (lawPre ns r)).getD (c2 / 3 % ((lawAhead (lawPre ns r)).length : Int)).toNat 0 = o at hm
        obtain ⟨h1, h2⟩ := List.mem_filter.mp hm
        have h1 := List.mem_range.mp h1
        rw [lawPre_len] at h1
        refine ⟨by rw [hl]; omega, .inr ?_⟩
        rw [inj o (by omega), pre_pre ns (show o < lawM ns by omega) h1]
        cases e : (lawPre ns r)[o]? with
        | none => rw [e] at h2; cases h2
        | some row =>
          rw [e] at h2
          cases row with
          | crush t => exact ⟨t, rfl⟩
          | mesh a b c => cases h2
          | bin b => cases h2
      · exact ⟨by rw [hl]; omega, .inl (by omega)⟩
    · split
      · exact ⟨by omega, by rw [hl]; omega⟩
      · show 0 ≤ _ ∧ _ ≤ 5; omega
  · have : r = lawM ns := by omega
    subst this
    unfold lawRows at hr
    rw [List.getElem?_append_right (by rw [lawPre_len]; exact Nat.le_refl _), lawPre_len, Nat.sub_self] at hr
    cases hr
    show 0 ≤ _ ∧ _ ≤ 5; omega
theorem FwdRow.ok {rows : List Rw} {r : Nat} {row : Rw} (h : FwdRow rows r row) : row.ok rows.length := by
  cases row with
  | mesh c u o => exact ⟨h.1.1, h.1.2, h.2.1.2, h.2.2.1⟩
  | crush t => exact h.2
  | bin b => exact h
theorem lawRows_fact (ns : List Int) : RowsOk (lawRows ns) ∧ NoRingB (lawRows ns) 9 ∧ ∃ b, Rw.bin b ∈ lawRows ns := by
  obtain ⟨hl, hf⟩ := rows_fwd ns
  obtain ⟨m1, m2, m3⟩ := lawM_le ns
  refine ⟨fun row hr => ?_, (fwd_nr fun r t s hs e => ?_).up (by omega), ⟨_, List.mem_append_right _ (List.mem_singleton.mpr rfl)⟩⟩
  · obtain ⟨r, h⟩ := List.mem_iff_getElem?.mp hr
    exact (hf r row h).ok
  · unfold wholeAt at e
    cases q : (lawRows ns)[r]? with
    | none => rw [q] at e; cases e
    | some row =>
      rw [q] at e
      have e : wholeR row s = some t := e
      have hr := hf r row q
      cases row with
      | bin b => cases e
      | crush u =>
        simp only [wholeR] at e
        split at e
        · cases e; exact ⟨hr.2, .inl hr.1⟩
        · cases e
      | mesh c u o =>
        obtain ⟨h1, h2, h3, h4⟩ := hr
        simp only [wholeR] at e
        split at e
        · cases e; exact ⟨h2.2, .inl h2.1⟩
        · cases e
          rename_i z
          rcases h4 with y | ⟨x, hx⟩
          · exact ⟨h3, .inl y⟩
          · refine ⟨h3, .inr ?_⟩
            unfold wholeAt
            rw [hx]
            show wholeR (.crush x) s = none
            simp only [wholeR]
            rw [if_neg (by omega)]
theorem lawGood_fact (ns : List Int) : RowsOk (lawGood ns) ∧ NoRingB (lawGood ns) 9 ∧ (∃ b, Rw.bin b ∈ lawGood ns) ∧ 1 ≤ (lawGood ns).length ∧ (lawGood ns).length ≤ 8 := by
  unfold lawGood
  obtain ⟨f1, f2⟩ := lawFree_ok ns
  obtain ⟨g1, g2, _⟩ := lawGN_le ns
  obtain ⟨m1, m2, m3⟩ := lawM_le ns
  cases h : lawStuck (lawFree ns) with
  | true =>
    rw [if_pos rfl]
    obtain ⟨h1, h2, h3⟩ := lawRows_fact ns
    have := (rows_fwd ns).1
    exact ⟨h1, h2, h3, by omega, by omega⟩
  | false =>
    rw [if_neg (by simp)]
    exact ⟨f1, (free_nr f1 h).up (by omega), free_bin f1 (by omega) h, by omega, by omega⟩
def oRows (c : Int) : List Rw := [.mesh (lawSize c) 1 2, .bin 0, .bin 3]
theorem oRows_fact (c : Int) : RowsOk (oRows c) ∧ NoRingB (oRows c) 9 := by
  constructor
  · intro row hr
    rcases List.mem_cons.mp hr with e | hr
    · rw [e]
      have := lawSize_ok c
      exact ⟨this.1, this.2, (show 1 < 3 by decide), (show 2 < 3 by decide)⟩
    · rcases List.mem_cons.mp hr with e | hr
      · rw [e]; exact ⟨by decide, by decide⟩
      · rw [List.mem_singleton.mp hr]; exact ⟨by decide, by decide⟩
  · refine (fwd_nr (rows := oRows c) fun r t s hs e => ?_).up (by show 3 + 1 ≤ 9; decide)
    match r, e with
    | 0, e =>
      have e : wholeR (.mesh (lawSize c) 1 2) s = some t := e
      simp only [wholeR] at e
      split at e <;> (cases e; exact ⟨by show _ < 3; decide, .inl (by decide)⟩)
    | 1, e => cases e
    | 2, e => cases e
    | r + 3, e => cases e
/-! ### sizes that may come -/
def uniR (p : Int) (xs : List Int) : List Int := (xs.flatMap fun x => (List.range 60).flatMap fun j => [x / p ^ j, x / p ^ j + 1]).filter fun y => decide (1 ≤ y)
theorem mem_uni {p : Int} {xs : List Int} {y : Int} : y ∈ uniR p xs ↔ 1 ≤ y ∧ ∃ x ∈ xs, ∃ j, j < 60 ∧ (y = x / p ^ j ∨ y = x / p ^ j + 1) := by
  unfold uniR
  rw [List.mem_filter, decide_eq_true_eq, And.comm]
  refine and_congr Iff.rfl ?_
  constructor
  · intro h
    obtain ⟨x, hx, h⟩ := List.mem_flatMap.mp h
    obtain ⟨j, hj, h⟩ := List.mem_flatMap.mp h
    refine ⟨x, hx, j, List.mem_range.mp hj, ?_⟩
    rcases List.mem_cons.mp h with z | z
    · exact .inl z
    · exact .inr (List.mem_singleton.mp z)
  · rintro ⟨x, hx, j, hj, h⟩
    refine List.mem_flatMap.mpr ⟨x, hx, List.mem_flatMap.mpr ⟨j, List.mem_range.mpr hj, ?_⟩⟩
    rcases h with z | z
    · rw [z]; exact List.mem_cons_self
    · rw [z]; exact List.mem_cons_of_mem _ List.mem_cons_self
theorem uni_ok {p : Int} {xs : List Int} (p1 : 2 ≤ p) (p2 : p ≤ 9) (hx : ∀ x ∈ xs, 1 ≤ x ∧ x ≤ 10 ^ 14) (hl : xs.length ≤ 15) : Univ p (uniR p xs) ∧ (uniR p xs).length ≤ 2000 ∧ ∀ x ∈ xs, x ∈ uniR p xs := by
  have len : (uniR p xs).length ≤ 2000 := by
    unfold uniR
    refine Nat.le_trans (List.length_filter_le _ _) ?_
    have h1 := flat2 (n := 120) (f := fun x : Int => (List.range 60).flatMap fun j => [x / p ^ j, x / p ^ j + 1]) (fun x => by
      have := flat2 (n := 2) (f := fun j : Nat => [x / p ^ j, x / p ^ j + 1]) (fun _ => Nat.le_refl _) (List.range 60)
      rw [List.length_range] at this
      exact this) xs
    omega
  refine ⟨⟨fun x h => (mem_uni.mp h).1, fun y hy q hq => ?_, by omega⟩, len, fun x h => mem_uni.mpr ⟨(hx x h).1, x, h, 0, by decide, .inl (by simp)⟩⟩
  obtain ⟨y1, x, hxm, j, hj, hyx⟩ := mem_uni.mp hy
  obtain ⟨x1, x2⟩ := hx x hxm
  have pj : (0 : Int) < p ^ j := Int.pow_pos (by omega)
  have a0 : 0 ≤ x / p ^ j := Int.ediv_nonneg (by omega) (by omega)
  obtain ⟨m1, m2⟩ := List.mem_filter.mp hq
  have m2 := of_decide_eq_true m2
  have d1 := Int.mul_ediv_add_emod y p
  have d2 := Int.emod_nonneg y (show p ≠ 0 by omega)
  have d3 := Int.emod_lt_of_pos y (show 0 < p by omega)
  have yp : 0 ≤ y / p := Int.ediv_nonneg (by omega) (by omega)
  have q1 : 1 ≤ q.1 := by
    rcases List.mem_cons.mp m1 with e | e
    · rw [e] at m2 ⊢
      dsimp only at m2 ⊢
      rcases Int.lt_or_le 0 (y / p) with z | z
      · omega
      · have : y / p = 0 := by omega
        rw [this, Int.zero_mul] at m2; omega
    · rw [List.mem_singleton.mp e]; dsimp only; omega
  by_cases hj2 : j + 1 < 60
  · have ha : x / p ^ (j + 1) = x / p ^ j / p := by rw [Int.pow_succ, Int.ediv_ediv_of_nonneg (by omega)]
    refine mem_uni.mpr ⟨q1, x, hxm, j + 1, hj2, ?_⟩
    rw [ha]
    generalize x / p ^ j = a at *
    have e1 := Int.mul_ediv_add_emod a p
    have e2 := Int.emod_nonneg a (show p ≠ 0 by omega)
    have e3 := Int.emod_lt_of_pos a (show 0 < p by omega)
    rcases hyx with rfl | rfl
    · rcases List.mem_cons.mp m1 with e | e
      · rw [e]; exact .inl rfl
      · rw [List.mem_singleton.mp e]; exact .inr rfl
    · -- (a + 1) / p
      have hh : (a + 1) / p = a / p ∨ ((a + 1) / p = a / p + 1 ∧ (a + 1) % p = 0) := by
        by_cases w : a % p = p - 1
        · right
          have : a + 1 = p * (a / p + 1) := by rw [Int.mul_add]; omega
          constructor
          · rw [this, Int.mul_ediv_cancel_left _ (by omega)]
          · rw [this, Int.mul_emod_right]
        · left
          have : a + 1 = (a % p + 1) + p * (a / p) := by omega
          rw [this, Int.add_mul_ediv_left _ _ (by omega), Int.ediv_eq_zero_of_lt (by omega) (by omega)]; omega
      rcases List.mem_cons.mp m1 with e | e
      · rw [e]; dsimp only; omega
      · have e := List.mem_singleton.mp e
        rw [e] at m2 ⊢
        dsimp only at m2 ⊢
        rcases hh with w | ⟨_, w⟩
        · omega
        · rw [w, Int.mul_zero] at m2; omega
  · have hj3 : j = 59 := by omega
    subst hj3
    have h2 := two_pow_le p1 59
    have a1 : x / p ^ 59 = 0 := Int.ediv_eq_zero_of_lt (by omega) (by
      have : (10 : Int) ^ 14 < 2 ^ 59 := by decide
      omega)
    have y2 : y = 1 := by omega
    subst y2
    have e4 : (1 : Int) / p = 0 := Int.ediv_eq_zero_of_lt (by omega) (by omega)
    refine mem_uni.mpr ⟨q1, x, hxm, 59, by decide, .inr ?_⟩
    rw [a1]
    rcases List.mem_cons.mp m1 with e | e
    · rw [e, e4, Int.zero_mul] at m2; omega
    · rw [List.mem_singleton.mp e, e4]
end MW

/-! G20 -/
set_option Elab.async false
set_option linter.all false
set_option maxRecDepth 100000
set_option maxHeartbeats 400000
namespace MW
open PySem PySem.Spec L2

theorem eqv_rows (rows : List Rw) : PyData.eqv (rowsD rows) (rowsD rows) = true := by
  show PyData.eqvAll (rows.map rowD) (rows.map rowD) = true
  induction rows with
  | nil => rfl
  | cons r rows ih => cases r <;> simp [PyData.eqvAll, PyData.eqv, ih]
theorem nod_rows (rows : List Rw) : NoD (rowsD rows) = true := by
  show NoDs (rows.map rowD) = true
  induction rows with
  | nil => rfl
  | cons r rows ih => cases r <;> simp [NoDs, NoD, ih]
theorem shaped_rows (rows : List Rw) : SeqAt.shaped (rowsD rows) = true := by
  have h1 : PyData.canLayAll0 (rows.map rowD) = true := by
    induction rows with
    | nil => rfl
    | cons r rows ih => cases r <;> simp [PyData.canLayAll0, PyData.canLay0, ih, strk1, strk2, strk3]
  have h2 : PyData.depthAll (rows.map rowD) ≤ 10 := by
    induction rows with
    | nil => simp [PyData.depthAll]
    | cons r rows ih =>
      have h1' : PyData.canLayAll0 (rows.map rowD) = true := by
        simp only [List.map_cons, PyData.canLayAll0, Bool.and_eq_true] at h1; exact h1.2
      have := ih h1'
      cases r <;> simp [PyData.depthAll, PyData.depth] <;> omega
  unfold SeqAt.shaped
  rw [Bool.and_eq_true]
  refine ⟨?_, decide_eq_true ?_⟩
  · show PyData.canLayAll0 (rows.map rowD) = true
    exact h1
  · show PyData.depth (.list (rows.map rowD)) ≤ 64
    unfold PyData.depth
    omega
theorem eqv_rows_nil (rows : List Rw) : PyData.eqv (rowsD rows) (.list []) = decide (rows = []) := by
  cases rows with
  | nil => rfl
  | cons r rows =>
    show PyData.eqvAll _ _ = _
    simp [PyData.eqvAll]
theorem nod_ints (ns : List Int) : NoD (.list (ns.map .int)) = true := by
  show NoDs (ns.map .int) = true
  induction ns with
  | nil => rfl
  | cons n ns ih => simp [NoDs, NoD, ih]
theorem shaped_ints (ns : List Int) : SeqAt.shaped (.list (ns.map .int)) = true := by
  have h1 : PyData.canLayAll0 (ns.map PyData.int) = true := by
    induction ns with
    | nil => rfl
    | cons n ns ih => simp [PyData.canLayAll0, PyData.canLay0, ih]
  have h2 : PyData.depthAll (ns.map PyData.int) ≤ 10 := by
    clear h1
    induction ns with
    | nil => simp [PyData.depthAll]
    | cons n ns ih => simp [PyData.depthAll, PyData.depth]; omega
  unfold SeqAt.shaped
  rw [Bool.and_eq_true]
  refine ⟨h1, decide_eq_true ?_⟩
  show PyData.depth (.list (ns.map .int)) ≤ 64
  unfold PyData.depth
  omega
def isBin : Rw → Bool
  | .bin _ => true
  | _ => false
def binNo : Rw → Int
  | .bin b => b
  | _ => 0
section
variable {R : Res} {K : PySem.W.Frag} {Hb0 H0 H : Hp} {G G' : Ctx} {σ : L2.St} {De : Ends} {ta : TE} {tu tz : TS} {tc : TT}
theorem q_ifJ {b : Bool} (c : Cur Hb0 H0 G σ H) (ht : YT R0 tc G b) (k1 : b = true → ∀ H', Cur Hb0 H0 G σ H' → ∀ N : L2.St → Hp → Prop, (∀ σ H, Cur Hb0 H0 G' σ H → N σ H) → tu { De with nx := N } σ H') (k2 : b = false → ∀ H', Cur Hb0 H0 G σ H' → Cur Hb0 H0 G' σ H')
    (k : ∀ σ' H', Cur Hb0 H0 G' σ' H' → tz De σ' H') : tSeq (tIfS tc tu tNext) tz De σ H := z_when c ht (fun hb H1 c1 => k1 hb H1 c1 _ fun σ H c => k σ H c) fun hb H1 c1 => k σ H1 (k2 hb H1 c1)
theorem y_neg {i : Int} (ha : Y R ta G (D (.int i))) : Y R (tUn (rU fun i => .int (-i)) ta) G (D (.int (-i))) := fun H0 Hb H σ E rr s Q q => ha H0 Hb H σ E rr s _ fun v Hb2 H2 g p => by
  obtain rfl : v = .int i := p
  exact ⟨i, rfl, q _ Hb2 H2 g rfl⟩
theorem atI_last {l : List Int} (h : l ≠ []) : atI (l.map PyData.int) (-1) = some (.int (l.getLast h)) := by
  have hl : 0 < l.length := List.length_pos_iff.mpr h
  unfold atI ixN
  rw [List.length_map, if_neg (by decide), if_pos (by omega)]
  show (l.map PyData.int)[((-1 : Int) + (l.length : Int)).toNat]? = _
  rw [show ((-1 : Int) + (l.length : Int)).toNat = l.length - 1 by omega, List.getElem?_map, List.getElem?_eq_getElem (by omega), List.getLast_eq_getElem]
  rfl
/-- what was done, when known in part -/
def DnP (k : Nat) : Pr := fun Hb v => ∃ done : List Int, (k < done.length ∧ 1 ≤ done.getD k 0) ∧ Dv Hb (.list (done.map .int)) v
def GeP : Pr := fun _ v => ∃ i : Int, 1 ≤ i ∧ v = .int i
theorem mono_DnP {k : Nat} : Mono (DnP k) := fun _ _ _ s ⟨d, h1, h2⟩ => ⟨d, h1, Dv.mono s _ _ h2⟩
theorem mono_GeP : Mono GeP := fun _ _ _ _ h => h
end
/-- what the law needs of its script -/
structure LawIn (ns ns2 : List Int) (p b : Int) : Prop where
  p1 : 2 ≤ p
  p2 : p ≤ 9
def lfR (ns : List Int) (b : Int) : List Rw := if (lawGood ns)[0]? = some (.bin b) then [] else keptR (lawGood ns) b
def othR (ns ns2 : List Int) (b : Int) : List Rw := if 12 < (lfR ns b).length + (lawGood ns2).length then oRows (cellAt ns 24) else lawGood ns2
theorem keptR_len (rows : List Rw) (b : Int) : (keptR rows b).length ≤ rows.length := List.length_filter_le _ _
theorem oth_fact (ns ns2 : List Int) (b : Int) : RowsOk (othR ns ns2 b) ∧ NoRingB (othR ns ns2 b) 9 ∧ 1 ≤ (othR ns ns2 b).length ∧ (othR ns ns2 b).length ≤ 12 ∧ (¬ (lawGood ns)[0]? = some (.bin b) → (keptR (lawGood ns) b).length + (othR ns ns2 b).length ≤ 12) := by
  obtain ⟨g1, g2, g3, g4, g5⟩ := lawGood_fact ns2
  obtain ⟨o1, o2⟩ := oRows_fact (cellAt ns 24)
  obtain ⟨h1, h2, h3, h4, h5⟩ := lawGood_fact ns
  have kl := keptR_len (lawGood ns) b
  unfold othR
  split
  · exact ⟨o1, o2, by show 1 ≤ 3; decide, by show 3 ≤ 12; decide, fun _ => by show _ + 3 ≤ 12; omega⟩
  · rename_i z
    refine ⟨g1, g2, g4, by omega, fun hn => ?_⟩
    unfold lfR at z
    rw [if_neg hn] at z
    omega
theorem made_fact (ns ns2 : List Int) (b : Int) : RowsOk (behindR (lawGood ns) b (othR ns ns2 b)) ∧ NoRing (behindR (lawGood ns) b (othR ns ns2 b)) ∧ 1 ≤ (behindR (lawGood ns) b (othR ns ns2 b)).length ∧ (behindR (lawGood ns) b (othR ns ns2 b)).length ≤ 12 := by
  obtain ⟨o1, o2, o3, o4, o5⟩ := oth_fact ns ns2 b
  obtain ⟨h1, h2, h3, h4, h5⟩ := lawGood_fact ns
  by_cases hf : (lawGood ns)[0]? = some (.bin b)
  · have e : behindR (lawGood ns) b (othR ns ns2 b) = othR ns ns2 b := by unfold behindR; rw [if_pos hf]
    rw [e]
    exact ⟨o1, o2.nr (by decide), o3, o4⟩
  · have l := made_len (other := othR ns ns2 b) hf
    have := o5 hf
    have e : n0 (lawGood ns) b = (keptR (lawGood ns) b).length := rfl
    exact ⟨made_ok hf o3 h1 o1, (made_nr hf o3 h1 o1 h2 o2).nr (by decide), by omega, by omega⟩
theorem lf_nil (ns : List Int) (b : Int) : lfR ns b = [] ↔ (lawGood ns)[0]? = some (.bin b) := by
  obtain ⟨h1, h2, h3, h4, h5⟩ := lawGood_fact ns
  unfold lfR
  by_cases hf : (lawGood ns)[0]? = some (.bin b)
  · rw [if_pos hf]; exact ⟨fun _ => hf, fun _ => rfl⟩
  · rw [if_neg hf]
    refine ⟨fun h => ?_, fun h => absurd h hf⟩
    exfalso
    have hr : (lawGood ns)[0]? = some (lawGood ns)[0] := List.getElem?_eq_getElem (by omega)
    have : (lawGood ns)[0] ∈ keptR (lawGood ns) b := List.mem_filter.mpr ⟨List.getElem_mem _, by
      cases q : isB b (lawGood ns)[0] with
      | false => rfl
      | true => exact absurd (by rw [hr, isB_iff.mp q]) hf⟩
    rw [h] at this; cases this
theorem great_fact (ns : List Int) : (greatR ns).length ≤ 14 ∧ ∀ q ∈ greatR ns, (1 ≤ q.1 ∧ q.1 ≤ 10 ^ 14) ∧ 0 < q.2 := by
  have sl := gSl_len ns
  constructor
  · have := lotR_len (gPairs ns)
    unfold gPairs at this
    rw [List.length_append, List.length_map, List.length_singleton] at this
    unfold greatR gPairs
    omega
  · intro q hq
    obtain ⟨_, h2, h3⟩ := lotR_mem.mp hq
    refine ⟨?_, h2⟩
    obtain ⟨x, hx, e⟩ := List.mem_map.mp h3
    rw [← e]
    unfold gPairs at hx
    rcases List.mem_append.mp hx with y | y
    · obtain ⟨c, _, rfl⟩ := List.mem_map.mp y
      exact gSz_b c
    · rw [List.mem_singleton.mp y]
      dsimp only
      omega
end MW

/-! G21 -/
set_option Elab.async false
set_option linter.all false
set_option maxRecDepth 100000
set_option maxHeartbeats 400000
namespace MW
open PySem PySem.Spec L2

def tailR (ns : List Int) : List Int := (ns.drop (HT.sIx ns.length 0 (some 13))).take (HT.sIx ns.length ns.length none - HT.sIx ns.length 0 (some 13))
def blR (ns : List Int) : List Int := ((lawGood ns).filter isBin).map binNo
theorem bl_ne (ns : List Int) : blR ns ≠ [] := fun h => by
  obtain ⟨_, _, ⟨b, hb⟩, _⟩ := lawGood_fact ns
  have : binNo (.bin b) ∈ blR ns := List.mem_map.mpr ⟨_, List.mem_filter.mpr ⟨hb, rfl⟩, rfl⟩
  rw [h] at this; cases this
def numR (ns : List Int) : Int := if cellAt ns 23 % 2 = 0 then (blR ns).getLast (bl_ne ns) else cellAt ns 22 % 6
theorem num_at (ns : List Int) : atI [PyData.int ((blR ns).getLast (bl_ne ns)), PyData.int (cellAt ns 22 % 6)] (cellAt ns 23 % 2) = some (.int (numR ns)) := by
  unfold numR
  have : cellAt ns 23 % 2 = 0 ∨ cellAt ns 23 % 2 = 1 := by omega
  rcases this with h | h
  · rw [h, if_pos rfl]; rfl
  · rw [h, if_neg (by decide)]; rfl
section
variable {P : Program} {w : World} {K : PySem.W.Frag} {mg : Str → Option Value} {base : Heap}
theorem rv_done {k : Nat} {pt x : Int} {rows : List Rw} {U : List Int} (p1 : 2 ≤ pt) (p2 : pt ≤ 9) (ok : RowsOk rows) (nr : NoRing rows) (hk : k < rows.length) (hx : 1 ≤ x) (hr : Reach pt rows k 0 x) : RV (rIxT K) (WkP pt rows U 0 [(x, 1)]) (D (.int 1)) (DnP k) := fun v y Hb H q1 q2 s Q q => by
  obtain ⟨bins, done, w, a, vs, rfl, h, r⟩ := q1
  obtain rfl : y = .int 1 := q2
  obtain ⟨v, h1, h2⟩ := r.atI (i := 1) (d := .list (done.map .int)) rfl
  have ge := (reach_done p1 p2 ok nr hk w (fun q hq => by rw [List.mem_singleton.mp hq]; exact ⟨hx, (show (0 : Int) < 1 by decide)⟩)).2 ⟨_, List.mem_singleton.mpr rfl, hr⟩
  exact ⟨a, vs, 1, v, rfl, rfl, .inl (.inl (s _ _ h)), h1, q v Hb H (.refl s) ⟨done, ⟨by rw [w.dl]; exact hk, ge⟩, h2⟩⟩
theorem rv_ge {k : Nat} : RV (rIxL K) (DnP k) (D (.int (k : Nat))) GeP := fun v y Hb H q1 q2 s Q q => by
  obtain ⟨done, ⟨h1, h2⟩, a, vs, rfl, h, r⟩ := q1
  obtain rfl : y = .int (k : Nat) := q2
  have e : atI (done.map PyData.int) (k : Int) = some (.int (done.getD k 0)) := atI_nat (by rw [List.getElem?_map, List.getD_eq_getElem?_getD, List.getElem?_eq_getElem h1]; rfl)
  obtain ⟨v, h3, h4⟩ := r.atI e
  exact ⟨a, vs, _, v, rfl, rfl, .inl (.inl (s _ _ h)), h3, q v Hb H (.refl s) ⟨_, h2, h4⟩⟩
theorem rv_lt1 : RV (rI0 fun i j => .bl (decide (i < j))) GeP (D (.int 1)) (D (.bool false)) := fun v y Hb H q1 q2 s Q q => by
  obtain ⟨i, hi, rfl⟩ := q1
  obtain rfl : y = .int 1 := q2
  exact ⟨i, 1, rfl, rfl, q _ Hb H (.refl s) (by show V.bl _ = V.bl _; congr 1; exact decide_eq_false (by omega))⟩
def sp_law (K : PySem.W.Frag) : Sp := fun vs H Q E => ∃ (ns : List Int), True ∧ spP [Sc K ns] (D (.bool true)) vs H Q E
theorem fn_law (T : Tx K mg) {fd : FuncData} (F : FunD K d_law.name d_law.qual d_law.params d_law.body d_law.scope (He.DefD.dvs K d_law) (He.DefD.kws K d_law) (He.fAd K d_law.at_) fd) : FnOk P w K mg base CX0 9 (He.fAd K d_law.at_) fd ["script"] (sp_law K) := by
  have M_Works := mk_Works (P := P) (w := w) (base := base) T
  have C__law_cell_at := ok__law_cell_at (P := P) (w := w) (base := base) T
  have C__law_due := ok__law_due (P := P) (w := w) (base := base) T
  have C__law_good_rows := ok__law_good_rows (P := P) (w := w) (base := base) T
  have C__law_great := ok__law_great (P := P) (w := w) (base := base) T
  have C__law_size := ok__law_size (P := P) (w := w) (base := base) T
  have C_behind := ok_behind (P := P) (w := w) (base := base) T
  have C_reaching := ok_reaching (P := P) (w := w) (base := base) T
  have C_worked := ok_worked (P := P) (w := w) (base := base) T
  refine def_ok F sc_law ?_ fun cdv A outer s H vs Q E hr h => ?_
  · intro vs H Q E h
    obtain ⟨_, _, h⟩ := h
    exact h.len
  · obtain ⟨ns, tr, Hb, sm, ha, k⟩ := h
    have c := start_cur (N := N_law) (k := 14) sm ha (by repeat' (first | exact trivial | exact mono_D _ | exact mono_Ws | exact mono_Sc | refine ⟨?_, ?_⟩)) rfl
    refine ⟨_, (pss_cons (ps_set (i := 1) sc_law.nd rfl (Or.inl rfl) (pe_op op_add pe_int (pe_op op_mod (pe_cal C__law_cell_at (hr.mono (by decide)) (by rfl) (pa_cons (pv 0) (pa_cons pe_int pa_nil))) pe_int)))
  (pss_cons (ps_set (i := 2) sc_law.nd rfl (Or.inl rfl) (pe_mk M_Works (hr.mono (by decide)) (by rfl) (pa_cons (pv 1) (pa_cons (pe_cal C__law_good_rows (hr.mono (by decide)) (by rfl) (pa_cons (pv 0) pa_nil)) pa_nil))))
  (pss_cons (ps_set (i := 3) sc_law.nd rfl (Or.inl rfl) (pe_mk M_Works (hr.mono (by decide)) (by rfl) (pa_cons (pv 1) (pa_cons (pe_cal C__law_good_rows (hr.mono (by decide)) (by rfl) (pa_cons (pe_slice (kSl (K := K) rfl) (pv 0) (po_some pe_int) po_none) pa_nil)) pa_nil))))
  (pss_cons (ps_setLc (i := 4) (own := [("row", 14)]) (g := (gName 14)) rfl sc_law.nd rfl rfl (sw_true rfl rfl rfl (by decide +kernel)) (pi_listK (K := K) rfl (pe_fldK (K := K) rfl (pv 2) rfl)) (blkOk_by (own := [("row", 14)]) (N := N_law) (sc := defScope s_law) (by decide +kernel)) (fun _ _ _ _ _ => (pg_name (i := 14) sc_law.nd rfl (Or.inl rfl))) (fun _ _ _ _ _ => (pts_one (pt_cmpR op_eq (pe_ix (kxT (K := K) rfl) (pv 14) pe_int (fun _ _ => rfl)) pe_str (nomark _)))) (fun _ _ _ _ _ => (pe_ix (kxT (K := K) rfl) (pv 14) pe_int (fun _ _ => rfl))))
  (pss_cons (ps_set (i := 5) sc_law.nd rfl (Or.inr rfl) (pe_ix (kxL (K := K) rfl) (pe_lst (pa_cons (pe_ix (kxL (K := K) rfl) (pv 4) (pe_un un_neg pe_int) (fun _ _ => rfl)) (pa_cons (pe_op op_mod (pe_cal C__law_cell_at (hr.mono (by decide)) (by rfl) (pa_cons (pv 0) (pa_cons pe_int pa_nil))) pe_int) pa_nil))) (pe_op op_mod (pe_cal C__law_cell_at (hr.mono (by decide)) (by rfl) (pa_cons (pv 0) (pa_cons pe_int pa_nil))) pe_int) (fun _ _ => rfl)))
  (pss_cons (ps_set (i := 6) sc_law.nd rfl (Or.inl rfl) (pe_cal C__law_great (hr.mono (by decide)) (by rfl) (pa_cons (pv 0) pa_nil)))
  (pss_cons (ps_setLc (i := 7) (own := [("row", 14)]) (g := (gName 14)) rfl sc_law.nd rfl rfl (sw_true rfl rfl rfl (by decide +kernel)) (pi_listK (K := K) rfl (pe_fldK (K := K) rfl (pv 2) rfl)) (blkOk_by (own := [("row", 14)]) (N := N_law) (sc := defScope s_law) (by decide +kernel)) (fun _ _ _ _ _ => (pg_name (i := 14) sc_law.nd rfl (Or.inl rfl))) (fun _ _ _ _ _ => (pts_one (pt_cmpR (kNeD (K := K) rfl hr.units) (pv 14) (pe_tup (pa_cons pe_str (pa_cons (pv 5) pa_nil))) (nomark _)))) (fun _ _ _ _ _ => (pv 14)))
  (pss_cons (ps_if (pt_cmpR (kEqD (K := K) rfl hr.units) (pe_ix (kxL (K := K) rfl) (pe_fldK (K := K) rfl (pv 2) rfl) pe_int (fun _ _ => rfl)) (pe_tup (pa_cons pe_str (pa_cons (pv 5) pa_nil))) (nomark _))
    (pss_one (ps_set (i := 7) sc_law.nd rfl (Or.inl rfl) (pe_lst pa_nil)))
    pss_nil)
  (pss_cons (ps_if (pt_cmpR op_gt (pe_op op_add (pe_callB (kLen (K := K) rfl) (by rfl) T.len bb_len (pa_cons (pv 7) pa_nil)) (pe_callB (kLen (K := K) rfl) (by rfl) T.len bb_len (pa_cons (pe_fldK (K := K) rfl (pv 3) rfl) pa_nil))) pe_int (nomark _))
    (pss_one (ps_set (i := 3) sc_law.nd rfl (Or.inl rfl) (pe_mk M_Works (hr.mono (by decide)) (by rfl) (pa_cons (pv 1) (pa_cons (pe_lst (pa_cons (pe_tup (pa_cons pe_str (pa_cons (pe_cal C__law_size (hr.mono (by decide)) (by rfl) (pa_cons (pe_cal C__law_cell_at (hr.mono (by decide)) (by rfl) (pa_cons (pv 0) (pa_cons pe_int pa_nil))) pa_nil)) (pa_cons pe_int (pa_cons pe_int pa_nil))))) (pa_cons (pe_tup (pa_cons pe_str (pa_cons pe_int pa_nil))) (pa_cons (pe_tup (pa_cons pe_str (pa_cons pe_int pa_nil))) pa_nil)))) pa_nil)))))
    pss_nil)
  (pss_cons (ps_set (i := 8) sc_law.nd rfl (Or.inl rfl) (pe_cal C_behind (hr.mono (by decide)) (by rfl) (pa_cons (pv 2) (pa_cons (pv 5) (pa_cons (pv 3) pa_nil)))))
  (pss_cons (ps_set (i := 9) sc_law.nd rfl (Or.inl rfl) (pe_cal C__law_due (hr.mono (by decide)) (by rfl) (pa_cons (pv 2) (pa_cons (pv 5) (pa_cons (pv 3) (pa_cons (pv 6) pa_nil))))))
  (pss_cons (ps_set (i := 10) sc_law.nd rfl (Or.inl rfl) (pe_cal C_worked (hr.mono (by decide)) (by rfl) (pa_cons (pv 8) (pa_cons (pe_callTy (kListOf (K := K) rfl) (by rfl) T.list bb_list (pa_cons (pv 6) pa_nil)) pa_nil))))
  (pss_cons (ps_set (i := 11) sc_law.nd rfl (Or.inl rfl) (pe_callTy (kDictP (K := K) rfl rfl) (by rfl) T.dict bb_dict (pa_cons (pe_ix (kxT (K := K) rfl) (pv 10) pe_int (fun _ _ => rfl)) pa_nil)))
  (pss_cons (ps_if (pt_cmpR (kEqD (K := K) rfl hr.units) (pv 7) (pe_lst pa_nil) (nomark _))
    (pss_one (ps_ret (pe_and (pe_cmpR (kEqD (K := K) rfl hr.units) (pe_fldK (K := K) rfl (pv 8) rfl) (pe_fldK (K := K) rfl (pv 3) rfl) (nomark _)) (pe_one (pe_cmpR (kEqDd (K := K) rfl hr.units) (pv 11) (pe_callTy (kDictP (K := K) rfl rfl) (by rfl) T.dict bb_dict (pa_cons (pe_ix (kxT (K := K) rfl) (pe_cal C_worked (hr.mono (by decide)) (by rfl) (pa_cons (pv 3) (pa_cons (pe_callTy (kListOf (K := K) rfl) (by rfl) T.list bb_list (pa_cons (pv 6) pa_nil)) pa_nil))) pe_int (fun _ _ => rfl)) pa_nil)) (nomark _))))))
    pss_nil)
  (pss_cons (ps_if ((pw_or (pt_cmpR (kNeDd (K := K) rfl hr.units) (pv 11) (pe_ix (kxL (K := K) rfl) (pv 9) pe_int (fun _ _ => rfl)) (nomark _)) (pw_or1 (pt_cmpR (kNeD (K := K) rfl hr.units) (pe_ix (kxT (K := K) rfl) (pv 10) pe_int (fun _ _ => rfl)) (pe_ix (kxL (K := K) rfl) (pv 9) pe_int (fun _ _ => rfl)) (nomark _))))).pt
    (pss_one (ps_ret pe_bl))
    pss_nil)
  (pss_cons (ps_set (i := 12) sc_law.nd rfl (Or.inl rfl) (pe_cal C_reaching (hr.mono (by decide)) (by rfl) (pa_cons (pv 8) pa_nil)))
  (pss_cons (ps_for PassesOwn.never rfl (pi_range1 (by rfl) T.range (pa_cons (pe_callB (kLen (K := K) rfl) (by rfl) T.len bb_len (pa_cons (pe_fldK (K := K) rfl (pv 8) rfl) pa_nil)) pa_nil)) (pg_name (i := 13) sc_law.nd rfl (Or.inl rfl))
    (pss_cons (ps_if ((pw_or ((pw_and (pt_cmpR op_isN_ (pe_ix (kxL (K := K) rfl) (pv 12) (pv 13) (fun _ _ => rfl)) pe_non (nomark _)) (pw_and1 (pt_cmpR op_gt (pe_ix (kxL (K := K) rfl) (pe_ix (kxT (K := K) rfl) (pv 10) pe_int (fun _ _ => rfl)) (pv 13) (fun _ _ => rfl)) pe_int (nomark _))))).pt (pw_or1 ((pw_and (pt_cmpR op_eq (pv 13) pe_int (nomark _)) (pw_and1 (pt_cmpR op_isN_ (pe_ix (kxL (K := K) rfl) (pv 12) (pv 13) (fun _ _ => rfl)) pe_non (nomark _))))).pt))).pt
    (pss_one (ps_ret pe_bl))
    pss_nil)
  (pss_one (ps_if ((pw_and (pt_cmpR op_notN_ (pe_ix (kxL (K := K) rfl) (pv 12) (pv 13) (fun _ _ => rfl)) pe_non (nomark _)) (pw_and (pt_cmpR op_lt (pe_ix (kxL (K := K) rfl) (pv 12) (pv 13) (fun _ _ => rfl)) (pe_op op_pow pe_int pe_int) (nomark _)) (pw_and1 (pt_cmpR op_lt (pe_ix (kxL (K := K) rfl) (pe_ix (kxT (K := K) rfl) (pe_cal C_worked (hr.mono (by decide)) (by rfl) (pa_cons (pv 8) (pa_cons (pe_lst (pa_cons (pe_tup (pa_cons (pe_ix (kxL (K := K) rfl) (pv 12) (pv 13) (fun _ _ => rfl)) (pa_cons pe_int pa_nil))) pa_nil)) pa_nil))) pe_int (fun _ _ => rfl)) (pv 13) (fun _ _ => rfl)) pe_int (nomark _)))))).pt
    (pss_one (ps_ret pe_bl))
    pss_nil))))
  (pss_one (ps_ret pe_bl))))))))))))))))))), ?_⟩
    obtain ⟨a1, a2, a3, a4, a5⟩ := lawGood_fact ns
    obtain ⟨c1', c2', c3', c4', c5'⟩ := lawGood_fact (tailR ns)
    refine q_asgD c (d := .int (2 + cellAt ns 0 % 8)) (y_I0 y_int (y_IC (y_cell (k := 0) (y_var rfl) y_int) y_int (by decide))) fun σ1 H1 c1 => ?_
    have p1 : 2 ≤ 2 + cellAt ns 0 % 8 := by omega
    have p2 : 2 + cellAt ns 0 % 8 ≤ 9 := by omega
    generalize 2 + cellAt ns 0 % 8 = p at c1 p1 p2
    refine q_asg c1 (P := Ws K p (lawGood ns)) (y_works (y_var rfl) (y_call (As := [Sc K ns]) (ya_cons (y_var rfl) mono_Sc ya_nil) fun vs H Q h => ⟨ns, h⟩) ⟨p1, p2, a4, by omega, a1⟩) mono_Ws fun σ2 H2 c2 => ?_
    refine q_asg c2 (P := Ws K p (lawGood (tailR ns))) (y_works (y_var rfl) (y_call (As := [Sc K (tailR ns)]) (ya_cons ((y_slSc (y_var rfl) (yo_some y_int) yo_none).imp fun H v h => sc_of h) mono_Sc ya_nil) fun vs H Q h => ⟨tailR ns, h⟩) ⟨p1, p2, c4', by omega, c1'⟩) mono_Ws fun σ3 H3 c3 => ?_
    refine q_asgD c3 (d := .list ((blR ns).map .int)) (y_is (y_lcL (xs := lawGood ns) (enc := rowD) (e := fun row => .int (binNo row)) (b := isBin) (fun x => [.p (Sc K ns), .p (D (.int p)), .p (Ws K p (lawGood ns)), .p (Ws K p (lawGood (tailR ns))), .no, .no, .no, .no, .no, .no, .no, .no, .no, .no, .p (D (rowD x))]) (y_rows T (y_var rfl)) (by omega) (fun x _ => yg_name) (fun x _ => ?_) (fun x _ hb => ?_)) (by unfold blR; rw [List.map_map]; rfl)) fun σ4 H4 c4 => ?_
    · cases x with
      | mesh c0 u o => exact (yt_is (by (repeat' (first | with_reducible exact y_int | with_reducible exact y_str | (with_reducible show Y _ (tVar _) _ _; exact y_var rfl) | (with_reducible refine' y_eq _ _ _) | (with_reducible refine' y_ixT _ _ _) | with_reducible refine' y_ixL _ _ _ | with_reducible exact ya_nilD | with_reducible exact y_bl | with_reducible exact y_non | with_reducible exact yo_none | with_reducible exact yt_yes | with_reducible refine' yt_test _ | with_reducible refine' yt_B _ | with_reducible refine' yt_not _ | with_reducible refine' yt_and _ (fun _ => _) | with_reducible refine' yt_or _ (fun _ => _) | with_reducible refine' y_I0 _ _ | with_reducible refine' y_B0 _ _ | with_reducible refine' y_IC _ _ _ | with_reducible refine' y_parts (by assumption) _ | with_reducible refine' y_rows (by assumption) _ | with_reducible refine' ya_consD _ _ | with_reducible refine' y_tup _ (by simp) | with_reducible refine' y_lst _ (by simp) | (with_reducible show Y _ (tCB (rLen _) _) _ _; first | exact y_lenOwn rfl | exact y_lenSc (y_var rfl)) | with_reducible refine' y_len _ _ | with_reducible refine' y_ne _ _ _ | with_reducible refine' y_chain _ _ _ | with_reducible refine' y_andV _ (fun _ => _) | with_reducible refine' y_orV _ (fun _ => _) | with_reducible refine' y_isN _ | with_reducible refine' y_notN _ | exact rfl | (show _ = _; assumption) | exact atI_nat (by assumption) | (show CPow _ _; exact ⟨by decide, by decide, by decide⟩) | (show (0 : Int) < _; first | decide | omega) | (show CDiv _ _; exact ⟨by first | decide | omega, by first | decide | omega⟩) | (show CMul _ _; first | exact .inl ⟨by omega, by omega⟩ | exact .inr ⟨by omega, by omega⟩) ))) (by (first | rfl | (simp; done) | (simp only [sx_mc, sx_mb, sx_cm, sx_cb, sx_bm, sx_bc, decide_true, decide_false, Bool.and_true, Bool.true_and, Bool.not_true, Bool.not_false, Bool.and_false, Bool.false_and, Bool.or_false, Bool.or_true, decide_eq_true_eq, Bool.and_eq_true, decide_eq_false_iff_not]; first | done | omega) | (simp [sx_mc, sx_mb, sx_cm, sx_cb, sx_bm, sx_bc]; first | done | omega) | omega)))
      | crush t => exact (yt_is (by (repeat' (first | with_reducible exact y_int | with_reducible exact y_str | (with_reducible show Y _ (tVar _) _ _; exact y_var rfl) | (with_reducible refine' y_eq _ _ _) | (with_reducible refine' y_ixT _ _ _) | with_reducible refine' y_ixL _ _ _ | with_reducible exact ya_nilD | with_reducible exact y_bl | with_reducible exact y_non | with_reducible exact yo_none | with_reducible exact yt_yes | with_reducible refine' yt_test _ | with_reducible refine' yt_B _ | with_reducible refine' yt_not _ | with_reducible refine' yt_and _ (fun _ => _) | with_reducible refine' yt_or _ (fun _ => _) | with_reducible refine' y_I0 _ _ | with_reducible refine' y_B0 _ _ | with_reducible refine' y_IC _ _ _ | with_reducible refine' y_parts (by assumption) _ | with_reducible refine' y_rows (by assumption) _ | with_reducible refine' ya_consD _ _ | with_reducible refine' y_tup _ (by simp) | with_reducible refine' y_lst _ (by simp) | (with_reducible show Y _ (tCB (rLen _) _) _ _; first | exact y_lenOwn rfl | exact y_lenSc (y_var rfl)) | with_reducible refine' y_len _ _ | with_reducible refine' y_ne _ _ _ | with_reducible refine' y_chain _ _ _ | with_reducible refine' y_andV _ (fun _ => _) | with_reducible refine' y_orV _ (fun _ => _) | with_reducible refine' y_isN _ | with_reducible refine' y_notN _ | exact rfl | (show _ = _; assumption) | exact atI_nat (by assumption) | (show CPow _ _; exact ⟨by decide, by decide, by decide⟩) | (show (0 : Int) < _; first | decide | omega) | (show CDiv _ _; exact ⟨by first | decide | omega, by first | decide | omega⟩) | (show CMul _ _; first | exact .inl ⟨by omega, by omega⟩ | exact .inr ⟨by omega, by omega⟩) ))) (by (first | rfl | (simp; done) | (simp only [sx_mc, sx_mb, sx_cm, sx_cb, sx_bm, sx_bc, decide_true, decide_false, Bool.and_true, Bool.true_and, Bool.not_true, Bool.not_false, Bool.and_false, Bool.false_and, Bool.or_false, Bool.or_true, decide_eq_true_eq, Bool.and_eq_true, decide_eq_false_iff_not]; first | done | omega) | (simp [sx_mc, sx_mb, sx_cm, sx_cb, sx_bm, sx_bc]; first | done | omega) | omega)))
      | bin x => exact (yt_is (by (repeat' (first | with_reducible exact y_int | with_reducible exact y_str | (with_reducible show Y _ (tVar _) _ _; exact y_var rfl) | (with_reducible refine' y_eq _ _ _) | (with_reducible refine' y_ixT _ _ _) | with_reducible refine' y_ixL _ _ _ | with_reducible exact ya_nilD | with_reducible exact y_bl | with_reducible exact y_non | with_reducible exact yo_none | with_reducible exact yt_yes | with_reducible refine' yt_test _ | with_reducible refine' yt_B _ | with_reducible refine' yt_not _ | with_reducible refine' yt_and _ (fun _ => _) | with_reducible refine' yt_or _ (fun _ => _) | with_reducible refine' y_I0 _ _ | with_reducible refine' y_B0 _ _ | with_reducible refine' y_IC _ _ _ | with_reducible refine' y_parts (by assumption) _ | with_reducible refine' y_rows (by assumption) _ | with_reducible refine' ya_consD _ _ | with_reducible refine' y_tup _ (by simp) | with_reducible refine' y_lst _ (by simp) | (with_reducible show Y _ (tCB (rLen _) _) _ _; first | exact y_lenOwn rfl | exact y_lenSc (y_var rfl)) | with_reducible refine' y_len _ _ | with_reducible refine' y_ne _ _ _ | with_reducible refine' y_chain _ _ _ | with_reducible refine' y_andV _ (fun _ => _) | with_reducible refine' y_orV _ (fun _ => _) | with_reducible refine' y_isN _ | with_reducible refine' y_notN _ | exact rfl | (show _ = _; assumption) | exact atI_nat (by assumption) | (show CPow _ _; exact ⟨by decide, by decide, by decide⟩) | (show (0 : Int) < _; first | decide | omega) | (show CDiv _ _; exact ⟨by first | decide | omega, by first | decide | omega⟩) | (show CMul _ _; first | exact .inl ⟨by omega, by omega⟩ | exact .inr ⟨by omega, by omega⟩) ))) (by (first | rfl | (simp; done) | (simp only [sx_mc, sx_mb, sx_cm, sx_cb, sx_bm, sx_bc, decide_true, decide_false, Bool.and_true, Bool.true_and, Bool.not_true, Bool.not_false, Bool.and_false, Bool.false_and, Bool.or_false, Bool.or_true, decide_eq_true_eq, Bool.and_eq_true, decide_eq_false_iff_not]; first | done | omega) | (simp [sx_mc, sx_mb, sx_cm, sx_cb, sx_bm, sx_bc]; first | done | omega) | omega)))
    · cases x with
      | mesh c0 u o => cases hb
      | crush t => cases hb
      | bin x => exact y_ixT (y_var rfl) y_int rfl
    refine q_asgD c4 (d := .int (numR ns)) (y_ixL (y_lst (ds := [.int ((blR ns).getLast (bl_ne ns)), .int (cellAt ns 22 % 6)]) (ya_consD (y_ixL (y_var rfl) (y_neg y_int) (atI_last (bl_ne ns))) (ya_consD (y_IC (y_cell (k := 22) (y_var rfl) y_int) y_int (by decide)) ya_nilD)) (by simp)) (y_IC (y_cell (k := 23) (y_var rfl) y_int) y_int (by decide)) (num_at ns)) fun σ5 H5 c5 => ?_
    generalize numR ns = b at c5
    refine q_asgD c5 (d := lotD (greatR ns)) (y_call (As := [Sc K ns]) (ya_cons (y_var rfl) mono_Sc ya_nil) fun vs H Q h => ⟨ns, trivial, h⟩) fun σ6 H6 c6 => ?_
    refine q_asgD c6 (d := rowsD (keptR (lawGood ns) b)) (y_lcL (xs := lawGood ns) (enc := rowD) (e := rowD) (b := fun row => !isB b row) (fun x => [.p (Sc K ns), .p (D (.int p)), .p (Ws K p (lawGood ns)), .p (Ws K p (lawGood (tailR ns))), .p (D (.list ((blR ns).map .int))), .p (D (.int b)), .p (D (lotD (greatR ns))), .no, .no, .no, .no, .no, .no, .no, .p (D (rowD x))]) (y_rows T (y_var rfl)) (by omega) (fun x _ => yg_name) (fun x _ => yt_test (y_isnB (y_var rfl) (y_var rfl))) (fun x _ _ => y_var rfl)) fun σ7 H7 c7 => ?_
    have h00 : (lawGood ns)[0]? = some (lawGood ns)[0] := List.getElem?_eq_getElem (by omega)
    have eb : isB b (lawGood ns)[0] = decide ((lawGood ns)[0]? = some (.bin b)) := by
      rw [h00]
      cases q : isB b (lawGood ns)[0] with
      | true => rw [isB_iff.mp q]; simp
      | false => exact (decide_eq_false fun z => by rw [isB_iff.mpr (Option.some.inj z)] at q; cases q).symm
    refine q_ifJ (b := decide ((lawGood ns)[0]? = some (.bin b))) (G' := [.p (Sc K ns), .p (D (.int p)), .p (Ws K p (lawGood ns)), .p (Ws K p (lawGood (tailR ns))), .p (D (.list ((blR ns).map .int))), .p (D (.int b)), .p (D (lotD (greatR ns))), .p (D (rowsD (lfR ns b))), .no, .no, .no, .no, .no, .no, .no]) c7 (yt_is (yt_test (y_isB (y_ixL (y_rows T (y_var rfl)) y_int (atI_nat (j := 0) (by rw [List.getElem?_map, h00]; rfl))) (y_var rfl))) eb) (fun hb H8 c8 N hN => ?_) (fun hb H8 c8 => ?_) fun σ8 H8 c8 => ?_
    · refine z_asgD c8 (d := .list []) (y_lst ya_nilD (by simp)) fun σ9 H9 c9 => hN σ9 H9 ?_
      have : lfR ns b = [] := (lf_nil ns b).mpr (of_decide_eq_true hb)
      rw [this]; exact c9
    · have : lfR ns b = keptR (lawGood ns) b := by unfold lfR; rw [if_neg (of_decide_eq_false hb)]
      rw [this]; exact c8
    have lfl : (lfR ns b).length ≤ 8 := by
      have := keptR_len (lawGood ns) b
      unfold lfR
      split
      · exact Nat.zero_le _
      · omega
    refine q_ifJ (b := decide (12 < (lfR ns b).length + (lawGood (tailR ns)).length)) (G' := [.p (Sc K ns), .p (D (.int p)), .p (Ws K p (lawGood ns)), .p (Ws K p (othR ns (tailR ns) b)), .p (D (.list ((blR ns).map .int))), .p (D (.int b)), .p (D (lotD (greatR ns))), .p (D (rowsD (lfR ns b))), .no, .no, .no, .no, .no, .no, .no]) c8 (yt_is (yt_test (y_B0 (y_I0 (y_lenRows (y_var rfl)) (y_lenRows (y_rows T (y_var rfl)))) y_int)) ?_) (fun hb H9 c9 N hN => ?_) (fun hb H9 c9 => ?_) fun σ9 H9 c9 => ?_
    · rw [decide_eq_decide]; omega
    · refine z_asg c9 (P := Ws K p (oRows (cellAt ns 24))) (y_works (y_var rfl) (y_lst (ds := (oRows (cellAt ns 24)).map rowD) (ya_consD (y_tup (ya_consD y_str (ya_consD (y_size (y_cell (k := 24) (y_var rfl) y_int)) (ya_consD y_int (ya_consD y_int ya_nilD)))) (by simp)) (ya_consD (y_tup (ya_consD y_str (ya_consD y_int ya_nilD)) (by simp)) (ya_consD (y_tup (ya_consD y_str (ya_consD y_int ya_nilD)) (by simp)) ya_nilD))) (by show 3 ≤ 100000; decide)) ⟨p1, p2, by show 1 ≤ 3; decide, by show 3 ≤ 12; decide, (oRows_fact _).1⟩) mono_Ws fun σ10 H10 c10 => hN σ10 H10 ?_
      have : othR ns (tailR ns) b = oRows (cellAt ns 24) := by unfold othR; rw [if_pos (of_decide_eq_true hb)]
      rw [this]; exact c10
    · have : othR ns (tailR ns) b = lawGood (tailR ns) := by unfold othR; rw [if_neg (of_decide_eq_false hb)]
      rw [this]; exact c9
    obtain ⟨o1, o2, o3, o4, o5⟩ := oth_fact ns (tailR ns) b
    obtain ⟨m1, m2, m3, m4⟩ := made_fact ns (tailR ns) b
    have lfn := lf_nil ns b
    generalize lfR ns b = lf at c9 lfn
    generalize othR ns (tailR ns) b = oth at c9 o1 o2 o3 o4 o5 m1 m2 m3 m4
    clear c1 c2 c3 c4 c5 c6 c7 c8 c eb
    refine q_asg c9 (P := Ws K p (behindR (lawGood ns) b oth)) (y_call (As := [Ws K p (lawGood ns), D (.int b), Ws K p oth]) (ya_cons (y_var rfl) mono_Ws (ya_cons (y_var rfl) (mono_D _) (ya_cons (y_var rfl) mono_Ws ya_nil))) fun vs H Q h => ⟨p, lawGood ns, oth, b, ⟨p1, p2, a4, by omega, o3, o4, a1, o1, m1, o5⟩, h⟩) mono_Ws fun σ10 H10 c10 => ?_
    obtain ⟨gl, gf⟩ := great_fact ns
    obtain ⟨u1, u2, u3⟩ := uni_ok (p := p) (xs := (greatR ns).map (·.1)) p1 p2 (fun x hx => by
      obtain ⟨q, hq, rfl⟩ := List.mem_map.mp hx
      exact (gf q hq).1) (by rw [List.length_map]; omega)
    generalize uniR p ((greatR ns).map (·.1)) = U at u1 u2 u3
    have lotU : ∀ q ∈ greatR ns, q.1 ∈ U ∧ 0 < q.2 := fun q hq => ⟨u3 _ (List.mem_map.mpr ⟨q, hq, rfl⟩), (gf q hq).2⟩
    have nr1 : NoRing (lawGood ns) := a2.nr (by decide)
    have nr2 : NoRing oth := o2.nr (by decide)
    have wp1 : WPre p (lawGood ns) U (greatR ns) := ⟨p1, p2, a1, by omega, nr1, u1, by omega, lotU⟩
    have wp2 : WPre p oth U (greatR ns) := ⟨p1, p2, o1, by omega, nr2, u1, by omega, lotU⟩
    have wpm : WPre p (behindR (lawGood ns) b oth) U (greatR ns) := ⟨p1, p2, m1, by omega, m2, u1, by omega, lotU⟩
    refine q_asg c10 (P := DueP p (lawGood ns) oth U (greatR ns) b) (y_call (As := [Ws K p (lawGood ns), D (.int b), Ws K p oth, D (lotD (greatR ns))]) (ya_cons (y_var rfl) mono_Ws (ya_cons (y_var rfl) (mono_D _) (ya_cons (y_var rfl) mono_Ws (ya_cons (y_var rfl) (mono_D _) ya_nil)))) fun vs H Q h => ⟨p, lawGood ns, oth, U, greatR ns, b, ⟨wp1, wp2, a4, by omega, o3, o4, u2⟩, h⟩) mono_DueP fun σ11 H11 c11 => ?_
    obtain ⟨⟨⟨bo, dn⟩, ⟨bt, dt⟩⟩, ⟨wo, wt⟩, c11⟩ := c11.open (n := 9) (φ := DueOk p (lawGood ns) oth U (greatR ns) b) (f := dueD (lawGood ns) b) rfl fun Hb v h => h
    dsimp only at wo wt
    refine q_asg c11 (P := WkP p (behindR (lawGood ns) b oth) U 0 (greatR ns)) (y_call (As := [Ws K p (behindR (lawGood ns) b oth), D (lotD (greatR ns))]) (ya_cons (y_var rfl) mono_Ws (ya_cons (y_listOf (y_var rfl)) (mono_D _) ya_nil)) fun vs H Q h => ⟨p, _, U, greatR ns, ⟨wpm, m3⟩, h⟩) mono_WkP fun σ12 H12 c12 => ?_
    obtain ⟨⟨bm, dm⟩, wm, c12⟩ := c12.open (n := 10) (φ := fun r : Bins × List Int => Worked p (behindR (lawGood ns) b oth) U 0 (greatR ns) r.1 r.2) (f := fun r => toldD r.1 r.2) rfl fun Hb v ⟨x, y, h1, h2⟩ => ⟨(x, y), h1, h2⟩
    dsimp only at wm
    refine q_asgD c12 (d := dD (enG lotD bm)) (y_is (y_dictP (ps := enG lotD bm) (y_is (y_ixT (y_var rfl) y_int rfl) (by unfold enG; rw [List.map_map]; rfl))) (by rw [enG_mk, mkG_self (lt_nd wm.bs)])) fun σ13 H13 c13 => ?_
    refine z_when (b := decide (lf = [])) c13 (yt_is (yt_test (y_eqD (d := rowsD lf) (e := .list []) (y_var rfl) (y_lst ya_nilD (by simp)) (nod_rows _) rfl (shaped_rows _) rfl)) (eqv_rows_nil lf)) (fun hb H14 c14 => ?_) (fun hb H14 c14 => ?_)
    · -- the one row is the bin: the made works are the other
      have hf := lfn.mp (of_decide_eq_true hb)
      have em : behindR (lawGood ns) b oth = oth := by unfold behindR; rw [if_pos hf]
      have wm' := wm
      rw [em] at c14 wm'
      refine z_ret c14 (y_is (y_andV (a := true) (b := true) (y_is (y_eqD (d := rowsD oth) (e := rowsD oth) (y_rows T (y_var rfl)) (y_rows T (y_var rfl)) (nod_rows _) (nod_rows _) (shaped_rows _) (shaped_rows _)) (by rw [eqv_rows])) fun _ => y_dd (r := true) (l := bm) (m := bm) (y_var rfl) (y_is (y_dictP (ps := enG lotD bm) (y_is (y_ixT (ds := [.list (bm.map encB), .list (dm.map .int)]) ((y_call (P := WkP p oth U 0 (greatR ns)) (As := [Ws K p oth, D (lotD (greatR ns))]) (ya_cons (y_var rfl) mono_Ws (ya_cons (y_listOf (y_var rfl)) (mono_D _) ya_nil)) fun vs H Q h => ⟨p, oth, U, greatR ns, ⟨wp2, o3⟩, h⟩).imp fun H v ⟨b', d', w', dv⟩ => ?_) y_int rfl) (by unfold enG; rw [List.map_map]; rfl))) (by rw [enG_mk, mkG_self (lt_nd wm.bs)])) rfl fun q hq => lkG_at (lt_nd wm.bs) hq) rfl) k
      obtain ⟨rfl, rfl⟩ := worked_one p1 p2 o1 nr2 wm' w'
      exact dv
    · have hf : ¬ (lawGood ns)[0]? = some (.bin b) := fun z => of_decide_eq_false hb (lfn.mpr z)
      obtain ⟨e1, e2, e3⟩ := whole_law p1 p2 hf a4 a1 o1 m1 m2 wm wo wt
      refine z_no c14 (yt_is (yt_or (a := false) (b := false) (yt_test (y_dd (r := false) (l := bm) (m := pouredR (cutB bo b) bt) (y_var rfl) (y_ixL (y_var rfl) y_int rfl) e2 e3)) fun _ => yt_is (yt_test (y_neD (d := .list (dm.map .int)) (e := .list ((handR (lawGood ns) b dn ++ dt).map .int)) (y_ixT (y_var rfl) y_int rfl) (y_ixL (y_var rfl) y_int rfl) (nod_ints _) (nod_ints _) (shaped_ints _) (shaped_ints _))) ?_) rfl) fun H15 c15 => ?_
      · rw [e1]
        show (!PyData.eqvAll _ _) = false
        rw [eqv_ints]; rfl
      refine q_asg c15 (P := ReachP p (behindR (lawGood ns) b oth)) (y_call (As := [Ws K p (behindR (lawGood ns) b oth)]) (ya_cons (y_var rfl) mono_Ws ya_nil) fun vs H Q h => ⟨p, _, ⟨p1, p2, m1, m4, m2⟩, h⟩) mono_ReachP fun σ16 H16 c16 => ?_
      obtain ⟨ds, ⟨dl, dr⟩, c16⟩ := c16.open (n := 12) (φ := fun ds : List PyData => ds.length = (behindR (lawGood ns) b oth).length ∧ ∀ i d, ds[i]? = some d → ∃ o, LeastS p (mostR p) (behindR (lawGood ns) b oth) i o ∧ d = optI o) (f := fun ds => .list ds) rfl fun Hb v ⟨x, h1, h2, h3⟩ => ⟨x, ⟨h1, h2⟩, h3⟩
      generalize behindR (lawGood ns) b oth = made at *
      refine q_forR (n := made.length) c16 (y_lenRows (y_rows T (y_var rfl))) (by omega) (fun _ => [.p (Sc K ns), .p (D (.int p)), .p (Ws K p (lawGood ns)), .p (Ws K p oth), .p (D (.list ((blR ns).map .int))), .p (D (.int b)), .p (D (lotD (greatR ns))), .p (D (rowsD lf)), .p (Ws K p made), .p (D (dueD (lawGood ns) b ((bo, dn), (bt, dt)))), .p (D (toldD bm dm)), .p (D (dD (enG lotD bm))), .p (D (.list ds)), .no, .no]) (fun H1 c => c) (fun i hi σ17 H17 c17 => ?_) (fun σ17 H17 c17 => ?_)
      · have hdi : ds[i]? = some ds[i] := List.getElem?_eq_getElem (by omega)
        obtain ⟨o, hls, hdo⟩ := dr i _ hdi
        rw [hdo] at hdi
        have hmi : i < dm.length := by rw [wm.dl]; exact hi
        have hdm : (dm.map PyData.int)[i]? = some (.int (dm.getD i 0)) := by rw [List.getElem?_map, List.getD_eq_getElem?_getD, List.getElem?_eq_getElem hmi]; rfl
        have rd := reach_done p1 p2 m1 m2 hi wm fun q hq => ⟨(gf q hq).1.1, (gf q hq).2⟩
        cases o with
        | none =>
          have z : dm.getD i 0 = 0 := rd.1 fun q hq => hls q.1 (gf q hq).1.1 (by
            have h1 := (gf q hq).1.2
            have h2 := (mostR_b p1 p2).1
            have h3 : (10 : Int) ^ 14 ≤ 10 ^ 60 := by decide
            omega)
          have hi0 : ¬ ((i : Int) = 0) := fun y => by
            have : i = 0 := by omega
            subst this
            have h2 := (mostR_b p1 p2).1
            have h3 : (1 : Int) ≤ 10 ^ 60 := by decide
            exact hls 1 (by decide) (by omega) (.here 1)
          refine z_no c17 (yt_is (yt_or (a := false) (b := false) (yt_is (yt_and (a := true) (b := false) (yt_is (yt_test (y_isN (d := .none) (y_ixL (y_var rfl) (y_var rfl) (atI_nat hdi)))) rfl) fun _ => yt_is (yt_test (y_B0 (y_ixL (y_ixT (y_var rfl) y_int rfl) (y_var rfl) (atI_nat hdm)) y_int)) (by rw [z]; rfl)) rfl) fun _ => yt_andF (yt_is (yt_test (y_eqI (y_var rfl) y_int)) (decide_eq_false hi0))) rfl) fun H18 c18 => ?_
          exact z_skip c18 (yt_andF (yt_is (yt_test (y_notN (d := .none) (y_ixL (y_var rfl) (y_var rfl) (atI_nat hdi)))) rfl)) fun H19 c19 => c19.forget 13
        | some x =>
          obtain ⟨x1, x2, x3⟩ := hls
          refine z_no c17 (yt_is (yt_or (a := false) (b := false) (yt_andF (yt_is (yt_test (y_isN (d := .int x) (y_ixL (y_var rfl) (y_var rfl) (atI_nat hdi)))) rfl)) fun _ => yt_is (yt_and (a := decide ((i : Int) = 0)) (b := false) (yt_test (y_eqI (y_var rfl) y_int)) fun _ => yt_is (yt_test (y_isN (d := .int x) (y_ixL (y_var rfl) (y_var rfl) (atI_nat hdi)))) rfl) (by simp)) rfl) fun H18 c18 => ?_
          refine z_skip c18 (yt_is (yt_and (a := true) (b := false) (yt_is (yt_test (y_notN (d := .int x) (y_ixL (y_var rfl) (y_var rfl) (atI_nat hdi)))) rfl) fun _ => yt_is (yt_and (a := decide (x < 10 ^ 12)) (b := false) (yt_is (yt_test (y_B0 (y_ixL (y_var rfl) (y_var rfl) (atI_nat hdi)) (y_IC y_int y_int ⟨by decide, by decide, by decide⟩))) rfl) fun hlt => ?_) (by simp)) rfl) fun H19 c19 => c19.forget 13
          have hlt := of_decide_eq_true hlt
          obtain ⟨v1, v2, v3⟩ := uni_ok (p := p) (xs := [x]) p1 p2 (fun y hy => by
            rw [List.mem_singleton.mp hy]
            have h3 : (10 : Int) ^ 12 ≤ 10 ^ 14 := by decide
            exact ⟨x1, by omega⟩) (show 1 ≤ 15 by decide)
          have wpx : WPre p made (uniR p [x]) [(x, 1)] := ⟨p1, p2, m1, by omega, m2, v1, (show 1 ≤ 100000 by decide), fun q hq => by rw [List.mem_singleton.mp hq]; exact ⟨v3 x (List.mem_singleton.mpr rfl), (show (0 : Int) < 1 by decide)⟩⟩
          refine yt_test (y_op (y_op (y_op (y_call (P := WkP p made (uniR p [x]) 0 [(x, 1)]) (As := [Ws K p made, D (lotD [(x, 1)])]) (ya_cons (y_var rfl) mono_Ws (ya_cons (y_lst (ds := [encP (x, 1)]) (ya_consD (y_tup (ya_consD (y_ixL (y_var rfl) (y_var rfl) (atI_nat hdi)) (ya_consD y_int ya_nilD)) (by simp)) ya_nilD) (by simp)) (mono_D _) ya_nil)) fun vs H Q h => ⟨p, made, uniR p [x], [(x, 1)], ⟨wpx, m3⟩, h⟩) mono_WkP y_int (rv_done p1 p2 m1 m2 hi x1 x3)) mono_DnP (y_var rfl) rv_ge) mono_GeP y_int rv_lt1)
      · exact z_ret c17 y_bl k
end
end MW

/-! End -/
set_option Elab.async false
set_option linter.all false
set_option maxRecDepth 100000
set_option maxHeartbeats 0
namespace MW
open PySem PySem.Spec PyProof.Rows L2
abbrev R : PySem.W.OpenRow := PySem.W.OpenLaw.row PySem.Challenge.rw_meshworks_k98_whole_behind_at_work
abbrev hk : PySem.W.Hook := He.hookD 5 fa fn
def ob (s : PySem.W.SharedT) : He.AlD := He.obsDG 5 fa fn (HandSHeadRun.getT s)
theorem ob_eq (s : PySem.W.SharedT) : ob s = hk.obs s.abs := He.obsDG_eq (HandSHeadRun.getT_eq s)
theorem run (w : World) : HandSHeadRun.RunEq R (PySem.W.view R.prog [48]) hk ob 4000 loose w := by
  intro os
  kernel_rfl
theorem facts {P : Program} {w : World} {K : PySem.W.Frag} {h : Heap} {mg : Str → Option Value} {f : Addr} (X : K.In h) (G : h.Ns mainGlobals mg) (hfa : mg ("law" : Str) = some (.ref f)) (c : He.SaysD fa fn K) :
    ∃ fd : FuncData, (∀ (s : Shared) (v : Value), BindsTo s fd ⟨[v], []⟩ [("script", v)]) ∧ ∀ base : Heap, K.In base → base.Ns mainGlobals mg → FnOk P w K mg base CX0 9 f fd ["script"] (sp_law K) := by
  have T : Tx K mg := ⟨c, fun x h => He.glo_ok X G h, fun x h => He.free_ok X G h, fun x i h => He.int_ok X G h⟩
  obtain ⟨fd, F⟩ := T.c.def_ 37 (d := d_law) rfl
  have e := hfa.symm.trans T.g_law
  cases e
  have b := FunD.bindsA (ps := ["script"]) F fun _ _ _ _ _ _ us hl => match us, hl with | [_], _ => rfl
  exact ⟨fd, fun s v => b s [v] rfl, fun base _ _ => fn_law T F⟩
theorem sp_start {K : PySem.W.Frag} {H : Hp} {a : Addr} {ns : List Int} (hS : SqL K H a (ns.map V.int)) : sp_law K [.ref a] H (fun v _ => v = .bl true) (fun _ _ _ => False) := ⟨ns, trivial, H, Same.refl H, ⟨_, _, rfl, ⟨a, rfl, hS⟩, rfl⟩, fun v Hb2 H2 _ d => d⟩
end MW
open PySem PySem.W PySem.Calls PyProof.Rows
theorem PySem.Challenge.cw_meshworks_k98_whole_behind_at_work_holds : PySem.Challenge.rw_meshworks_k98_whole_behind_at_work.Holds := by
  w_on; o_law
  refine HandSHeadRun.head_any (r := OpenLaw.row PySem.Challenge.rw_meshworks_k98_whole_behind_at_work) (q := view (OpenLaw.row PySem.Challenge.rw_meshworks_k98_whole_behind_at_work).prog [48]) (H := MW.hk) (ob := MW.ob) (M := 4000) (loose := MW.loose) (d := HandSHeadRun.topDef (OpenLaw.row PySem.Challenge.rw_meshworks_k98_whole_behind_at_work).prog 48) (kwd := []) MW.ob_eq
    (by kernel_rfl) (fun s => by kernel_rfl) MW.run (by kernel_rfl) (by kernel_rfl) (by kernel_rfl) (by rfl) (by first | assumption | decide +kernel) (by decide +kernel) ⟨rfl, rfl, rfl, rfl, rfl, by decide +kernel⟩ ?hw ?hc
  case hw => w_witness2
  case hc =>
    refine L2.walk_ofE (l := PySem.Challenge.rw_meshworks_k98_whole_behind_at_work) (n := 63) (k := 9) (x := "script") (CX := L2.CX0) rfl (by decide) (by kernel_rfl) ⟨rfl, by decide, by decide⟩ ?F (fun _ _ _ _ z => z)
    intro w mg fa h Y G hmg0
    obtain ⟨K, KX, c⟩ := Y
    have hmg : mg ("law" : PySem.Str) = some (.ref fa) := by
      have e : (HandSHeadRun.topDef (OpenLaw.row PySem.Challenge.rw_meshworks_k98_whole_behind_at_work).prog 48).name = ("law" : PySem.Str) := by kernel_rfl
      rw [← e]
      exact hmg0
    obtain ⟨fd, hb, hF⟩ := MW.facts (P := (PySem.Challenge.rw_meshworks_k98_whole_behind_at_work).prog) (w := w) KX G hmg c
    exact ⟨K, fd, MW.sp_law K, KX, hb, fun H a ns hl _ hS => MW.sp_start hS, hF⟩
