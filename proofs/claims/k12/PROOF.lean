import PyProof.Rows.All
import Wide.All
import OpenK.AllK
import Wide.FinOn
import PySem.Challenge.RW_doorbeat_k12_texts_that_tell_no_programs
import HandS.ForMost
import HandS.Deep
import HandS.TupAny
import HandS.Wide
import HandS.IsInst
import HandS.Style
import HandS.More
import HandS.SortInts
import PyProof.StrLawsChain
import PyProof.StrLawsTight
import KE.KDictKeyed
import KE.KDictDisplayH
import KE.KDictZip
import KE.LtData
import KE.KSortTupAny
import KE.KDictSum
import KE.KDictCopyH
import HandS.SortOrd
import HandS.Exc
import HandS.ExcOwn
import HandS.Comp
import HandS.ExcInit
import HandS.WordsExc
import HandS.ExcField
import HandS.ExcIs
import KE.KExcIs
import PyProof.StrLawsIn
import HandS.EndBits
import HandS.Codes
set_option Elab.async false
set_option linter.all false
set_option maxRecDepth 100000
set_option maxHeartbeats 4000000
/-! DLa: a program logic over DATA, on top of the hand layer: frozen data, owned objects, pure and effectful evaluation. -/
namespace DL
open PySem PySem.Spec PyProof.Rows L2

abbrev D := PyData

/-! ### frames -/
theorem same_sqt {K : PySem.W.Frag} {H H' : Hp} {a : Addr} {xs : List V} (e : Same H H') (h : SqT K H a xs) : SqT K H' a xs := by
  rcases h with (h | ⟨o, h⟩) | h
  · exact .inl (.inl (e _ _ h))
  · exact .inl (.inr ⟨o, e _ _ h⟩)
  · exact .inr h
/-! a value that is this data: lists are tracked ones, tuples tracked or of the written part -/
mutual
inductive Rp (K : PySem.W.Frag) (H : Hp) : V → D → Prop
  | non : Rp K H .non .none
  | bl (b : Bool) : Rp K H (.bl b) (.bool b)
  | int (i : Int) : Rp K H (.int i) (.int i)
  | str (x : Str) : Rp K H (.str x) (.str x)
  | lst {a : Addr} {xs : List V} {ds : List D} : H a = some (.lst xs) → RpAll K H xs ds → Rp K H (.ref a) (.list ds)
  | tup {a : Addr} {xs : List V} {ds : List D} : SqT K H a xs → RpAll K H xs ds → Rp K H (.ref a) (.tuple ds)
inductive RpAll (K : PySem.W.Frag) (H : Hp) : List V → List D → Prop
  | nil : RpAll K H [] []
  | cons {v : V} {vs : List V} {d : D} {ds : List D} : Rp K H v d → RpAll K H vs ds → RpAll K H (v :: vs) (d :: ds)
end
section
variable {K : PySem.W.Frag} {H H' : Hp}
mutual
theorem rp_mono (e : Same H H') : ∀ (d : D) (v : V), Rp K H v d → Rp K H' v d
  | .none, _, h => by cases h; exact .non
  | .bool b, _, h => by cases h; exact .bl b
  | .int i, _, h => by cases h; exact .int i
  | .str x, _, h => by cases h; exact .str x
  | .list ds, _, h => by
    cases h with
    | lst hs ha => exact .lst (e _ _ hs) (rpAll_mono e ds _ ha)
  | .tuple ds, _, h => by
    cases h with
    | tup hs ha => exact .tup (same_sqt e hs) (rpAll_mono e ds _ ha)
  | .dict _, _, h => by cases h
theorem rpAll_mono (e : Same H H') : ∀ (ds : List D) (vs : List V), RpAll K H vs ds → RpAll K H' vs ds
  | [], _, h => by cases h; exact .nil
  | d :: ds, _, h => by
    cases h with
    | cons h1 h2 => exact .cons (rp_mono e d _ h1) (rpAll_mono e ds _ h2)
end
mutual
theorem rp_dp : ∀ (d : D) (v : V), Rp K H v d → Dp K H v d
  | .none, _, h => by cases h; exact .non
  | .bool b, _, h => by cases h; exact .bl b
  | .int i, _, h => by cases h; exact .int i
  | .str x, _, h => by cases h; exact .str x
  | .list ds, _, h => by
    cases h with
    | lst hs ha => exact .lst (.of hs) (rpAll_dp ds _ ha)
  | .tuple ds, _, h => by
    cases h with
    | tup hs ha => exact .tup hs (rpAll_dp ds _ ha)
  | .dict _, _, h => by cases h
theorem rpAll_dp : ∀ (ds : List D) (vs : List V), RpAll K H vs ds → DpAll K H vs ds
  | [], _, h => by cases h; exact .nil
  | d :: ds, _, h => by
    cases h with
    | cons h1 h2 => exact .cons (rp_dp d _ h1) (rpAll_dp ds _ h2)
end
end
theorem RpAll.length {K : PySem.W.Frag} {H : Hp} : ∀ {vs : List V} {ds : List D}, RpAll K H vs ds → vs.length = ds.length
  | _, _, .nil => rfl
  | _, _, .cons _ h => congrArg (· + 1) h.length
theorem RpAll.get {K : PySem.W.Frag} {H : Hp} : ∀ {vs : List V} {ds : List D} {i : Nat} {d : D}, RpAll K H vs ds → ds[i]? = some d → ∃ v, vs[i]? = some v ∧ Rp K H v d
  | _, _, _, _, .nil, e => by simp at e
  | _, _, 0, _, .cons r _, e => by simp at e; subst e; exact ⟨_, rfl, r⟩
  | _, _, i + 1, d, .cons _ t, e => by
    obtain ⟨u, h1, h2⟩ := RpAll.get (i := i) (d := d) t (by simpa using e)
    exact ⟨u, by simpa using h1, h2⟩
theorem RpAll.get' {K : PySem.W.Frag} {H : Hp} : ∀ {vs : List V} {ds : List D} {i : Nat} {v : V}, RpAll K H vs ds → vs[i]? = some v → ∃ d, ds[i]? = some d ∧ Rp K H v d
  | _, _, _, _, .nil, e => by simp at e
  | _, _, 0, _, .cons r _, e => by simp at e; subst e; exact ⟨_, rfl, r⟩
  | _, _, i + 1, d, .cons _ t, e => by
    obtain ⟨u, h1, h2⟩ := RpAll.get' (i := i) (v := d) t (by simpa using e)
    exact ⟨u, by simpa using h1, h2⟩
theorem RpAll.append {K : PySem.W.Frag} {H : Hp} : ∀ {vs us : List V} {ds es : List D}, RpAll K H vs ds → RpAll K H us es → RpAll K H (vs ++ us) (ds ++ es)
  | _, _, _, _, .nil, s => s
  | _, _, _, _, .cons r t, s => .cons r (t.append s)
theorem RpAll.one {K : PySem.W.Frag} {H : Hp} {v : V} {d : D} (h : Rp K H v d) : RpAll K H [v] [d] := .cons h .nil
theorem RpAll.take {K : PySem.W.Frag} {H : Hp} : ∀ {vs : List V} {ds : List D} (n : Nat), RpAll K H vs ds → RpAll K H (vs.take n) (ds.take n)
  | _, _, 0, _ => .nil
  | _, _, _ + 1, .nil => .nil
  | _, _, n + 1, .cons r t => .cons r (t.take n)
theorem RpAll.drop {K : PySem.W.Frag} {H : Hp} : ∀ {vs : List V} {ds : List D} (n : Nat), RpAll K H vs ds → RpAll K H (vs.drop n) (ds.drop n)
  | _, _, 0, r => r
  | _, _, _ + 1, .nil => .nil
  | _, _, n + 1, .cons r t => t.drop n
theorem RpAll.set {K : PySem.W.Frag} {H : Hp} {v : V} {d : D} (h : Rp K H v d) : ∀ {vs : List V} {ds : List D} (n : Nat), RpAll K H vs ds → RpAll K H (vs.set n v) (ds.set n d)
  | _, _, _, .nil => .nil
  | _, _, 0, .cons _ t => .cons h t
  | _, _, n + 1, .cons r t => .cons r (RpAll.set h n t)
theorem RpAll.eraseIdx {K : PySem.W.Frag} {H : Hp} : ∀ {vs : List V} {ds : List D} (n : Nat), RpAll K H vs ds → RpAll K H (vs.eraseIdx n) (ds.eraseIdx n)
  | _, _, _, .nil => .nil
  | _, _, 0, .cons _ t => t
  | _, _, n + 1, .cons r t => .cons r (RpAll.eraseIdx n t)
theorem RpAll.reverse {K : PySem.W.Frag} {H : Hp} : ∀ {vs : List V} {ds : List D}, RpAll K H vs ds → RpAll K H vs.reverse ds.reverse
  | _, _, .nil => .nil
  | _, _, .cons r t => by rw [List.reverse_cons, List.reverse_cons]; exact t.reverse.append (.one r)
theorem RpAll.mono {K : PySem.W.Frag} {H H' : Hp} {vs : List V} {ds : List D} (e : Same H H') (h : RpAll K H vs ds) : RpAll K H' vs ds := rpAll_mono e ds vs h
theorem Rp.mono {K : PySem.W.Frag} {H H' : Hp} {v : V} {d : D} (e : Same H H') (h : Rp K H v d) : Rp K H' v d := rp_mono e d v h

/-- the same heap but for the addresses at M; Hb: what is frozen of it -/
structure Step (M : List Addr) (Hb0 H0 Hb H : Hp) : Prop where
  b : Same Hb0 Hb
  s : Same Hb H
  k : ∀ a o, a ∉ M → H0 a = some o → H a = some o
  f : ∀ a, H0 a ≠ none → Hb a = Hb0 a
  t : ∀ a, H0 a ≠ none → H a ≠ none
theorem Step.refl {M : List Addr} {Hb H : Hp} (s : Same Hb H) : Step M Hb H Hb H := ⟨Same.refl _, s, fun _ _ _ h => h, fun _ _ => rfl, fun _ h => h⟩
theorem Step.trans {M M1 : List Addr} {Hb0 H0 Hb1 H1 Hb2 H2 : Hp} (a : Step M Hb0 H0 Hb1 H1) (b : Step M1 Hb1 H1 Hb2 H2) (h : ∀ x ∈ M1, x ∈ M ∨ H0 x = none) : Step M Hb0 H0 Hb2 H2 where
  b := a.b.trans b.b
  s := b.s
  k := fun x o hx e => b.k x o (fun hm => by
    rcases h x hm with z | z
    · exact hx z
    · rw [z] at e; cases e) (a.k x o hx e)
  f := fun x hx => (b.f x (a.t x hx)).trans (a.f x hx)
  t := fun x hx => b.t x (a.t x hx)
theorem Step.trans0 {M : List Addr} {Hb0 H0 Hb1 H1 Hb2 H2 : Hp} (a : Step M Hb0 H0 Hb1 H1) (b : Step [] Hb1 H1 Hb2 H2) : Step M Hb0 H0 Hb2 H2 := a.trans b fun _ z => nomatch z
theorem Step.same {Hb0 H0 Hb H : Hp} (a : Step [] Hb0 H0 Hb H) : Same H0 H := fun x o e => a.k x o (fun z => nomatch z) e
/-- a new object, frozen from the start -/
theorem Step.newF {M : List Addr} {Hb H : Hp} {p : Addr} {o : HO} (s : Same Hb H) (hp : H p = none) : Step M Hb H (upd Hb p o) (upd H p o) where
  b := fun x u e => by rw [upd_ne (ne_of_none (s x u e) hp)]; exact e
  s := fun x u e => by
    by_cases hx : x = p
    · subst hx; rw [upd_same] at e; rw [upd_same]; exact e
    · rw [upd_ne hx] at e; rw [upd_ne hx]; exact s x u e
  k := fun x u _ e => by rw [upd_ne (ne_of_none e hp)]; exact e
  f := fun x hx => by rw [upd_ne (fun z => hx (by rw [z]; exact hp))]
  t := fun x hx => by rw [upd_ne (fun z => hx (by rw [z]; exact hp))]; exact hx
/-- a new object, not frozen -/
theorem Step.newO {M : List Addr} {Hb H : Hp} {p : Addr} {o : HO} (s : Same Hb H) (hp : H p = none) : Step M Hb H Hb (upd H p o) where
  b := Same.refl _
  s := fun x u e => by rw [upd_ne (ne_of_none (s x u e) hp)]; exact s x u e
  k := fun x u _ e => by rw [upd_ne (ne_of_none e hp)]; exact e
  f := fun _ _ => rfl
  t := fun x hx => by rw [upd_ne (fun z => hx (by rw [z]; exact hp))]; exact hx
/-- an object that is not frozen is written -/
theorem Step.wr {M : List Addr} {Hb H : Hp} {p : Addr} {o : HO} (s : Same Hb H) (hp : Hb p = none) (hm : p ∈ M) : Step M Hb H Hb (upd H p o) where
  b := Same.refl _
  s := fun x u e => by rw [upd_ne (fun z => by rw [z, hp] at e; cases e)]; exact s x u e
  k := fun x u hx e => by rw [upd_ne (fun z => hx (by rw [z]; exact hm))]; exact e
  f := fun _ _ => rfl
  t := fun x hx => by
    by_cases e : x = p
    · rw [e, upd_same]; exact fun z => nomatch z
    · rw [upd_ne e]; exact hx
/-- what holds of the heap holds behind an extension -/
theorem Step.ext {M : List Addr} {Hb H H' : Hp} (s : Same Hb H) (e : Same H H') : Step M Hb H Hb H' :=
  ⟨Same.refl _, s.trans e, fun x o _ h => e x o h, fun _ _ => rfl, fun x hx => by
    cases q : H x with
    | none => exact absurd q hx
    | some o => rw [e x o q]; exact fun z => nomatch z⟩

/-! ### what a slot holds -/
/-- an object (or several) that one slot alone holds -/
structure Res where
  holds : Hp → Hp → V → List Addr → Prop
  mono : ∀ {Hb H Hb' H' : Hp} {v : V} {fp : List Addr}, holds Hb H v fp → Same Hb Hb' → (∀ a ∈ fp, H' a = H a) → holds Hb' H' v fp
inductive Sl where
  | no
  | d (x : D)
  | ow (r : Res)
def SlOk (K : PySem.W.Frag) (Hb H : Hp) (v : Option V) (fp : List Addr) : Sl → Prop
  | .no => True
  | .d x => ∃ u, v = some u ∧ Rp K Hb u x
  | .ow r => ∃ u, v = some u ∧ r.holds Hb H u fp
theorem SlOk.mono {K : PySem.W.Frag} {Hb H Hb' H' : Hp} {v : Option V} {fp : List Addr} : ∀ {s : Sl}, SlOk K Hb H v fp s → Same Hb Hb' → (∀ a ∈ fp, H' a = H a) → SlOk K Hb' H' v fp s
  | .no, _, _, _ => trivial
  | .d x, ⟨u, e, h⟩, s, _ => ⟨u, e, h.mono s⟩
  | .ow r, ⟨u, e, h⟩, s, k => ⟨u, e, r.mono h s k⟩
/-- a list that one slot alone holds, its items frozen -/
def Res.lst (K : PySem.W.Frag) (xs : List D) : Res where
  holds := fun Hb H v fp => ∃ a vs, v = .ref a ∧ fp = [a] ∧ H a = some (.lst vs) ∧ RpAll K Hb vs xs
  mono := fun ⟨a, vs, e, ef, ha, h⟩ s k => ⟨a, vs, e, ef, (k a (by rw [ef]; exact List.mem_singleton.mpr rfl)).trans ha, h.mono s⟩
abbrev own (K : PySem.W.Frag) (xs : List D) : Sl := .ow (.lst K xs)

/-- the frame of a def: what stood at its entry -/
structure Cc where
  K : PySem.W.Frag
  M : List Addr
  Hb : Hp
  H : Hp
structure EnvW (C : Cc) (L : List (Option V)) (S : List Sl) (Hb H : Hp) (fp : Nat → List Addr) : Prop where
  st : Step C.M C.Hb C.H Hb H
  len : L.length = S.length
  sl : ∀ i v s, L[i]? = some v → S[i]? = some s → SlOk C.K Hb H v (fp i) s
  dj : ∀ i j a, a ∈ fp i → a ∈ fp j → i = j
  fr : ∀ i a, a ∈ fp i → Hb a = none ∧ H a ≠ none ∧ ((a ∈ C.M ∧ i = 0) ∨ C.H a = none)
section
variable {C : Cc} {L σ : List (Option V)} {S ρ : List Sl} {Hb H Hb' H' : Hp} {fp : Nat → List Addr}
theorem EnvW.get {i : Nat} {s : Sl} (W : EnvW C L S Hb H fp) (h : S[i]? = some s) : ∃ v, L[i]? = some v ∧ SlOk C.K Hb H v (fp i) s := by
  have hi : i < L.length := by rw [W.len]; exact (List.getElem?_eq_some_iff.mp h).1
  exact ⟨L[i], List.getElem?_eq_getElem hi, W.sl i _ s (List.getElem?_eq_getElem hi) h⟩
theorem EnvW.data {i : Nat} {x : D} (W : EnvW C L S Hb H fp) (h : S[i]? = some (.d x)) : ∃ v, L[i]? = some (some v) ∧ Rp C.K Hb v x := by
  obtain ⟨v, e, u, rfl, q⟩ := W.get h
  exact ⟨u, e, q⟩
theorem EnvW.owns {i : Nat} {r : Res} (W : EnvW C L S Hb H fp) (h : S[i]? = some (.ow r)) : ∃ v, L[i]? = some (some v) ∧ r.holds Hb H v (fp i) := by
  obtain ⟨v, e, u, rfl, q⟩ := W.get h
  exact ⟨u, e, q⟩
/-- a step that leaves what is owned -/
theorem EnvW.step (W : EnvW C L S Hb H fp) (t : Step [] Hb H Hb' H') : EnvW C L S Hb' H' fp where
  st := W.st.trans0 t
  len := W.len
  sl := fun i v s h1 h2 => (W.sl i v s h1 h2).mono t.b fun a ha => by
    cases q : H a with
    | none => exact absurd q (W.fr i a ha).2.1
    | some o => exact t.same a o q
  dj := W.dj
  fr := fun i a ha => let ⟨f1, f2, f3⟩ := W.fr i a ha; ⟨(t.f a f2).trans f1, t.t a f2, f3⟩
theorem EnvW.same (W : EnvW C L S Hb H fp) : Same Hb H := W.st.s
/-- slot i's objects are written (and new ones may come); the rest stands -/
theorem EnvW.write {M : List Addr} {i : Nat} {s : Sl} {fpi : List Addr} (W : EnvW C L S Hb H fp) (t : Step M Hb H Hb' H') (hM : ∀ a ∈ M, a ∈ fp i) (hi : i < L.length)
    (hs : ∀ v, L[i]? = some v → SlOk C.K Hb' H' v fpi s) (hf : ∀ a ∈ fpi, a ∈ fp i ∨ (H a = none ∧ Hb' a = none ∧ H' a ≠ none)) : EnvW C L (S.set i s) Hb' H' (fun j => if j = i then fpi else fp j) where
  st := W.st.trans t fun a ha => (W.fr i a (hM a ha)).2.2.imp And.left id
  len := by rw [List.length_set]; exact W.len
  sl := fun j v u h1 h2 => by
    by_cases hj : j = i
    · subst hj
      rw [List.getElem?_set_self (by rw [← W.len]; exact hi)] at h2
      cases h2
      show SlOk C.K Hb' H' v (if j = j then fpi else fp j) s
      rw [if_pos rfl]
      exact hs v h1
    · rw [List.getElem?_set_ne (Ne.symm hj)] at h2
      show SlOk C.K Hb' H' v (if j = i then fpi else fp j) u
      rw [if_neg hj]
      refine (W.sl j v u h1 h2).mono t.b fun a ha => ?_
      have hn : a ∉ M := fun z => hj (W.dj j i a ha (hM a z))
      cases q : H a with
      | none => exact absurd q (W.fr j a ha).2.1
      | some o => exact t.k a o hn q
  dj := fun j k a h1 h2 => by
    have new : ∀ l, a ∈ fpi → a ∈ fp l → l = i := fun l h1 h2 => by
      rcases hf a h1 with z | ⟨z, _⟩
      · exact W.dj l i a h2 z
      · exact absurd z (W.fr l a h2).2.1
    have h1 : a ∈ (if j = i then fpi else fp j) := h1
    have h2 : a ∈ (if k = i then fpi else fp k) := h2
    by_cases hj : j = i
    · by_cases hk : k = i
      · rw [hj, hk]
      · rw [if_pos hj] at h1; rw [if_neg hk] at h2
        exact hj.trans (new k h1 h2).symm
    · rw [if_neg hj] at h1
      by_cases hk : k = i
      · rw [if_pos hk] at h2
        exact (new j h2 h1).trans hk.symm
      · rw [if_neg hk] at h2
        exact W.dj j k a h1 h2
  fr := fun j a h1 => by
    have h1 : a ∈ (if j = i then fpi else fp j) := h1
    by_cases hj : j = i
    · rw [if_pos hj] at h1
      rcases hf a h1 with z | ⟨z1, z2, z3⟩
      · obtain ⟨f1, f2, f3⟩ := W.fr i a z
        exact ⟨(t.f a f2).trans f1, t.t a f2, f3.imp (fun y => ⟨y.1, hj.trans y.2⟩) id⟩
      · refine ⟨z2, z3, .inr ?_⟩
        cases q : C.H a with
        | none => rfl
        | some o => exact absurd z1 (W.st.t a (by rw [q]; exact fun z => nomatch z))
    · rw [if_neg hj] at h1
      obtain ⟨f1, f2, f3⟩ := W.fr j a h1
      exact ⟨(t.f a f2).trans f1, t.t a f2, f3⟩
end

/-- the state and a value that has come -/
structure Got (C : Cc) (L : List (Option V)) (S : List Sl) (Hb H : Hp) (fp : Nat → List Addr) (v : V) (fv : List Addr) (s : Sl) : Prop where
  env : EnvW C L S Hb H fp
  ok : SlOk C.K Hb H (some v) fv s
  nw : ∀ a ∈ fv, Hb a = none ∧ H a ≠ none ∧ C.H a = none ∧ ∀ i, a ∉ fp i
/-- what is asked of a result that a pure step gives -/
def Res1 (K : PySem.W.Frag) (Hb H : Hp) (s : Sl) (Q : VK) : Prop := ∀ w Hb' H' fv, Step [] Hb H Hb' H' → SlOk K Hb' H' (some w) fv s → (∀ a ∈ fv, Hb' a = none ∧ H' a ≠ none ∧ H a = none) → Q w H'
section
variable {C : Cc} {K : PySem.W.Frag} {L σ : List (Option V)} {S ρ : List Sl} {Hb H Hb' H' : Hp} {fp : Nat → List Addr} {Q : VK} {s : Sl}
theorem Res1.data {x : D} {v : V} (q : Res1 K Hb H (.d x) Q) (t : Step [] Hb H Hb' H') (h : Rp K Hb' v x) : Q v H' := q v Hb' H' [] t ⟨v, rfl, h⟩ fun _ z => nomatch z
theorem Res1.flat {x : D} {v : V} (q : Res1 K Hb H (.d x) Q) (s : Same Hb H) (h : Rp K Hb v x) : Q v H := q.data (Step.refl s) h
theorem Res1.after (q : Res1 K Hb H s Q) (t : Step [] Hb H Hb' H') : Res1 K Hb' H' s Q := fun w Hb2 H2 fv t2 h f => q w Hb2 H2 fv (t.trans0 t2) h fun a ha => ⟨(f a ha).1, (f a ha).2.1, by
  cases e : H a with
  | none => rfl
  | some o => exact absurd (f a ha).2.2 (t.t a (by rw [e]; exact fun z => nomatch z))⟩
theorem Got.of (W : EnvW C L S Hb H fp) {w : V} {fv : List Addr} (t : Step [] Hb H Hb' H') (h : SlOk C.K Hb' H' (some w) fv s) (f : ∀ a ∈ fv, Hb' a = none ∧ H' a ≠ none ∧ H a = none) : Got C L S Hb' H' fp w fv s where
  env := W.step t
  ok := h
  nw := fun a ha => let ⟨f1, f2, f3⟩ := f a ha
    ⟨f1, f2, (by
      cases q : C.H a with
      | none => rfl
      | some o => exact absurd f3 (W.st.t a (by rw [q]; exact fun z => nomatch z))), fun i hi => (W.fr i a hi).2.1 f3⟩
theorem Got.of' (W : EnvW C L S Hb H fp) {w : V} {fv : List Addr} (t : Step [] Hb H Hb' H') (h : SlOk C.K Hb' H' (some w) fv s) (f : ∀ a ∈ fv, H a = none ∧ Hb' a = none ∧ H' a ≠ none) : Got C L S Hb' H' fp w fv s := Got.of W t h fun a ha => ⟨(f a ha).2.1, (f a ha).2.2, (f a ha).1⟩
/-- name j = the value -/
theorem Got.store {v : V} {fv : List Addr} (G : Got C L S Hb H fp v fv s) (j : Nat) : EnvW C (L.set j (some v)) (S.set j s) Hb H (fun i => if i = j then fv else fp i) where
  st := G.env.st
  len := by rw [List.length_set, List.length_set]; exact G.env.len
  sl := fun i u z h1 h2 => by
    by_cases hi : i = j
    · subst hi
      have hl : i < L.length := by
        have := (List.getElem?_eq_some_iff.mp h1).1
        rwa [List.length_set] at this
      rw [List.getElem?_set_self hl] at h1
      rw [List.getElem?_set_self (by rw [← G.env.len]; exact hl)] at h2
      cases h1; cases h2
      show SlOk C.K Hb H (some v) (if i = i then fv else fp i) s
      rw [if_pos rfl]
      exact G.ok
    · rw [List.getElem?_set_ne (Ne.symm hi)] at h1 h2
      show SlOk C.K Hb H u (if i = j then fv else fp i) z
      rw [if_neg hi]
      exact G.env.sl i u z h1 h2
  dj := fun i k a h1 h2 => by
    have h1 : a ∈ (if i = j then fv else fp i) := h1
    have h2 : a ∈ (if k = j then fv else fp k) := h2
    by_cases hi : i = j
    · by_cases hk : k = j
      · rw [hi, hk]
      · rw [if_pos hi] at h1; rw [if_neg hk] at h2
        exact absurd h2 ((G.nw a h1).2.2.2 k)
    · rw [if_neg hi] at h1
      by_cases hk : k = j
      · rw [if_pos hk] at h2
        exact absurd h1 ((G.nw a h2).2.2.2 i)
      · rw [if_neg hk] at h2
        exact G.env.dj i k a h1 h2
  fr := fun i a h1 => by
    have h1 : a ∈ (if i = j then fv else fp i) := h1
    by_cases hi : i = j
    · rw [if_pos hi] at h1
      obtain ⟨f1, f2, f3, _⟩ := G.nw a h1
      exact ⟨f1, f2, .inr f3⟩
    · rw [if_neg hi] at h1
      exact G.env.fr i a h1
end
end DL
set_option Elab.async false
set_option linter.all false
set_option maxRecDepth 100000
set_option maxHeartbeats 4000000
/-! DLb: the judgements: pure evaluation (PEv), views (VEv), effectful evaluation (Ev), statements (Ex). -/
namespace DL
open PySem PySem.Spec L2

def flatD : D → Bool
  | .none => true
  | .bool _ => true
  | .int _ => true
  | .str _ => true
  | _ => false
theorem rp_flat {K : PySem.W.Frag} {H H' : Hp} {v : V} {d : D} (f : flatD d = true) (h : Rp K H v d) : Rp K H' v d := by
  cases h with
  | non => exact .non
  | bl b => exact .bl b
  | int i => exact .int i
  | str x => exact .str x
  | lst _ _ => cases f
  | tup _ _ => cases f


/-! ### what a piece of code leaves: F, the owned addresses ahead; F', behind -/
abbrev In (fp : Nat → List Addr) : Addr → Prop := fun a => ∃ i, a ∈ fp i
structure Fr (F : Addr → Prop) (Hb H Hb' H' : Hp) (F' : Addr → Prop) : Prop where
  b : Same Hb Hb'
  k : ∀ a o, ¬ F a → H a = some o → H' a = some o
  f : ∀ a, ¬ F a → H a ≠ none → Hb' a = Hb a
  n : ∀ a, F' a → F a ∨ H a = none
theorem Fr.refl {F : Addr → Prop} {Hb H : Hp} : Fr F Hb H Hb H F := ⟨Same.refl _, fun _ _ _ h => h, fun _ _ _ => rfl, fun _ h => .inl h⟩
theorem Fr.trans {F F1 F2 F3 : Addr → Prop} {Hb H Hb1 H1 Hb2 H2 : Hp} (a : Fr F Hb H Hb1 H1 F1) (b : Fr F2 Hb1 H1 Hb2 H2 F3) (h : ∀ x, F2 x → F1 x) : Fr F Hb H Hb2 H2 F3 := by
  have nf : ∀ x, ¬ F x → H x ≠ none → ¬ F2 x := fun x hx hn z => by
    rcases a.n x (h x z) with q | q
    · exact hx q
    · exact hn q
  refine ⟨a.b.trans b.b, fun x o hx e => ?_, fun x hx e => ?_, fun x hx => ?_⟩
  · exact b.k x o (nf x hx (by rw [e]; exact fun z => nomatch z)) (a.k x o hx e)
  · cases q : H x with
    | none => exact absurd q e
    | some o => exact (b.f x (nf x hx e) (by rw [a.k x o hx q]; exact fun z => nomatch z)).trans (a.f x hx e)
  · rcases b.n x hx with q | q
    · exact a.n x (h x q)
    · by_cases hF : F x
      · exact .inl hF
      · refine .inr ?_
        cases e : H x with
        | none => rfl
        | some o => rw [a.k x o hF e] at q; cases q
theorem Fr.to {F F' F'' : Addr → Prop} {Hb H Hb' H' : Hp} (a : Fr F Hb H Hb' H' F') (h : ∀ x, F'' x → F' x) : Fr F Hb H Hb' H' F'' := ⟨a.b, a.k, a.f, fun x hx => a.n x (h x hx)⟩
theorem Fr.of {F : Addr → Prop} {Hb H Hb' H' : Hp} (t : Step [] Hb H Hb' H') : Fr F Hb H Hb' H' F := ⟨t.b, fun a o _ e => t.same a o e, fun a _ e => t.f a e, fun _ h => .inl h⟩
theorem Fr.ofv {F : Addr → Prop} {Hb H Hb' H' : Hp} {fv : List Addr} (t : Step [] Hb H Hb' H') (h : ∀ a ∈ fv, H a = none) : Fr F Hb H Hb' H' (fun a => a ∈ fv ∨ F a) :=
  ⟨t.b, fun a o _ e => t.same a o e, fun a _ e => t.f a e, fun a z => z.elim (fun z => .inr (h a z)) .inl⟩
theorem in_store {fp : Nat → List Addr} {fv : List Addr} {j : Nat} : ∀ x, In (fun i => if i = j then fv else fp i) x → x ∈ fv ∨ In fp x := fun x ⟨i, hi⟩ => by
  have hi : x ∈ (if i = j then fv else fp i) := hi
  by_cases e : i = j
  · rw [if_pos e] at hi; exact .inl hi
  · rw [if_neg e] at hi; exact .inr ⟨i, hi⟩

/-! ### the judgements -/
section
variable (C : Cc)
def PEv (te : TE) (ρ : List Sl) (s : Sl) : Prop := ∀ σ Hb H fp, EnvW C σ ρ Hb H fp → ∀ Q : VK, Res1 C.K Hb H s Q → te σ H Q
abbrev PD (te : TE) (ρ : List Sl) (x : D) : Prop := PEv C te ρ (.d x)
def PEvA (ta : TA) (ρ : List Sl) (ds : List D) : Prop := ∀ σ Hb H fp, EnvW C σ ρ Hb H fp → ∀ Q : List V → Hp → Prop, (∀ vs Hb' H', Step [] Hb H Hb' H' → RpAll C.K Hb' vs ds → Q vs H') → ta σ H Q
def PEvT (tt : TT) (ρ : List Sl) (b : Bool) : Prop := ∀ σ Hb H fp, EnvW C σ ρ Hb H fp → ∀ Q : Bool → Hp → Prop, (∀ Hb' H', Step [] Hb H Hb' H' → Q b H') → tt σ H Q
def VEv (te : TE) (ρ : List Sl) (x : D) : Prop := ∀ σ Hb H fp, EnvW C σ ρ Hb H fp → ∀ Q : VK, (∀ v Hb' H', Step [] Hb H Hb' H' → Rp C.K H' v x → Q v H') → te σ H Q
def VEvA (ta : TA) (ρ : List Sl) (ds : List D) : Prop := ∀ σ Hb H fp, EnvW C σ ρ Hb H fp → ∀ Q : List V → Hp → Prop, (∀ vs Hb' H', Step [] Hb H Hb' H' → RpAll C.K H' vs ds → Q vs H') → ta σ H Q
def Ev (te : TE) (ρ : List Sl) (P : Sl → List Sl → Prop) : Prop := ∀ σ Hb H fp, EnvW C σ ρ Hb H fp → ∀ Q : VK,
  (∀ v s ρ' Hb' H' fp' fv, Fr (In fp) Hb H Hb' H' (fun a => a ∈ fv ∨ In fp' a) → Got C σ ρ' Hb' H' fp' v fv s → P s ρ' → Q v H') → te σ H Q
def EvA (ta : TA) (ρ : List Sl) (P : List D → List Sl → Prop) : Prop := ∀ σ Hb H fp, EnvW C σ ρ Hb H fp → ∀ Q : List V → Hp → Prop,
  (∀ vs ds ρ' Hb' H' fp', Fr (In fp) Hb H Hb' H' (In fp') → EnvW C σ ρ' Hb' H' fp' → RpAll C.K Hb' vs ds → P ds ρ' → Q vs H') → ta σ H Q
def EvT (tt : TT) (ρ : List Sl) (P : Bool → List Sl → Prop) : Prop := ∀ σ Hb H fp, EnvW C σ ρ Hb H fp → ∀ Q : Bool → Hp → Prop,
  (∀ b ρ' Hb' H' fp', Fr (In fp) Hb H Hb' H' (In fp') → EnvW C σ ρ' Hb' H' fp' → P b ρ' → Q b H') → tt σ H Q
structure Po where
  nx : List Sl → Prop
  rt : Sl → List Sl → Prop
  bk : List Sl → Prop := fun _ => False
  ct : List Sl → Prop := fun _ => False
/-- a wish about states, as the ends of a statement want it -/
def Wn (fp : Nat → List Addr) (Hb H : Hp) (N : List Sl → Prop) (nx : St → Hp → Prop) : Prop := ∀ σ' ρ' Hb' H' fp', Fr (In fp) Hb H Hb' H' (In fp') → EnvW C σ' ρ' Hb' H' fp' → N ρ' → nx σ' H'
def Wr (fp : Nat → List Addr) (Hb H : Hp) (R : Sl → List Sl → Prop) (rt : VK) : Prop := ∀ σ' v s ρ' Hb' H' fp' fv, Fr (In fp) Hb H Hb' H' (fun a => a ∈ fv ∨ In fp' a) → Got C σ' ρ' Hb' H' fp' v fv s → R s ρ' → rt v H'
structure Ends1 (fp : Nat → List Addr) (Hb H : Hp) (P : Po) (E : Ends) : Prop where
  nx : Wn C fp Hb H P.nx E.nx
  rt : Wr C fp Hb H P.rt E.rt
  bk : Wn C fp Hb H P.bk E.bk
  ct : Wn C fp Hb H P.ct E.ct
def Ex (t : TS) (ρ : List Sl) (P : Po) : Prop := ∀ σ Hb H fp E, EnvW C σ ρ Hb H fp → Ends1 C fp Hb H P E → t E σ H
/-- a target takes data -/
def ExG (g : TG) (x : D) (ρ : List Sl) (P : List Sl → Prop) : Prop := ∀ σ Hb H fp v, EnvW C σ ρ Hb H fp → Rp C.K Hb v x → ∀ Q : St → Hp → Prop, Wn C fp Hb H P Q → g v σ H Q
end
section
variable {C : Cc} {fp fp1 : Nat → List Addr} {Hb H Hb1 H1 : Hp} {F : Addr → Prop}
theorem Wn.mono {N : List Sl → Prop} {nx : St → Hp → Prop} (w : Wn C fp Hb H N nx) (s : Fr (In fp) Hb H Hb1 H1 F) (h : ∀ x, In fp1 x → F x) : Wn C fp1 Hb1 H1 N nx := fun σ' ρ' Hb2 H2 fp' s2 => w σ' ρ' Hb2 H2 fp' (s.trans s2 h)
theorem Wr.mono {R : Sl → List Sl → Prop} {rt : VK} (w : Wr C fp Hb H R rt) (s : Fr (In fp) Hb H Hb1 H1 F) (h : ∀ x, In fp1 x → F x) : Wr C fp1 Hb1 H1 R rt := fun σ' v sl ρ' Hb2 H2 fp' fv s2 => w σ' v sl ρ' Hb2 H2 fp' fv (s.trans s2 h)
theorem Ends1.mono {P : Po} {E : Ends} (w : Ends1 C fp Hb H P E) (s : Fr (In fp) Hb H Hb1 H1 F) (h : ∀ x, In fp1 x → F x) : Ends1 C fp1 Hb1 H1 P E := ⟨w.nx.mono s h, w.rt.mono s h, w.bk.mono s h, w.ct.mono s h⟩
theorem Wn.mono0 {N : List Sl → Prop} {nx : St → Hp → Prop} (w : Wn C fp Hb H N nx) (s : Fr (In fp) Hb H Hb1 H1 (In fp1)) : Wn C fp1 Hb1 H1 N nx := w.mono s fun _ h => h
theorem Wr.mono0 {R : Sl → List Sl → Prop} {rt : VK} (w : Wr C fp Hb H R rt) (s : Fr (In fp) Hb H Hb1 H1 (In fp1)) : Wr C fp1 Hb1 H1 R rt := w.mono s fun _ h => h
theorem Ends1.mono0 {P : Po} {E : Ends} (w : Ends1 C fp Hb H P E) (s : Fr (In fp) Hb H Hb1 H1 (In fp1)) : Ends1 C fp1 Hb1 H1 P E := w.mono s fun _ h => h
end

/-! ### operations on data -/
section
variable (K : PySem.W.Frag)
def Op1 (r : V → Hp → VK → Prop) (x : D) (s : Sl) : Prop := ∀ Hb H v (Q : VK), Same Hb H → Rp K Hb v x → Res1 K Hb H s Q → r v H Q
def Op2 (r : R2) (x y : D) (s : Sl) : Prop := ∀ Hb H v u (Q : VK), Same Hb H → Rp K Hb v x → Rp K Hb u y → Res1 K Hb H s Q → r v u H Q
def OpN (r : List V → Hp → VK → Prop) (xs : List D) (s : Sl) : Prop := ∀ Hb H vs (Q : VK), Same Hb H → RpAll K Hb vs xs → Res1 K Hb H s Q → r vs H Q
/-- a method of a built-in type -/
def OpM (r : V → List V → Hp → VK → Prop) (x : D) (xs : List D) (s : Sl) : Prop := ∀ Hb H v vs (Q : VK), Same Hb H → Rp K Hb v x → RpAll K Hb vs xs → Res1 K Hb H s Q → r v vs H Q
end

section
variable {C : Cc} {ρ : List Sl} {x y z : D} {s : Sl} {xs : List D} {te ta tb : TE} {tA tr : TA} {t u : TT} {r : R2} {b c : Bool}
/-! ### pure -/
theorem ev_var {i : Nat} (h : ρ[i]? = some (.d x)) : PD C (tVar i) ρ x := fun σ Hb H fp W Q q => by
  obtain ⟨v, e, hv⟩ := W.data h
  exact ⟨v, e, q.flat W.same hv⟩
theorem ev_const {v : V} (h : ∀ H, Rp C.K H v x) : PD C (tC v) ρ x := fun σ Hb H fp W Q q => q.flat W.same (h Hb)
theorem ev_int {i : Int} : PD C (tC (.int i)) ρ (.int i) := ev_const fun _ => .int i
theorem ev_str {i : Str} : PD C (tC (.str i)) ρ (.str i) := ev_const fun _ => .str i
theorem ev_bl {b : Bool} : PD C (tC (.bl b)) ρ (.bool b) := ev_const fun _ => .bl b
theorem ev_non : PD C (tC .non) ρ .none := ev_const fun _ => .non
theorem ev_op (ha : PD C ta ρ x) (hb : PD C tb ρ y) (hr : Op2 C.K r x y s) : PEv C (tOp r ta tb) ρ s := fun σ Hb H fp W Q q =>
  ha σ Hb H fp W _ fun v Hb1 H1 _ t1 ⟨_, e1, h1⟩ _ => hb σ Hb1 H1 fp (W.step t1) _ fun u Hb2 H2 _ t2 ⟨_, e2, h2⟩ _ => by
    cases e1; cases e2
    exact hr Hb2 H2 v u Q t2.s (h1.mono t2.b) h2 (q.after (t1.trans0 t2))
theorem ev_un {r : V → Hp → VK → Prop} (ha : PD C ta ρ x) (hr : Op1 C.K r x s) : PEv C (tUn r ta) ρ s := fun σ Hb H fp W Q q =>
  ha σ Hb H fp W _ fun v Hb1 H1 _ t1 ⟨_, e1, h1⟩ _ => by
    cases e1
    exact hr Hb1 H1 v Q t1.s h1 (q.after t1)
theorem ea_nil : PEvA C tNil ρ [] := fun σ Hb H fp W Q q => q [] Hb H (Step.refl W.same) .nil
theorem ea_cons (ha : PD C ta ρ x) (hr : PEvA C tr ρ xs) : PEvA C (tCons ta tr) ρ (x :: xs) := fun σ Hb H fp W Q q =>
  ha σ Hb H fp W _ fun v Hb1 H1 _ t1 ⟨_, e1, h1⟩ _ => hr σ Hb1 H1 fp (W.step t1) _ fun vs Hb2 H2 t2 h2 => by
    cases e1
    exact q (v :: vs) Hb2 H2 (t1.trans0 t2) (.cons (h1.mono t2.b) h2)
theorem ea_one (ha : PD C ta ρ x) : PEvA C (tCons ta tNil) ρ [x] := ea_cons ha ea_nil
theorem ea_two (ha : PD C ta ρ x) (hb : PD C tb ρ y) : PEvA C (tCons ta (tCons tb tNil)) ρ [x, y] := ea_cons ha (ea_one hb)
theorem ev_call {r : List V → Hp → VK → Prop} (ha : PEvA C tA ρ xs) (hr : OpN C.K r xs s) : PEv C (tCB r tA) ρ s := fun σ Hb H fp W Q q =>
  ha σ Hb H fp W _ fun vs Hb1 H1 t1 h1 => hr Hb1 H1 vs Q t1.s h1 (q.after t1)
theorem ev_is (h : PD C te ρ x) (e : x = y) : PD C te ρ y := e ▸ h
theorem ea_is {ys : List D} (h : PEvA C tA ρ xs) (e : xs = ys) : PEvA C tA ρ ys := e ▸ h
theorem et_is (h : PEvT C t ρ b) (e : b = c) : PEvT C t ρ c := e ▸ h
theorem sz {n : Nat} (h : n ≤ 10000000) : n ≤ sizeLine := Nat.le_trans h (by rw [sizeLine_eq]; decide)
theorem szl {n : Nat} (h : n < 10000000) : n < sizeLine := Nat.lt_of_lt_of_le h (by rw [sizeLine_eq]; decide)
theorem ev_tup (ha : PEvA C tA ρ xs) (hl : xs.length ≤ 10000000 := by exact Nat.le_of_ble_eq_true rfl) : PD C (tTup tA) ρ (.tuple xs) := fun σ Hb H fp W Q q =>
  ha σ Hb H fp W _ fun vs Hb1 H1 t1 h1 => ⟨by rw [h1.length]; exact sz hl, fun p hp =>
    q.data (t1.trans0 (Step.newF (o := .tup vs) t1.s hp)) (.tup (.of upd_same) (h1.mono (Step.newF (M := []) (o := .tup vs) t1.s hp).b))⟩
theorem ev_lst (ha : PEvA C tA ρ xs) (hl : xs.length ≤ 10000000 := by exact Nat.le_of_ble_eq_true rfl) : PD C (tLst tA) ρ (.list xs) := fun σ Hb H fp W Q q =>
  ha σ Hb H fp W _ fun vs Hb1 H1 t1 h1 => ⟨by rw [h1.length]; exact sz hl, fun p hp =>
    q.data (t1.trans0 (Step.newF (o := .lst vs) t1.s hp)) (.lst upd_same (h1.mono (Step.newF (M := []) (o := .lst vs) t1.s hp).b))⟩
/-- a new list comes, to be owned -/
theorem own_new {K : PySem.W.Frag} {Hb H : Hp} {Q : VK} {vs : List V} {p : Addr} (q : Res1 K Hb H (own K xs) Q) (sm : Same Hb H) (hp : H p = none) (h : RpAll K Hb vs xs) : Q (.ref p) (upd H p (.lst vs)) := by
  have hb : Hb p = none := by
    cases e : Hb p with
    | none => rfl
    | some o => rw [sm p o e] at hp; cases hp
  exact q (.ref p) Hb (upd H p (.lst vs)) [p] (Step.newO sm hp) ⟨_, rfl, p, vs, rfl, rfl, upd_same, h⟩ fun a ha => by
    obtain rfl := List.mem_singleton.mp ha
    exact ⟨hb, by rw [upd_same]; exact fun z => (nomatch z), hp⟩
theorem dat_new {K : PySem.W.Frag} {Hb H : Hp} {Q : VK} {vs : List V} {p : Addr} (q : Res1 K Hb H (.d (.list xs)) Q) (sm : Same Hb H) (hp : H p = none) (h : RpAll K Hb vs xs) : Q (.ref p) (upd H p (.lst vs)) :=
  q.data (Step.newF (o := .lst vs) sm hp) (.lst upd_same (h.mono (Step.newF (M := []) (o := .lst vs) sm hp).b))
/-- .. either way -/
inductive Lsl (K : PySem.W.Frag) (xs : List D) : Sl → Prop
  | dat : Lsl K xs (.d (.list xs))
  | own : Lsl K xs (own K xs)
theorem lst_new {K : PySem.W.Frag} {Hb H : Hp} {Q : VK} {vs : List V} {p : Addr} (l : Lsl K xs s) (q : Res1 K Hb H s Q) (sm : Same Hb H) (hp : H p = none) (h : RpAll K Hb vs xs) : Q (.ref p) (upd H p (.lst vs)) := by
  cases l with
  | dat => exact dat_new q sm hp h
  | own => exact own_new q sm hp h
theorem ev_lstO (ha : PEvA C tA ρ xs) (hl : xs.length ≤ 10000000 := by exact Nat.le_of_ble_eq_true rfl) : PEv C (tLst tA) ρ (own C.K xs) := fun σ Hb H fp W Q q =>
  ha σ Hb H fp W _ fun vs Hb1 H1 t1 h1 => ⟨by rw [h1.length]; exact sz hl, fun p hp => own_new (q.after t1) t1.s hp h1⟩
theorem ev_if (h : PEvT C t ρ b) (h1 : b = true → PEv C ta ρ s) (h2 : b = false → PEv C tb ρ s) : PEv C (tIf t ta tb) ρ s := fun σ Hb H fp W Q q =>
  h σ Hb H fp W _ fun Hb1 H1 t1 => by
    cases b with
    | true => exact h1 rfl σ Hb1 H1 fp (W.step t1) Q (q.after t1)
    | false => exact h2 rfl σ Hb1 H1 fp (W.step t1) Q (q.after t1)
theorem et_test (h : PD C te ρ (.bool b)) : PEvT C (tTest te) ρ b := fun σ Hb H fp W Q q => h σ Hb H fp W _ fun v Hb1 H1 _ t1 ⟨_, e1, h1⟩ _ => by
  cases e1; cases h1
  exact ⟨b, rfl, q Hb1 H1 t1⟩
theorem et_B (h : PD C te ρ (.bool b)) : PEvT C (tB te) ρ b := fun σ Hb H fp W Q q => h σ Hb H fp W _ fun v Hb1 H1 _ t1 ⟨_, e1, h1⟩ _ => by
  cases e1; cases h1
  exact ⟨b, rfl, q Hb1 H1 t1⟩
theorem et_and (h1 : PEvT C t ρ b) (h2 : b = true → PEvT C u ρ c) : PEvT C (tAnd t u) ρ (b && c) := fun σ Hb H fp W Q q => h1 σ Hb H fp W _ fun Hb1 H1 t1 => by
  cases b with
  | true => exact h2 rfl σ Hb1 H1 fp (W.step t1) Q fun Hb2 H2 t2 => q Hb2 H2 (t1.trans0 t2)
  | false => exact q Hb1 H1 t1
theorem et_or (h1 : PEvT C t ρ b) (h2 : b = false → PEvT C u ρ c) : PEvT C (tOr t u) ρ (b || c) := fun σ Hb H fp W Q q => h1 σ Hb H fp W _ fun Hb1 H1 t1 => by
  cases b with
  | true => exact q Hb1 H1 t1
  | false => exact h2 rfl σ Hb1 H1 fp (W.step t1) Q fun Hb2 H2 t2 => q Hb2 H2 (t1.trans0 t2)
theorem et_not (h : PEvT C t ρ b) : PEvT C (tNot t) ρ (!b) := fun σ Hb H fp W Q q => h σ Hb H fp W _ q
theorem ev_andV (h1 : PD C ta ρ (.bool b)) (h2 : b = true → PD C tb ρ (.bool c)) : PD C (tAndV ta tb) ρ (.bool (b && c)) := fun σ Hb H fp W Q q => h1 σ Hb H fp W _ fun v Hb1 H1 _ t1 ⟨_, e1, h1⟩ _ => by
  cases e1; cases h1
  refine ⟨b, rfl, ?_⟩
  cases b with
  | true => exact h2 rfl σ Hb1 H1 fp (W.step t1) Q (q.after t1)
  | false => exact (q.after t1).flat t1.s (.bl false)
theorem ev_orV (h1 : PD C ta ρ (.bool b)) (h2 : b = false → PD C tb ρ (.bool c)) : PD C (tOrV ta tb) ρ (.bool (b || c)) := fun σ Hb H fp W Q q => h1 σ Hb H fp W _ fun v Hb1 H1 _ t1 ⟨_, e1, h1⟩ _ => by
  cases e1; cases h1
  refine ⟨b, rfl, ?_⟩
  cases b with
  | true => exact (q.after t1).flat t1.s (.bl true)
  | false => exact h2 rfl σ Hb1 H1 fp (W.step t1) Q (q.after t1)
theorem ev_notV (h1 : PD C ta ρ (.bool b)) : PD C (tNotV ta) ρ (.bool (!b)) := fun σ Hb H fp W Q q => h1 σ Hb H fp W _ fun v Hb1 H1 _ t1 ⟨_, e1, h1⟩ _ => by
  cases e1; cases h1
  exact ⟨b, rfl, (q.after t1).flat t1.s (.bl _)⟩
/-- a < b < c -/
theorem ev_chain {r' : R2} {tc : TE} (ha : PD C ta ρ x) (hb : PD C tb ρ y) (hr : Op2 C.K r x y (.d (.bool b))) (hc : b = true → PD C tc ρ z ∧ Op2 C.K r' y z (.d (.bool c))) : PD C (tChain r r' ta tb tc) ρ (.bool (b && c)) := fun σ Hb H fp W Q q =>
  ha σ Hb H fp W _ fun v Hb1 H1 _ t1 ⟨_, e1, h1⟩ _ => hb σ Hb1 H1 fp (W.step t1) _ fun u Hb2 H2 _ t2 ⟨_, e2, h2⟩ _ => by
    cases e1; cases e2
    refine hr Hb2 H2 v u _ t2.s (h1.mono t2.b) h2 fun w Hb3 H3 _ t3 ⟨_, e3, h3⟩ _ => ?_
    cases e3; cases h3
    have t := (t1.trans0 t2).trans0 t3
    refine ⟨b, rfl, ?_⟩
    cases b with
    | true =>
      obtain ⟨hz, hr'⟩ := hc rfl
      exact hz σ Hb3 H3 fp (W.step t) _ fun k Hb4 H4 _ t4 ⟨_, e4, h4⟩ _ => by
        cases e4
        exact hr' Hb4 H4 u k Q t4.s (h2.mono (t3.b.trans t4.b)) h4 (q.after (t.trans0 t4))
    | false => exact (q.after t).flat t.s (.bl false)

/-! ### views -/
theorem vv_of (h : PD C te ρ x) : VEv C te ρ x := fun σ Hb H fp W Q q => h σ Hb H fp W _ fun v Hb1 H1 _ t1 ⟨_, e1, h1⟩ _ => by
  cases e1
  exact q v Hb1 H1 t1 (h1.mono t1.s)
theorem vv_var {i : Nat} (h : ρ[i]? = some (own C.K xs)) : VEv C (tVar i) ρ (.list xs) := fun σ Hb H fp W Q q => by
  obtain ⟨v, e, a, vs, rfl, ef, ha, hv⟩ := W.owns h
  exact ⟨_, e, q _ Hb H (Step.refl W.same) (.lst ha (hv.mono W.same))⟩
theorem va_nil : VEvA C tNil ρ [] := fun σ Hb H fp W Q q => q [] Hb H (Step.refl W.same) .nil
theorem va_cons (ha : VEv C ta ρ x) (hr : VEvA C tr ρ xs) : VEvA C (tCons ta tr) ρ (x :: xs) := fun σ Hb H fp W Q q =>
  ha σ Hb H fp W _ fun v Hb1 H1 t1 h1 => hr σ Hb1 H1 fp (W.step t1) _ fun vs Hb2 H2 t2 h2 => q (v :: vs) Hb2 H2 (t1.trans0 t2) (.cons (h1.mono t2.same) h2)
/-- a view's result that is flat -/
theorem Res1.view {K : PySem.W.Frag} {Hb H : Hp} {Q : VK} (q : Res1 K Hb H (.d x) Q) (sm : Same Hb H) (f : flatD x = true) : Res1 K H H (.d x) Q := fun w Hb' H' fv t ⟨_, e, h⟩ hf => by
  cases e
  exact q.data (Step.ext sm t.same) (rp_flat f h)
theorem vv_op (ha : VEv C ta ρ x) (hb : VEv C tb ρ y) (hr : Op2 C.K r x y (.d z)) (f : flatD z = true := by rfl) : PD C (tOp r ta tb) ρ z := fun σ Hb H fp W Q q =>
  ha σ Hb H fp W _ fun v Hb1 H1 t1 h1 => hb σ Hb1 H1 fp (W.step t1) _ fun u Hb2 H2 t2 h2 =>
    hr H2 H2 v u Q (Same.refl _) (h1.mono t2.same) h2 ((q.after (t1.trans0 t2)).view t2.s f)
theorem vv_call {r : List V → Hp → VK → Prop} (ha : VEvA C tA ρ xs) (hr : OpN C.K r xs (.d z)) (f : flatD z = true := by rfl) : PD C (tCB r tA) ρ z := fun σ Hb H fp W Q q =>
  ha σ Hb H fp W _ fun vs Hb1 H1 t1 h1 => hr H1 H1 vs Q (Same.refl _) h1 ((q.after t1).view t1.s f)

/-! ### effectful -/
variable {P : Sl → List Sl → Prop} {PA : List D → List Sl → Prop} {PB : Bool → List Sl → Prop}
abbrev Vw (fv : List Addr) (fp : Nat → List Addr) : Addr → Prop := fun a => a ∈ fv ∨ In fp a
theorem vw_in {fv : List Addr} {fp : Nat → List Addr} : ∀ x, In fp x → Vw fv fp x := fun _ h => .inr h
theorem Fr.vtrans {F F3 : Addr → Prop} {Hb H Hb1 H1 Hb2 H2 : Hp} {fv : List Addr} {fp : Nat → List Addr} (a : Fr F Hb H Hb1 H1 (Vw fv fp)) (b : Fr (In fp) Hb1 H1 Hb2 H2 F3) : Fr F Hb H Hb2 H2 F3 := a.trans b vw_in
theorem Fr.etrans {F F3 : Addr → Prop} {Hb H Hb1 H1 Hb2 H2 : Hp} {fp : Nat → List Addr} (a : Fr F Hb H Hb1 H1 (In fp)) (b : Fr (In fp) Hb1 H1 Hb2 H2 F3) : Fr F Hb H Hb2 H2 F3 := a.trans b fun _ h => h
theorem ef_p (h : PEv C te ρ s) (p : P s ρ) : Ev C te ρ P := fun σ Hb H fp W Q q => h σ Hb H fp W Q fun w Hb' H' fv t hs hf => q w s ρ Hb' H' fp fv (.ofv t fun a ha => (hf a ha).2.2) (Got.of W t hs hf) p
theorem ef_d (h : PD C te ρ x) (p : P (.d x) ρ) : Ev C te ρ P := ef_p h p
theorem ef_mono {P' : Sl → List Sl → Prop} (h : Ev C te ρ P') (m : ∀ s ρ', P' s ρ' → P s ρ') : Ev C te ρ P := fun σ Hb H fp W Q q => h σ Hb H fp W Q fun v s ρ' Hb' H' fp' fv sm G p => q v s ρ' Hb' H' fp' fv sm G (m s ρ' p)
theorem fa_p (h : PEvA C tA ρ xs) (p : PA xs ρ) : EvA C tA ρ PA := fun σ Hb H fp W Q q => h σ Hb H fp W Q fun vs Hb' H' t hs => q vs xs ρ Hb' H' fp (.of t) (W.step t) hs p
theorem ft_p (h : PEvT C t ρ b) (p : PB b ρ) : EvT C t ρ PB := fun σ Hb H fp W Q q => h σ Hb H fp W Q fun Hb' H' t => q b ρ Hb' H' fp (.of t) (W.step t) p
theorem ft_mono {PB' : Bool → List Sl → Prop} (h : EvT C t ρ PB') (m : ∀ b ρ', PB' b ρ' → PB b ρ') : EvT C t ρ PB := fun σ Hb H fp W Q q => h σ Hb H fp W Q fun b ρ' Hb' H' fp' sm G p => q b ρ' Hb' H' fp' sm G (m b ρ' p)
theorem Got.data {L : List (Option V)} {Hb H : Hp} {fp : Nat → List Addr} {v : V} {fv : List Addr} (G : Got C L ρ Hb H fp v fv (.d x)) : Rp C.K Hb v x := by
  obtain ⟨u, e, h⟩ := G.ok
  cases e
  exact h
theorem fa_nil (p : PA [] ρ) : EvA C tNil ρ PA := fa_p ea_nil p
theorem fa_cons (h : Ev C ta ρ fun s ρ1 => ∃ x, s = .d x ∧ EvA C tr ρ1 fun xs ρ2 => PA (x :: xs) ρ2) : EvA C (tCons ta tr) ρ PA := fun σ Hb H fp W Q q =>
  h σ Hb H fp W _ fun v s ρ1 Hb1 H1 fp1 fv sm G ⟨x, e, h2⟩ => by
    subst e
    exact h2 σ Hb1 H1 fp1 G.env _ fun vs xs ρ2 Hb2 H2 fp2 sm2 W2 hv p => q (v :: vs) (x :: xs) ρ2 Hb2 H2 fp2 (sm.vtrans sm2) W2 (.cons (G.data.mono sm2.b) hv) p
theorem Res1.got {L : List (Option V)} {F : Addr → Prop} {Hb0 H0 Hb H : Hp} {fp : Nat → List Addr} {Q : VK} (W : EnvW C L ρ Hb H fp) (sm : Fr F Hb0 H0 Hb H (In fp)) (q : ∀ v s ρ' Hb' H' fp' fv, Fr F Hb0 H0 Hb' H' (Vw fv fp') → Got C L ρ' Hb' H' fp' v fv s → P s ρ' → Q v H') (p : P s ρ) : Res1 C.K Hb H s Q :=
  fun w Hb' H' fv t hs hf => q w s ρ Hb' H' fp fv (sm.etrans (.ofv t fun a ha => (hf a ha).2.2)) (Got.of W t hs hf) p
theorem ef_op (h : Ev C ta ρ fun s ρ1 => ∃ x, s = .d x ∧ Ev C tb ρ1 fun s2 ρ2 => ∃ y s3, s2 = .d y ∧ Op2 C.K r x y s3 ∧ P s3 ρ2) : Ev C (tOp r ta tb) ρ P := fun σ Hb H fp W Q q =>
  h σ Hb H fp W _ fun v s ρ1 Hb1 H1 fp1 fv sm G ⟨x, e, h2⟩ => by
    subst e
    refine h2 σ Hb1 H1 fp1 G.env _ fun u s2 ρ2 Hb2 H2 fp2 fv2 sm2 G2 ⟨y, s3, e2, hr, p⟩ => ?_
    subst e2
    exact hr Hb2 H2 v u Q G2.env.same (G.data.mono sm2.b) G2.data (Res1.got G2.env ((sm.vtrans sm2).to vw_in) q p)
theorem ef_call {r : List V → Hp → VK → Prop} (h : EvA C tA ρ fun xs ρ1 => ∃ s, OpN C.K r xs s ∧ P s ρ1) : Ev C (tCB r tA) ρ P := fun σ Hb H fp W Q q =>
  h σ Hb H fp W _ fun vs xs ρ1 Hb1 H1 fp1 sm W1 hv ⟨s, hr, p⟩ => hr Hb1 H1 vs Q W1.same hv (Res1.got W1 sm q p)
theorem ef_tup (h : EvA C tA ρ fun xs ρ1 => xs.length ≤ 10000000 ∧ P (.d (.tuple xs)) ρ1) : Ev C (tTup tA) ρ P := fun σ Hb H fp W Q q =>
  h σ Hb H fp W _ fun vs xs ρ1 Hb1 H1 fp1 sm W1 hv ⟨hl, p⟩ => ⟨by rw [hv.length]; exact sz hl, fun a ha =>
    (Res1.got W1 sm q p).data (Step.newF (o := .tup vs) W1.same ha) (.tup (.of upd_same) (hv.mono (Step.newF (M := []) (o := .tup vs) W1.same ha).b))⟩
theorem ef_lst (h : EvA C tA ρ fun xs ρ1 => xs.length ≤ 10000000 ∧ ∃ s, Lsl C.K xs s ∧ P s ρ1) : Ev C (tLst tA) ρ P := fun σ Hb H fp W Q q =>
  h σ Hb H fp W _ fun vs xs ρ1 Hb1 H1 fp1 sm W1 hv ⟨hl, s, l, p⟩ => ⟨by rw [hv.length]; exact sz hl, fun a ha => lst_new l (Res1.got W1 sm q p) W1.same ha hv⟩
theorem ef_if (h : EvT C t ρ fun b ρ1 => if b = true then Ev C ta ρ1 P else Ev C tb ρ1 P) : Ev C (tIf t ta tb) ρ P := fun σ Hb H fp W Q q =>
  h σ Hb H fp W _ fun b ρ1 Hb1 H1 fp1 sm W1 p => by
    cases b with
    | true => exact p σ Hb1 H1 fp1 W1 Q fun v s ρ' Hb' H' fp' fv sm' => q v s ρ' Hb' H' fp' fv (sm.etrans sm')
    | false => exact p σ Hb1 H1 fp1 W1 Q fun v s ρ' Hb' H' fp' fv sm' => q v s ρ' Hb' H' fp' fv (sm.etrans sm')
theorem ft_test (h : Ev C te ρ fun s ρ1 => ∃ b, s = .d (.bool b) ∧ PB b ρ1) : EvT C (tTest te) ρ PB := fun σ Hb H fp W Q q =>
  h σ Hb H fp W _ fun v s ρ1 Hb1 H1 fp1 fv sm G ⟨b, e, p⟩ => by
    subst e
    have hv := G.data
    cases hv
    exact ⟨b, rfl, q b ρ1 Hb1 H1 fp1 (sm.to vw_in) G.env p⟩
theorem ft_B (h : Ev C te ρ fun s ρ1 => ∃ b, s = .d (.bool b) ∧ PB b ρ1) : EvT C (tB te) ρ PB := fun σ Hb H fp W Q q =>
  h σ Hb H fp W _ fun v s ρ1 Hb1 H1 fp1 fv sm G ⟨b, e, p⟩ => by
    subst e
    have hv := G.data
    cases hv
    exact ⟨b, rfl, q b ρ1 Hb1 H1 fp1 (sm.to vw_in) G.env p⟩
theorem ft_and (h : EvT C t ρ fun b ρ1 => if b = true then EvT C u ρ1 PB else PB false ρ1) : EvT C (tAnd t u) ρ PB := fun σ Hb H fp W Q q =>
  h σ Hb H fp W _ fun b ρ1 Hb1 H1 fp1 sm W1 p => by
    cases b with
    | true => exact p σ Hb1 H1 fp1 W1 Q fun c ρ' Hb' H' fp' sm' => q c ρ' Hb' H' fp' (sm.etrans sm')
    | false => exact q false ρ1 Hb1 H1 fp1 sm W1 p
theorem ft_or (h : EvT C t ρ fun b ρ1 => if b = true then PB true ρ1 else EvT C u ρ1 PB) : EvT C (tOr t u) ρ PB := fun σ Hb H fp W Q q =>
  h σ Hb H fp W _ fun b ρ1 Hb1 H1 fp1 sm W1 p => by
    cases b with
    | true => exact q true ρ1 Hb1 H1 fp1 sm W1 p
    | false => exact p σ Hb1 H1 fp1 W1 Q fun c ρ' Hb' H' fp' sm' => q c ρ' Hb' H' fp' (sm.etrans sm')
theorem ft_not (h : EvT C t ρ fun b ρ1 => PB (!b) ρ1) : EvT C (tNot t) ρ PB := fun σ Hb H fp W Q q => h σ Hb H fp W _ fun b ρ1 Hb1 H1 fp1 sm W1 p => q (!b) ρ1 Hb1 H1 fp1 sm W1 p
end

/-! ### statements -/
section
variable {C : Cc} {ρ : List Sl} {x y z : D} {s : Sl} {xs : List D} {te ta tb : TE} {tA tr : TA} {t : TT} {u w : TS} {P : Po} {g : TG}
theorem ex_seq (h : Ex C u ρ { P with nx := fun ρ' => Ex C w ρ' P }) : Ex C (tSeq u w) ρ P := fun σ Hb H fp E W q =>
  h σ Hb H fp { E with nx := w E } W ⟨fun σ' ρ' Hb' H' fp' sm W' p => p σ' Hb' H' fp' E W' (q.mono0 sm), q.rt, q.bk, q.ct⟩
theorem ex_next (p : P.nx ρ) : Ex C tNext ρ P := fun σ Hb H fp E W q => q.nx σ ρ Hb H fp .refl W p
theorem ex_break (p : P.bk ρ) : Ex C tBreak ρ P := fun σ Hb H fp E W q => q.bk σ ρ Hb H fp .refl W p
theorem ex_cont (p : P.ct ρ) : Ex C tCont ρ P := fun σ Hb H fp E W q => q.ct σ ρ Hb H fp .refl W p
theorem ex_asg {j : Nat} (h : Ev C te ρ fun s ρ1 => P.nx (ρ1.set j s)) : Ex C (tAsg te (gName j)) ρ P := fun σ Hb H fp E W q =>
  h σ Hb H fp W _ fun v s ρ1 Hb1 H1 fp1 fv sm G p => q.nx _ _ Hb1 H1 _ (sm.to in_store) (G.store j) p
theorem ex_set {j : Nat} (h : PEv C te ρ s) (p : P.nx (ρ.set j s)) : Ex C (tAsg te (gName j)) ρ P := ex_asg (ef_p h p)
theorem ex_drop (h : Ev C te ρ fun _ ρ1 => P.nx ρ1) : Ex C (tDrop te) ρ P := fun σ Hb H fp E W q =>
  h σ Hb H fp W _ fun v s ρ1 Hb1 H1 fp1 fv sm G p => q.nx σ ρ1 Hb1 H1 fp1 (sm.to vw_in) G.env p
theorem ex_ret (h : Ev C te ρ P.rt) : Ex C (tRet te) ρ P := fun σ Hb H fp E W q =>
  h σ Hb H fp W _ fun v s ρ1 Hb1 H1 fp1 fv sm G p => q.rt σ v s ρ1 Hb1 H1 fp1 fv sm G p
theorem ex_retN (p : P.rt (.d .none) ρ) : Ex C tRetN ρ P := fun σ Hb H fp E W q =>
  q.rt σ .non (.d .none) ρ Hb H fp [] (Fr.refl.to fun _ h => h.elim (fun z => nomatch z) id) ⟨W, ⟨_, rfl, .non⟩, fun _ z => nomatch z⟩ p
theorem ex_if (h : EvT C t ρ fun b ρ1 => if b = true then Ex C u ρ1 P else Ex C w ρ1 P) : Ex C (tIfS t u w) ρ P := fun σ Hb H fp E W q =>
  h σ Hb H fp W _ fun b ρ1 Hb1 H1 fp1 sm W1 p => by
    cases b with
    | true => exact p σ Hb1 H1 fp1 E W1 (q.mono0 sm)
    | false => exact p σ Hb1 H1 fp1 E W1 (q.mono0 sm)
theorem ex_ifp {b : Bool} (h : PEvT C t ρ b) (h1 : b = true → Ex C u ρ P) (h2 : b = false → Ex C w ρ P) : Ex C (tIfS t u w) ρ P := ex_if (ft_p h (by
  cases b with
  | true => exact h1 rfl
  | false => exact h2 rfl))
theorem ex_mono {P' : Po} (h : Ex C u ρ P') (m1 : ∀ ρ, P'.nx ρ → P.nx ρ) (m2 : ∀ s ρ, P'.rt s ρ → P.rt s ρ) (m3 : ∀ ρ, P'.bk ρ → P.bk ρ) (m4 : ∀ ρ, P'.ct ρ → P.ct ρ) : Ex C u ρ P := fun σ Hb H fp E W q =>
  h σ Hb H fp E W ⟨fun a b c d e s w p => q.nx a b c d e s w (m1 _ p), fun a b c d e f g i s w p => q.rt a b c d e f g i s w (m2 _ _ p), fun a b c d e s w p => q.bk a b c d e s w (m3 _ p), fun a b c d e s w p => q.ct a b c d e s w (m4 _ p)⟩
/-! targets -/
theorem EnvW.sto {σ : St} {Hb H : Hp} {fp : Nat → List Addr} {v : V} (W : EnvW C σ ρ Hb H fp) (h : Rp C.K Hb v x) (j : Nat) : EnvW C (σ.set j (some v)) (ρ.set j (.d x)) Hb H (fun i => if i = j then [] else fp i) :=
  (show Got C σ ρ Hb H fp v [] (.d x) from ⟨W, ⟨v, rfl, h⟩, fun _ z => nomatch z⟩).store j
theorem in_sto {fp : Nat → List Addr} {j : Nat} : ∀ x, In (fun i => if i = j then [] else fp i) x → In fp x := fun x h => (in_store x h).elim (fun z => nomatch z) id
theorem eg_name {j : Nat} {N : List Sl → Prop} (p : N (ρ.set j (.d x))) : ExG C (gName j) x ρ N := fun σ Hb H fp v W h Q q => q _ _ Hb H _ (Fr.refl.to in_sto) (W.sto h j) p
/-- several targets -/
def ExGs (C : Cc) (g : TGs) (xs : List D) (ρ : List Sl) (N : List Sl → Prop) : Prop := ∀ σ Hb H fp vs, EnvW C σ ρ Hb H fp → RpAll C.K Hb vs xs → ∀ Q : St → Hp → Prop, Wn C fp Hb H N Q → g vs σ H Q
theorem egs_nil {N : List Sl → Prop} (p : N ρ) : ExGs C gNil [] ρ N := fun σ Hb H fp vs W h Q q => by
  cases h
  exact ⟨rfl, q σ ρ Hb H fp .refl W p⟩
theorem egs_cons {g : TG} {gs : TGs} {N : List Sl → Prop} (h : ExG C g x ρ fun ρ1 => ExGs C gs xs ρ1 N) : ExGs C (gCons g gs) (x :: xs) ρ N := fun σ Hb H fp vs W hv Q q => by
  cases hv with
  | cons h1 h2 =>
    exact ⟨_, _, rfl, h σ Hb H fp _ W h1 _ fun σ' ρ' Hb' H' fp' sm W' p => p σ' Hb' H' fp' _ W' (h2.mono sm.b) Q (q.mono0 sm)⟩
theorem eg_tup {n : Nat} {gs : TGs} {N : List Sl → Prop} (hn : xs.length = n) (h : ExGs C gs xs ρ N) : ExG C (gTup C.K n gs) (.tuple xs) ρ N := fun σ Hb H fp v W hv Q q => by
  cases hv with
  | tup hs ha =>
    exact ⟨_, _, rfl, same_sqt W.same hs, ha.length.trans hn, h σ Hb H fp _ W ha Q q⟩
theorem ex_asgG (h : Ev C te ρ fun s ρ1 => ∃ x, s = .d x ∧ ExG C g x ρ1 P.nx) : Ex C (tAsg te g) ρ P := fun σ Hb H fp E W q =>
  h σ Hb H fp W _ fun v s ρ1 Hb1 H1 fp1 fv sm G ⟨x, e, p⟩ => by
    subst e
    exact p σ Hb1 H1 fp1 v G.env G.data _ (q.nx.mono sm vw_in)
/-- a, b = x, y -/
theorem ex_par {i j : Nat} (h : EvA C tA ρ fun xs ρ1 => ∃ x y, xs = [x, y] ∧ P.nx ((ρ1.set i (.d x)).set j (.d y))) : Ex C (tPar i j tA) ρ P := fun σ Hb H fp E W q =>
  h σ Hb H fp W _ fun vs xs ρ1 Hb1 H1 fp1 sm W1 hv ⟨x, y, e, p⟩ => by
    subst e
    cases hv with
    | cons h1 h2 =>
      cases h2 with
      | cons h2 h3 =>
        cases h3
        exact ⟨_, _, rfl, q.nx _ _ Hb1 H1 _ (sm.to fun a ha => in_sto a (in_sto a ha)) ((W1.sto h1 i).sto h2 j) p⟩
/-! loops -/
theorem ex_while (Inv : Nat → List Sl → Prop) (h0 : ∃ m, Inv m ρ)
    (hs : ∀ m ρ', Inv m ρ' → EvT C t ρ' fun b ρ2 => if b = true then Ex C u ρ2 { nx := fun ρ3 => ∃ m', m' < m ∧ Inv m' ρ3, rt := P.rt, bk := P.nx, ct := fun ρ3 => ∃ m', m' < m ∧ Inv m' ρ3 } else P.nx ρ2) : Ex C (tWhile t u) ρ P := fun σ Hb H fp E W q => by
  refine ⟨fun m σ' H' => ∃ ρ' Hb' fp', Fr (In fp) Hb H Hb' H' (In fp') ∧ EnvW C σ' ρ' Hb' H' fp' ∧ Inv m ρ', ⟨h0.choose, ρ, Hb, fp, .refl, W, h0.choose_spec⟩, ?_⟩
  rintro m σ1 H1 ⟨ρ1, Hb1, fp1, sm1, W1, i1⟩
  refine hs m ρ1 i1 σ1 Hb1 H1 fp1 W1 _ fun b ρ2 Hb2 H2 fp2 sm2 W2 p => ?_
  have sm := sm1.etrans sm2
  cases b with
  | true =>
    refine ⟨fun σ3 H3 => ∃ ρ3 Hb3 fp3 m', m' < m ∧ Fr (In fp) Hb H Hb3 H3 (In fp3) ∧ EnvW C σ3 ρ3 Hb3 H3 fp3 ∧ Inv m' ρ3, fun σ3 H3 ⟨ρ3, Hb3, fp3, m', hm, sm3, W3, i3⟩ => ⟨m', hm, ρ3, Hb3, fp3, sm3, W3, i3⟩, ?_⟩
    exact p σ1 Hb2 H2 fp2 _ W2 ⟨fun σ3 ρ3 Hb3 H3 fp3 sm3 W3 ⟨m', hm, i3⟩ => ⟨ρ3, Hb3, fp3, m', hm, sm.etrans sm3, W3, i3⟩, q.rt.mono0 sm, q.nx.mono0 sm, fun σ3 ρ3 Hb3 H3 fp3 sm3 W3 ⟨m', hm, i3⟩ => ⟨ρ3, Hb3, fp3, m', hm, sm.etrans sm3, W3, i3⟩⟩
  | false => exact q.nx σ1 ρ2 Hb2 H2 fp2 sm W2 p
/-- what a for over n items asks, it its items -/
structure ForI (C : Cc) (g : TG) (u : TS) (P : Po) (n : Nat) (item : Nat → D) (ρ : List Sl) : Prop where
  ex : ∃ Inv : Nat → List Sl → Prop, Inv 0 ρ ∧ (∀ i ρ', i < n → Inv i ρ' → ExG C g (item i) ρ' fun ρ2 => Ex C u ρ2 { nx := Inv (i + 1), rt := P.rt, bk := P.nx, ct := Inv (i + 1) }) ∧ ∀ ρ', Inv n ρ' → P.nx ρ'
/-- what an iterator gives: the items, one after another; its own objects are new -/
def Gives (K : PySem.W.Frag) (J : It) (n : Nat) (item : Nat → D) (Hb : Hp) : Prop :=
  (∀ Hb' H', Same Hb Hb' → Same Hb' H' → J.stop n H') ∧ ∀ i Hb' H', i < n → Same Hb Hb' → Same Hb' H' → J.go i H' ∧ ∀ x H2, J.yld i H' x H2 → ∃ Hb2, Step [] Hb' H' Hb2 H2 ∧ Rp K Hb2 x (item i)
theorem for_core {Hb H : Hp} {σ : St} {fp : Nat → List Addr} {E : Ends} {n : Nat} {item : Nat → D} {J : It} (W : EnvW C σ ρ Hb H fp) (q : Ends1 C fp Hb H P E) (h : ForI C g u P n item ρ) (G : Gives C.K J n item Hb) :
    ∃ Wi : Nat → Nat → St → Hp → Prop, (∃ m, Wi 0 m σ H) ∧ ∀ i m σ H, Wi i m σ H →
      (J.stop i H ∧ E.nx σ H) ∨ (J.go i H ∧ ∃ N : St → Hp → Prop, (∀ σ' H', N σ' H' → ∃ m', m' < m ∧ Wi (i + 1) m' σ' H') ∧ ∀ x H', J.yld i H x H' → g x σ H' fun σ2 H2 => u { E with nx := N, ct := N, bk := E.nx } σ2 H2) := by
  obtain ⟨Inv, i0, hs, hd⟩ := h.ex
  obtain ⟨hstop, hgo⟩ := G
  refine ⟨fun i m σ' H' => m + i = n ∧ ∃ ρ' Hb' fp', Fr (In fp) Hb H Hb' H' (In fp') ∧ EnvW C σ' ρ' Hb' H' fp' ∧ Inv i ρ', ⟨n, rfl, ρ, Hb, fp, .refl, W, i0⟩, ?_⟩
  rintro i m σ1 H1 ⟨hm, ρ1, Hb1, fp1, sm1, W1, i1⟩
  by_cases hi : i < n
  · obtain ⟨hg, hy⟩ := hgo i Hb1 H1 hi sm1.b W1.same
    refine .inr ⟨hg, fun σ3 H3 => ∃ ρ3 Hb3 fp3, Fr (In fp) Hb H Hb3 H3 (In fp3) ∧ EnvW C σ3 ρ3 Hb3 H3 fp3 ∧ Inv (i + 1) ρ3, fun σ3 H3 ⟨ρ3, Hb3, fp3, sm3, W3, i3⟩ => ⟨m - 1, by omega, by omega, ρ3, Hb3, fp3, sm3, W3, i3⟩, fun x H2 y => ?_⟩
    obtain ⟨Hb2, t2, hx⟩ := hy x H2 y
    have W2 := W1.step t2
    have sm2 : Fr (In fp) Hb H Hb2 H2 (In fp1) := sm1.etrans (.of t2)
    refine hs i ρ1 hi i1 σ1 Hb2 H2 fp1 x W2 hx _ fun σ' ρ' Hb' H' fp' sm' W' p => ?_
    have sm := sm2.etrans sm'
    exact p σ' Hb' H' fp' _ W' ⟨fun σ3 ρ3 Hb3 H3 fp3 sm3 W3 i3 => ⟨ρ3, Hb3, fp3, sm.etrans sm3, W3, i3⟩, q.rt.mono0 sm, q.nx.mono0 sm, fun σ3 ρ3 Hb3 H3 fp3 sm3 W3 i3 => ⟨ρ3, Hb3, fp3, sm.etrans sm3, W3, i3⟩⟩
  · have e : i = n := by omega
    subst e
    exact .inl ⟨hstop Hb1 H1 sm1.b W1.same, q.nx σ1 ρ1 Hb1 H1 fp1 sm1 W1 (hd ρ1 i1)⟩
/-- an iterable: what it gives -/
def EvI (C : Cc) (wi : TI) (ρ : List Sl) (P : Nat → (Nat → D) → List Sl → Prop) : Prop := ∀ σ Hb H fp, EnvW C σ ρ Hb H fp → ∀ R : It → Hp → Prop,
  (∀ J n item ρ' Hb' H' fp', Fr (In fp) Hb H Hb' H' (In fp') → EnvW C σ ρ' Hb' H' fp' → Gives C.K J n item Hb' → P n item ρ' → R J H') → wi σ H R
theorem ex_for {wi : TI} (h : EvI C wi ρ fun n item ρ1 => ForI C g u P n item ρ1) : Ex C (tFor wi g u) ρ P := fun σ Hb H fp E W q =>
  h σ Hb H fp W _ fun J n item ρ1 Hb1 H1 fp1 sm W1 G p => for_core W1 (q.mono0 sm) p G
/-- the item of a list of data -/
def itemOf (xs : List D) (i : Nat) : D := xs.getD i .none
theorem itemOf_eq {xs : List D} {i : Nat} (h : i < xs.length) : xs[i]? = some (itemOf xs i) := by
  unfold itemOf
  rw [List.getD_eq_getElem?_getD, List.getElem?_eq_getElem h]
  rfl
theorem itemOf_some {xs : List D} {i : Nat} {x : D} (h : xs[i]? = some x) : itemOf xs i = x := by
  unfold itemOf
  rw [List.getD_eq_getElem?_getD, h]
  rfl
variable {PI : Nat → (Nat → D) → List Sl → Prop}
theorem ei_list (h : Ev C te ρ fun s ρ1 => ∃ ds, s = .d (.list ds) ∧ PI ds.length (itemOf ds) ρ1) : EvI C (iList C.K te) ρ PI := fun σ Hb H fp W R q =>
  h σ Hb H fp W _ fun v s ρ1 Hb1 H1 fp1 fv sm G ⟨ds, e, p⟩ => by
    subst e
    have hv := G.data
    cases hv with
    | @lst a vs _ hs ha =>
      refine ⟨a, rfl, ⟨vs, .of (G.env.same _ _ hs)⟩, q _ ds.length (itemOf ds) ρ1 Hb1 H1 fp1 (sm.to vw_in) G.env ⟨fun Hb' H' s1 s2 => ⟨vs, .of (s2 _ _ (s1 _ _ hs)), by rw [ha.length]; exact Nat.le_refl _⟩, fun i Hb' H' hi s1 s2 => ?_⟩ p⟩
      obtain ⟨x, hx, hr⟩ := ha.get (itemOf_eq hi)
      have hq : SqL C.K H' a vs := .of (s2 _ _ (s1 _ _ hs))
      refine ⟨⟨vs, x, hq, hx⟩, fun y H2 ⟨e1, e2⟩ => ?_⟩
      subst e1
      have := e2 vs hq
      rw [hx] at this; cases this
      exact ⟨Hb', Step.refl s2, hr.mono s1⟩
theorem ei_tup (h : Ev C te ρ fun s ρ1 => ∃ ds, s = .d (.tuple ds) ∧ PI ds.length (itemOf ds) ρ1) : EvI C (iTup C.K te) ρ PI := fun σ Hb H fp W R q =>
  h σ Hb H fp W _ fun v s ρ1 Hb1 H1 fp1 fv sm G ⟨ds, e, p⟩ => by
    subst e
    have hv := G.data
    cases hv with
    | @tup a vs _ hs ha =>
      refine ⟨a, rfl, ⟨vs, same_sqt G.env.same hs⟩, q _ ds.length (itemOf ds) ρ1 Hb1 H1 fp1 (sm.to vw_in) G.env ⟨fun Hb' H' s1 s2 => ⟨vs, same_sqt (s1.trans s2) hs, by rw [ha.length]; exact Nat.le_refl _⟩, fun i Hb' H' hi s1 s2 => ?_⟩ p⟩
      obtain ⟨x, hx, hr⟩ := ha.get (itemOf_eq hi)
      have hq : SqT C.K H' a vs := same_sqt (s1.trans s2) hs
      refine ⟨⟨vs, x, hq, hx⟩, fun y H2 ⟨e1, e2⟩ => ?_⟩
      subst e1
      have := e2 vs hq
      rw [hx] at this; cases this
      exact ⟨Hb', Step.refl s2, hr.mono s1⟩
theorem ei_rng1 (h : EvA C tA ρ fun xs ρ1 => ∃ j : Int, xs = [.int j] ∧ -(2 ^ 62) ≤ j ∧ j < 2 ^ 62 ∧ PI j.toNat (fun i => .int (i : Nat)) ρ1) : EvI C (iRng1 tA) ρ PI := fun σ Hb H fp W R q =>
  h σ Hb H fp W _ fun vs xs ρ1 Hb1 H1 fp1 sm W1 hv ⟨j, e, h1, h2, p⟩ => by
    subst e
    cases hv with
    | cons hj hn =>
      cases hn; cases hj
      refine ⟨j, rfl, h1, h2, q _ j.toNat (fun i => .int (i : Nat)) ρ1 Hb1 H1 fp1 sm W1 ⟨fun Hb' H' s1 s2 => Nat.le_refl _, fun i Hb' H' hi s1 s2 => ⟨hi, fun y H2 ⟨e1, e2⟩ => ?_⟩⟩ p⟩
      subst e1; subst e2
      refine ⟨Hb', Step.refl s2, ?_⟩
      rw [Int.zero_add]
      exact .int _
theorem ei_rng2 (h : EvA C tA ρ fun xs ρ1 => ∃ i j : Int, xs = [.int i, .int j] ∧ (-(2 ^ 62) ≤ i ∧ i < 2 ^ 62 ∧ -(2 ^ 62) ≤ j ∧ j < 2 ^ 62) ∧ PI (j - i).toNat (fun k => .int (i + (k : Nat))) ρ1) : EvI C (iRng2 tA) ρ PI := fun σ Hb H fp W R q =>
  h σ Hb H fp W _ fun vs xs ρ1 Hb1 H1 fp1 sm W1 hv ⟨i, j, e, h1, p⟩ => by
    subst e
    cases hv with
    | cons hi hn =>
      cases hn with
      | cons hj hn =>
        cases hn; cases hi; cases hj
        refine ⟨i, j, rfl, h1, q _ (j - i).toNat (fun k => .int (i + (k : Nat))) ρ1 Hb1 H1 fp1 sm W1 ⟨fun Hb' H' s1 s2 => Nat.le_refl _, fun k Hb' H' hk s1 s2 => ⟨hk, fun y H2 ⟨e1, e2⟩ => ?_⟩⟩ p⟩
        subst e1; subst e2
        exact ⟨Hb', Step.refl s2, .int _⟩
theorem ei_enum (h : EvA C tA ρ fun xs ρ1 => ∃ ds, xs = [.list ds] ∧ PI ds.length (fun i => .tuple [.int (i : Nat), itemOf ds i]) ρ1) : EvI C (iEnum C.K tA) ρ PI := fun σ Hb H fp W R q =>
  h σ Hb H fp W _ fun vs xs ρ1 Hb1 H1 fp1 sm W1 hv ⟨ds, e, p⟩ => by
    subst e
    cases hv with
    | cons hd hn =>
      cases hn
      cases hd with
      | @lst a us _ hs ha =>
        refine ⟨a, us, rfl, .of (W1.same _ _ hs), q _ ds.length _ ρ1 Hb1 H1 fp1 sm W1 ⟨fun Hb' H' s1 s2 => ⟨us, .of (s2 _ _ (s1 _ _ hs)), by rw [ha.length]; exact Nat.le_refl _⟩, fun i Hb' H' hi s1 s2 => ?_⟩ p⟩
        obtain ⟨x, hx, hr⟩ := ha.get (itemOf_eq hi)
        have hq : SqL C.K H' a us := .of (s2 _ _ (s1 _ _ hs))
        refine ⟨⟨us, x, hq, hx⟩, fun y H2 ⟨T, x', e1, hT, e2, e3⟩ => ?_⟩
        subst e1; subst e2
        have := e3 us hq
        rw [hx] at this; cases this
        have t := Step.newF (M := []) (o := .tup [.int (i : Nat), x]) s2 hT
        exact ⟨_, t, .tup (.of upd_same) (.cons (.int _) (.cons ((hr.mono s1).mono t.b) .nil))⟩
def signsOf (x : Str) (i : Nat) : D := .str ⟨#[x.cps.getD i 0]⟩
theorem ei_str (h : Ev C te ρ fun s ρ1 => ∃ x, s = .d (.str x) ∧ PI x.cps.size (signsOf x) ρ1) : EvI C (iStr te) ρ PI := fun σ Hb H fp W R q =>
  h σ Hb H fp W _ fun v s ρ1 Hb1 H1 fp1 fv sm G ⟨x, e, p⟩ => by
    subst e
    have hv := G.data
    cases hv
    refine ⟨x, rfl, q _ x.cps.size (signsOf x) ρ1 Hb1 H1 fp1 (sm.to vw_in) G.env ⟨fun Hb' H' s1 s2 => Nat.le_refl _, fun i Hb' H' hi s1 s2 => ⟨hi, fun y H2 ⟨e1, c, e2, e3⟩ => ?_⟩⟩ p⟩
    subst e1; subst e3
    refine ⟨Hb', Step.refl s2, ?_⟩
    have : signsOf x i = .str ⟨#[c]⟩ := by
      unfold signsOf
      rw [Array.getD_eq_getD_getElem?, e2]
      rfl
    rw [this]
    exact .str _
end
end DL
set_option Elab.async false
set_option linter.all false
set_option maxRecDepth 100000
set_option maxHeartbeats 4000000
/-! DLc: list comprehensions over data. -/
namespace DL
open PySem PySem.Spec L2

/-! ### slots forgotten -/
def wipeS (ρ : List Sl) : List Nat → List Sl
  | [] => ρ
  | v :: vs => (wipeS ρ vs).set v .no
theorem wipe_get (σ : St) : ∀ (vs : List Nat) (i : Nat), (wipe σ vs)[i]? = if i ∈ vs then σ[i]?.map (fun _ => none) else σ[i]?
  | [], i => by rw [if_neg (by simp)]; rfl
  | v :: vs, i => by
    show ((wipe σ vs).set v none)[i]? = _
    by_cases hi : v = i
    · subst hi
      rw [if_pos List.mem_cons_self]
      by_cases hv : v < σ.length
      · rw [List.getElem?_set_self (by rw [wipe_length]; exact hv), List.getElem?_eq_getElem hv]
        rfl
      · rw [List.getElem?_eq_none (by rw [List.length_set, wipe_length]; omega), List.getElem?_eq_none (by omega)]
        rfl
    · rw [List.getElem?_set_ne hi, wipe_get σ vs i]
      by_cases h : i ∈ vs
      · rw [if_pos h, if_pos (List.mem_cons_of_mem _ h)]
      · rw [if_neg h, if_neg (fun z => (List.mem_cons.mp z).elim (fun e => hi e.symm) h)]
theorem wipe_eq {σ σ' : St} {vs : List Nat} (hl : σ'.length = σ.length) (h : ∀ i, i ∉ vs → σ'[i]? = σ[i]?) : wipe σ' vs = wipe σ vs := by
  refine List.ext_getElem? fun i => ?_
  rw [wipe_get, wipe_get]
  by_cases hi : i ∈ vs
  · rw [if_pos hi, if_pos hi]
    by_cases hv : i < σ.length
    · rw [List.getElem?_eq_getElem hv, List.getElem?_eq_getElem (by omega)]
      rfl
    · rw [List.getElem?_eq_none (by omega), List.getElem?_eq_none (by omega)]
  · rw [if_neg hi, if_neg hi, h i hi]
theorem wipe_off {σ : St} {vs : List Nat} {i : Nat} (h : i ∉ vs) : (wipe σ vs)[i]? = σ[i]? := by rw [wipe_get, if_neg h]
theorem wipeS_length (ρ : List Sl) : ∀ vs : List Nat, (wipeS ρ vs).length = ρ.length
  | [] => rfl
  | v :: vs => by unfold wipeS; rw [List.length_set, wipeS_length ρ vs]
theorem wipeS_off {ρ : List Sl} {i : Nat} : ∀ {vs : List Nat}, i ∉ vs → (wipeS ρ vs)[i]? = ρ[i]?
  | [], _ => rfl
  | v :: vs, h => by
    show ((wipeS ρ vs).set v .no)[i]? = _
    rw [List.getElem?_set_ne (fun e : v = i => h (by rw [e]; exact List.mem_cons_self)), wipeS_off (fun z => h (List.mem_cons_of_mem _ z))]
theorem wipeS_on {ρ : List Sl} {i : Nat} {s : Sl} : ∀ {vs : List Nat}, i ∈ vs → (wipeS ρ vs)[i]? = some s → s = .no
  | [], h, _ => by cases h
  | v :: vs, h, e => by
    have e : ((wipeS ρ vs).set v .no)[i]? = some s := e
    by_cases hi : v = i
    · subst hi
      have := (List.getElem?_eq_some_iff.mp e).1
      rw [List.length_set] at this
      rw [List.getElem?_set_self this] at e
      exact (Option.some.inj e).symm
    · rw [List.getElem?_set_ne hi] at e
      exact wipeS_on ((List.mem_cons.mp h).elim (fun z => absurd z.symm hi) id) e
section
variable {C : Cc} {σ σ2 : St} {ρ ρ2 : List Sl} {Hb H Hb' H' : Hp} {fp : Nat → List Addr}
theorem EnvW.wiped (W : EnvW C σ ρ Hb H fp) (vs : List Nat) : EnvW C (wipe σ vs) (wipeS ρ vs) Hb H fp where
  st := W.st
  len := by rw [wipe_length, wipeS_length]; exact W.len
  sl := fun i v s h1 h2 => by
    by_cases hi : i ∈ vs
    · rw [wipeS_on hi h2]; trivial
    · rw [wipe_off hi] at h1; rw [wipeS_off hi] at h2
      exact W.sl i v s h1 h2
  dj := W.dj
  fr := W.fr
/-- back from a block: the block's own slots forgotten -/
theorem EnvW.unwiped (W : EnvW C σ2 ρ2 Hb H fp) {vs : List Nat} (e : wipe σ2 vs = wipe σ vs) : EnvW C σ (wipeS ρ2 vs) Hb H fp where
  st := W.st
  len := by
    have := congrArg List.length e
    rw [wipe_length, wipe_length] at this
    rw [wipeS_length, ← W.len, this]
  sl := fun i v s h1 h2 => by
    by_cases hi : i ∈ vs
    · rw [wipeS_on hi h2]; trivial
    · rw [wipeS_off hi] at h2
      have : σ2[i]? = σ[i]? := by
        have q := congrArg (fun l : St => l[i]?) e
        simpa only [wipe_off hi] using q
      exact W.sl i v s (this.trans h1) h2
  dj := W.dj
  fr := W.fr
/-- an object that nothing knows is written -/
theorem EnvW.wrOut {p : Addr} {o : HO} (W : EnvW C σ ρ Hb H fp) (h1 : Hb p = none) (h2 : ¬ In fp p) (h3 : C.H p = none) : EnvW C σ ρ Hb (upd H p o) fp where
  st := W.st.trans (Step.wr (M := [p]) W.same h1 (List.mem_singleton.mpr rfl)) fun x hx => .inr (by rw [List.mem_singleton.mp hx]; exact h3)
  len := W.len
  sl := fun i v s e1 e2 => (W.sl i v s e1 e2).mono (Same.refl _) fun a ha => upd_ne fun z => h2 ⟨i, z ▸ ha⟩
  dj := W.dj
  fr := fun i a ha => by
    obtain ⟨f1, f2, f3⟩ := W.fr i a ha
    exact ⟨f1, by rw [upd_ne fun z : a = p => h2 ⟨i, by rw [← z]; exact ha⟩]; exact f2, f3⟩
/-- an object that nothing owns is frozen -/
theorem EnvW.freeze {p : Addr} {o : HO} (W : EnvW C σ ρ Hb H fp) (h1 : Hb p = none) (h2 : ¬ In fp p) (h3 : C.H p = none) (h4 : H p = some o) : EnvW C σ ρ (upd Hb p o) H fp := by
  have sb : Same Hb (upd Hb p o) := fun x u e => by rw [upd_ne (ne_of_none e h1)]; exact e
  refine ⟨⟨W.st.b.trans sb, fun x u e => ?_, W.st.k, fun x hx => ?_, W.st.t⟩, W.len, fun i v s e1 e2 => (W.sl i v s e1 e2).mono sb fun a _ => rfl, W.dj, fun i a ha => ?_⟩
  · by_cases hx : x = p
    · subst hx; rw [upd_same] at e; cases e; exact h4
    · rw [upd_ne hx] at e; exact W.same x u e
  · rw [upd_ne (fun z => hx (by rw [z]; exact h3))]; exact W.st.f x hx
  · obtain ⟨f1, f2, f3⟩ := W.fr i a ha
    exact ⟨by rw [upd_ne fun z : a = p => h2 ⟨i, by rw [← z]; exact ha⟩]; exact f1, f2, f3⟩
theorem EnvW.old {p : Addr} (W : EnvW C σ ρ Hb H fp) (h : H p = none) : C.H p = none ∧ Hb p = none ∧ ¬ In fp p := by
  refine ⟨?_, ?_, fun ⟨i, hi⟩ => (W.fr i p hi).2.1 h⟩
  · cases e : C.H p with
    | none => rfl
    | some o => exact absurd h (W.st.t p (by rw [e]; exact fun z => nomatch z))
  · cases e : Hb p with
    | none => rfl
    | some o => rw [W.same p o e] at h; cases h
end
theorem Fr.wrNew {F F' : Addr → Prop} {Hb H Hb' H' : Hp} {p : Addr} {o : HO} (a : Fr F Hb H Hb' H' F') (h : H p = none) : Fr F Hb H Hb' (upd H' p o) F' :=
  ⟨a.b, fun x u hx e => by rw [upd_ne (ne_of_none e h)]; exact a.k x u hx e, a.f, a.n⟩
theorem Fr.freeze {F F' : Addr → Prop} {Hb H Hb' H' : Hp} {p : Addr} {o : HO} (a : Fr F Hb H Hb' H' F') (h : H p = none) (hb : Hb' p = none) : Fr F Hb H (upd Hb' p o) H' F' :=
  ⟨fun x u e => by rw [upd_ne (ne_of_none (a.b x u e) hb)]; exact a.b x u e, a.k, fun x hx e => by rw [upd_ne (fun z => e (by rw [z]; exact h))]; exact a.f x hx e, a.n⟩

/-! ### targets of a comprehension: which slots they set -/
def ExGp (C : Cc) (g : TG) (vs : List Nat) (x : D) (ρ ρ2 : List Sl) : Prop := ∀ σ Hb H fp v, EnvW C σ ρ Hb H fp → Rp C.K Hb v x → ∀ Q : St → Hp → Prop,
  (∀ σ' fp', EnvW C σ' ρ2 Hb H fp' → (∀ a, In fp' a → In fp a) → σ'.length = σ.length → (∀ i, i ∉ vs → σ'[i]? = σ[i]?) → Q σ' H) → g v σ H Q
def ExGps (C : Cc) (g : TGs) (vs : List Nat) (xs : List D) (ρ ρ2 : List Sl) : Prop := ∀ σ Hb H fp us, EnvW C σ ρ Hb H fp → RpAll C.K Hb us xs → ∀ Q : St → Hp → Prop,
  (∀ σ' fp', EnvW C σ' ρ2 Hb H fp' → (∀ a, In fp' a → In fp a) → σ'.length = σ.length → (∀ i, i ∉ vs → σ'[i]? = σ[i]?) → Q σ' H) → g us σ H Q
section
variable {C : Cc} {ρ ρ1 ρ2 : List Sl} {vs : List Nat} {x : D} {xs : List D} {g : TG} {gs : TGs}
theorem gp_name {j : Nat} (hj : j ∈ vs) : ExGp C (gName j) vs x ρ (ρ.set j (.d x)) := fun σ Hb H fp v W h Q q =>
  q _ _ (W.sto h j) (fun a ha => in_sto a ha) List.length_set fun i hi => List.getElem?_set_ne fun e : j = i => hi (by rw [← e]; exact hj)
theorem gps_nil : ExGps C gNil vs [] ρ ρ := fun σ Hb H fp us W h Q q => by
  cases h
  exact ⟨rfl, q σ fp W (fun _ h => h) rfl fun _ _ => rfl⟩
theorem gps_cons (h1 : ExGp C g vs x ρ ρ1) (h2 : ExGps C gs vs xs ρ1 ρ2) : ExGps C (gCons g gs) vs (x :: xs) ρ ρ2 := fun σ Hb H fp us W h Q q => by
  cases h with
  | cons r rr => exact ⟨_, _, rfl, h1 σ Hb H fp _ W r _ fun σ' fp' W' f' l' e' => h2 σ' Hb H fp' _ W' rr Q fun σ2 fp2 W2 f2 l2 e2 => q σ2 fp2 W2 (fun a ha => f' a (f2 a ha)) (l2.trans l') fun i hi => (e2 i hi).trans (e' i hi)⟩
theorem gp_tup {n : Nat} (hn : xs.length = n) (h : ExGps C gs vs xs ρ ρ2) : ExGp C (gTup C.K n gs) vs (.tuple xs) ρ ρ2 := fun σ Hb H fp v W hv Q q => by
  cases hv with
  | tup hs ha => exact ⟨_, _, rfl, same_sqt W.same hs, ha.length.trans hn, h σ Hb H fp _ W ha Q q⟩
end

/-! ### iterables, purely -/
def PEvI (C : Cc) (wi : TI) (ρ : List Sl) (n : Nat) (item : Nat → D) : Prop := ∀ σ Hb H fp, EnvW C σ ρ Hb H fp → ∀ R : It → Hp → Prop,
  (∀ J Hb' H', Step [] Hb H Hb' H' → Gives C.K J n item Hb' → R J H') → wi σ H R
section
variable {C : Cc} {ρ : List Sl} {te : TE} {tA : TA} {ds : List D}
theorem ei_p {wi : TI} {n : Nat} {item : Nat → D} {PI : Nat → (Nat → D) → List Sl → Prop} (h : PEvI C wi ρ n item) (p : PI n item ρ) : EvI C wi ρ PI := fun σ Hb H fp W R q =>
  h σ Hb H fp W R fun J Hb' H' t G => q J n item ρ Hb' H' fp (.of t) (W.step t) G p
theorem gives_list {K : PySem.W.Frag} {Hb : Hp} {a : Addr} {vs : List V} (hs : Hb a = some (.lst vs)) (ha : RpAll K Hb vs ds) : Gives K (Itl K a) ds.length (itemOf ds) Hb :=
  ⟨fun Hb' H' s1 s2 => ⟨vs, .of (s2 _ _ (s1 _ _ hs)), by rw [ha.length]; exact Nat.le_refl _⟩, fun i Hb' H' hi s1 s2 => by
    obtain ⟨x, hx, hr⟩ := ha.get (itemOf_eq hi)
    have hq : SqL K H' a vs := .of (s2 _ _ (s1 _ _ hs))
    refine ⟨⟨vs, x, hq, hx⟩, fun y H2 ⟨e1, e2⟩ => ?_⟩
    subst e1
    have := e2 vs hq
    rw [hx] at this; cases this
    exact ⟨Hb', Step.refl s2, hr.mono s1⟩⟩
theorem gives_tup {K : PySem.W.Frag} {Hb : Hp} {a : Addr} {vs : List V} (hs : SqT K Hb a vs) (ha : RpAll K Hb vs ds) : Gives K (Itt K a) ds.length (itemOf ds) Hb :=
  ⟨fun Hb' H' s1 s2 => ⟨vs, same_sqt (s1.trans s2) hs, by rw [ha.length]; exact Nat.le_refl _⟩, fun i Hb' H' hi s1 s2 => by
    obtain ⟨x, hx, hr⟩ := ha.get (itemOf_eq hi)
    have hq : SqT K H' a vs := same_sqt (s1.trans s2) hs
    refine ⟨⟨vs, x, hq, hx⟩, fun y H2 ⟨e1, e2⟩ => ?_⟩
    subst e1
    have := e2 vs hq
    rw [hx] at this; cases this
    exact ⟨Hb', Step.refl s2, hr.mono s1⟩⟩
theorem pi_l (h : PD C te ρ (.list ds)) : PEvI C (iList C.K te) ρ ds.length (itemOf ds) := fun σ Hb H fp W R q =>
  h σ Hb H fp W _ fun v Hb1 H1 _ t ⟨_, e, hv⟩ _ => by
    cases e
    cases hv with
    | lst hs ha => exact ⟨_, rfl, ⟨_, .of (t.s _ _ hs)⟩, q _ Hb1 H1 t (gives_list hs ha)⟩
theorem pi_t (h : PD C te ρ (.tuple ds)) : PEvI C (iTup C.K te) ρ ds.length (itemOf ds) := fun σ Hb H fp W R q =>
  h σ Hb H fp W _ fun v Hb1 H1 _ t ⟨_, e, hv⟩ _ => by
    cases e
    cases hv with
    | tup hs ha => exact ⟨_, rfl, ⟨_, same_sqt t.s hs⟩, q _ Hb1 H1 t (gives_tup hs ha)⟩
theorem pi_r1 {j : Int} (h : PEvA C tA ρ [.int j]) (h1 : -(2 ^ 62) ≤ j ∧ j < 2 ^ 62) : PEvI C (iRng1 tA) ρ j.toNat (fun i => .int (i : Nat)) := fun σ Hb H fp W R q =>
  h σ Hb H fp W _ fun vs Hb1 H1 t hv => by
    cases hv with
    | cons hj hn =>
      cases hn; cases hj
      refine ⟨j, rfl, h1.1, h1.2, q _ Hb1 H1 t ⟨fun Hb' H' s1 s2 => Nat.le_refl _, fun i Hb' H' hi s1 s2 => ⟨hi, fun y H2 ⟨e1, e2⟩ => ?_⟩⟩⟩
      subst e1; subst e2
      refine ⟨Hb', Step.refl s2, ?_⟩
      rw [Int.zero_add]
      exact .int _
theorem pi_r2 {i j : Int} (h : PEvA C tA ρ [.int i, .int j]) (h1 : -(2 ^ 62) ≤ i ∧ i < 2 ^ 62 ∧ -(2 ^ 62) ≤ j ∧ j < 2 ^ 62) : PEvI C (iRng2 tA) ρ (j - i).toNat (fun k => .int (i + (k : Nat))) := fun σ Hb H fp W R q =>
  h σ Hb H fp W _ fun vs Hb1 H1 t hv => by
    cases hv with
    | cons hi hn =>
      cases hn with
      | cons hj hn =>
        cases hn; cases hi; cases hj
        refine ⟨i, j, rfl, h1, q _ Hb1 H1 t ⟨fun Hb' H' s1 s2 => Nat.le_refl _, fun k Hb' H' hk s1 s2 => ⟨hk, fun y H2 ⟨e1, e2⟩ => ?_⟩⟩⟩
        subst e1; subst e2
        exact ⟨Hb', Step.refl s2, .int _⟩
theorem pi_enu (h : PEvA C tA ρ [.list ds]) : PEvI C (iEnum C.K tA) ρ ds.length (fun i => .tuple [.int (i : Nat), itemOf ds i]) := fun σ Hb H fp W R q =>
  h σ Hb H fp W _ fun vs Hb1 H1 t hv => by
    cases hv with
    | cons hd hn =>
      cases hn
      cases hd with
      | @lst a us _ hs ha =>
        refine ⟨a, us, rfl, .of (t.s _ _ hs), q _ Hb1 H1 t ⟨fun Hb' H' s1 s2 => ⟨us, .of (s2 _ _ (s1 _ _ hs)), by rw [ha.length]; exact Nat.le_refl _⟩, fun i Hb' H' hi s1 s2 => ?_⟩⟩
        obtain ⟨x, hx, hr⟩ := ha.get (itemOf_eq hi)
        have hq : SqL C.K H' a us := .of (s2 _ _ (s1 _ _ hs))
        refine ⟨⟨us, x, hq, hx⟩, fun y H2 ⟨T, x', e1, hT, e2, e3⟩ => ?_⟩
        subst e1; subst e2
        have := e3 us hq
        rw [hx] at this; cases this
        have t := Step.newF (M := []) (o := .tup [.int (i : Nat), x]) s2 hT
        exact ⟨_, t, .tup (.of upd_same) (.cons (.int _) (.cons ((hr.mono s1).mono t.b) .nil))⟩
end

/-! ### the comprehension -/
section
variable {C : Cc} {ρ : List Sl} {s : Sl} {te : TE} {tt : TT} {wi : TI} {g : TG} {vs : List Nat} {n : Nat} {item : Nat → D}
def made (n : Nat) (f : Nat → Bool) (v : Nat → D) : List D := ((List.range n).filter f).map v
theorem made_succ {n : Nat} {f : Nat → Bool} {v : Nat → D} : made (n + 1) f v = made n f v ++ (if f n = true then [v n] else []) := by
  unfold made
  rw [List.range_succ, List.filter_append, List.map_append]
  congr 1
  cases h : f n with
  | true => rw [if_pos rfl, List.filter_cons, if_pos h]; rfl
  | false => rw [if_neg Bool.false_ne_true, List.filter_cons, if_neg (by rw [h]; exact Bool.false_ne_true)]; rfl
theorem made_len (n : Nat) (f : Nat → Bool) (v : Nat → D) : (made n f v).length ≤ n := by
  unfold made
  rw [List.length_map]
  have h := List.length_filter_le f (List.range n)
  rw [List.length_range] at h
  exact h
theorem range_items {α : Type} (ds : List D) (f : D → α) : (List.range ds.length).map (fun i => f (itemOf ds i)) = ds.map f := by
  refine List.ext_getElem (by rw [List.length_map, List.length_map, List.length_range]) fun i h1 h2 => ?_
  rw [List.length_map] at h2
  rw [List.getElem_map, List.getElem_map, List.getElem_range]
  have := itemOf_eq h2
  rw [List.getElem?_eq_getElem h2] at this
  rw [Option.some.inj this]
theorem made_items (ds : List D) (f : D → Bool) (v : D → D) : made ds.length (fun i => f (itemOf ds i)) (fun i => v (itemOf ds i)) = (ds.filter f).map v := by
  have h := range_items ds id
  have e : made ds.length (fun i => f (itemOf ds i)) (fun i => v (itemOf ds i)) = (((List.range ds.length).map (fun i => id (itemOf ds i))).filter f).map v := by
    unfold made
    rw [List.filter_map, List.map_map]
    rfl
  rw [e, h, List.map_id]
theorem made_all (n : Nat) (v : Nat → D) : made n (fun _ => true) v = (List.range n).map v := by
  unfold made
  rw [List.filter_eq_self.mpr fun _ _ => rfl]
theorem made_map (ds : List D) (v : D → D) : made ds.length (fun _ => true) (fun i => v (itemOf ds i)) = ds.map v := by rw [made_all, range_items]

theorem ev_lc (ρ2 : Nat → List Sl) (f : Nat → Bool) (v : Nat → D) (hI : PEvI C wi ρ n item) (hn : n ≤ 10000000) (hg : ∀ i, i < n → ExGp C g vs (item i) (wipeS ρ vs) (ρ2 i)) (ht : ∀ i, i < n → PEvT C tt (ρ2 i) (f i))
    (he : ∀ i, i < n → f i = true → PD C te (ρ2 i) (v i)) (l : Lsl C.K (made n f v) s) : PEv C (tLc wi g tt te vs) ρ s := fun σ Hb H fp W Q q =>
  hI σ Hb H fp W _ fun J Hb1 H1 t1 ⟨hstop, hgo⟩ Dl hD => by
    have W1 := W.step t1
    obtain ⟨hC, hbD, hfD⟩ := W1.old hD
    refine ⟨fun i m H' => m + i = n ∧ ∃ Hb' accV, Step [] Hb1 H1 Hb' H' ∧ H' Dl = some (.lst accV) ∧ Hb' Dl = none ∧ RpAll C.K Hb' accV (made i f v), ⟨n, rfl, Hb1, [], Step.newO t1.s hD, upd_same, hbD, .nil⟩, ?_⟩
    rintro i m H2 ⟨hm, Hb2, accV, t2, e2, b2, a2⟩
    by_cases hi : i < n
    · obtain ⟨hgo1, hy⟩ := hgo i Hb2 H2 hi t2.b t2.s
      refine .inr ⟨hgo1, fun H' => ∃ Hb' accV, Step [] Hb1 H1 Hb' H' ∧ H' Dl = some (.lst accV) ∧ Hb' Dl = none ∧ RpAll C.K Hb' accV (made (i + 1) f v), fun H' ⟨Hb', aV, h⟩ => ⟨m - 1, by omega, by omega, Hb', aV, h⟩, fun x H3 yy => ?_⟩
      obtain ⟨Hb3, t3, hx⟩ := hy x H3 yy
      have t13 := t2.trans0 t3
      have W3 := (W1.step t13).wiped vs
      refine hg i hi (wipe σ vs) Hb3 H3 fp x W3 hx _ fun σ4 fp4 W4 f4 l4 o4 => ⟨wipe_eq (l4.trans (wipe_length _ _)) fun k hk => (o4 k hk).trans (wipe_off hk), ?_⟩
      refine ht i hi σ4 Hb3 H3 fp4 W4 _ fun Hb5 H5 t5 => ?_
      have t15 := t13.trans0 t5
      have eD : ∀ {Hb' H' : Hp}, Step [] Hb2 H2 Hb' H' → H' Dl = some (.lst accV) ∧ Hb' Dl = none := fun {Hb' H'} t => ⟨t.same _ _ e2, (t.f Dl (by rw [e2]; exact fun z => nomatch z)).trans b2⟩
      cases hf : f i with
      | true =>
        show te σ4 H5 _
        refine he i hi hf σ4 Hb5 H5 fp4 (W4.step t5) _ fun y Hb6 H6 _ t6 ⟨_, ey, hy6⟩ _ => ?_
        cases ey
        obtain ⟨d1, d2⟩ := eD ((t3.trans0 t5).trans0 t6)
        refine ⟨accV, d1, ?_, ?_⟩
        · rw [a2.length]; exact szl (by have := made_len i f v; omega)
        · have t16 := t15.trans0 t6
          refine ⟨Hb6, accV ++ [y], ?_, upd_same, d2, ?_⟩
          · refine ⟨t16.b, (Step.wr (M := [Dl]) t16.s d2 (List.mem_singleton.mpr rfl)).s, fun a o _ e => ?_, t16.f, fun a ha => ?_⟩
            · rw [upd_ne (ne_of_none e hD)]; exact t16.same a o e
            · rw [upd_ne (fun z => ha (by rw [z]; exact hD))]; exact t16.t a ha
          · rw [made_succ, if_pos hf]
            exact (a2.mono ((t3.trans0 t5).trans0 t6).b).append (.one hy6)
      | false =>
        show ∃ Hb' accV, _
        obtain ⟨d1, d2⟩ := eD (t3.trans0 t5)
        refine ⟨Hb5, accV, t15, d1, d2, ?_⟩
        rw [made_succ, if_neg (by rw [hf]; exact Bool.false_ne_true), List.append_nil]
        exact a2.mono (t3.trans0 t5).b
    · have e : i = n := by omega
      subst e
      refine .inl ⟨hstop Hb2 H2 t2.b t2.s, ?_⟩
      have t := t1.trans0 t2
      have hD0 : H Dl = none := by
        cases e : H Dl with
        | none => rfl
        | some o => rw [t1.same _ _ e] at hD; cases hD
      cases l with
      | own =>
        refine q (.ref Dl) Hb2 H2 [Dl] t ⟨_, rfl, Dl, accV, rfl, rfl, e2, a2⟩ fun a ha => ?_
        obtain rfl := List.mem_singleton.mp ha
        exact ⟨b2, by rw [e2]; exact fun z => (nomatch z), hD0⟩
      | dat =>
        have sb : Same Hb2 (upd Hb2 Dl (.lst accV)) := fun x u e => by rw [upd_ne (ne_of_none e b2)]; exact e
        refine q.data (Hb' := upd Hb2 Dl (.lst accV)) (H' := H2) ⟨t.b.trans sb, fun x u e => ?_, t.k, fun x hx => ?_, t.t⟩ (.lst upd_same (a2.mono sb))
        · by_cases hx : x = Dl
          · subst hx; rw [upd_same] at e; cases e; exact e2
          · rw [upd_ne hx] at e; exact t.s x u e
        · rw [upd_ne (fun z => hx (by rw [z]; exact hD0))]; exact t.f x hx

/-- what a comprehension with draws asks -/
structure LcI (C : Cc) (g : TG) (tt : TT) (te : TE) (vs : List Nat) (P : Sl → List Sl → Prop) (n : Nat) (item : Nat → D) (ρ : List Sl) : Prop where
  ex : n ≤ 10000000 ∧ ∃ Inv : Nat → List D → List Sl → Prop, Inv 0 [] ρ ∧
    (∀ i acc ρ', i < n → Inv i acc ρ' → ∃ ρ2, ExGp C g vs (item i) (wipeS ρ' vs) ρ2 ∧ EvT C tt ρ2 fun b ρ3 => if b = true then Ev C te ρ3 fun s ρ4 => ∃ y, s = .d y ∧ Inv (i + 1) (acc ++ [y]) (wipeS ρ4 vs) else Inv (i + 1) acc (wipeS ρ3 vs)) ∧
    ∀ acc ρ', Inv n acc ρ' → ∃ s, Lsl C.K acc s ∧ P s ρ'
theorem ef_lc {P : Sl → List Sl → Prop} (h : EvI C wi ρ fun n item ρ1 => LcI C g tt te vs P n item ρ1) : Ev C (tLc wi g tt te vs) ρ P := fun σ Hb H fp W Q q =>
  h σ Hb H fp W _ fun J n item ρ1 Hb1 H1 fp1 sm1 W1 ⟨hstop, hgo⟩ p Dl hD => by
    obtain ⟨hn, Inv, i0, hs, hd⟩ := p.ex
    obtain ⟨hC, hbD, hfD⟩ := W1.old hD
    refine ⟨fun i m H' => m + i = n ∧ ∃ ρ' Hb' fp' acc accV, Fr (In fp1) Hb1 H1 Hb' H' (In fp') ∧ EnvW C σ ρ' Hb' H' fp' ∧ H' Dl = some (.lst accV) ∧ Hb' Dl = none ∧ ¬ In fp' Dl ∧ RpAll C.K Hb' accV acc ∧ acc.length ≤ i ∧ Inv i acc ρ',
      ⟨n, rfl, ρ1, Hb1, fp1, [], [], Fr.refl.wrNew hD, W1.wrOut hbD hfD hC, upd_same, hbD, hfD, .nil, Nat.le_refl _, i0⟩, ?_⟩
    rintro i m H2 ⟨hm, ρ2, Hb2, fp2, acc, accV, sm2, W2, e2, b2, n2, a2, l2, i2⟩
    by_cases hi : i < n
    · obtain ⟨hgo1, hy⟩ := hgo i Hb2 H2 hi sm2.b W2.same
      refine .inr ⟨hgo1, fun H' => ∃ ρ' Hb' fp' acc accV, Fr (In fp1) Hb1 H1 Hb' H' (In fp') ∧ EnvW C σ ρ' Hb' H' fp' ∧ H' Dl = some (.lst accV) ∧ Hb' Dl = none ∧ ¬ In fp' Dl ∧ RpAll C.K Hb' accV acc ∧ acc.length ≤ i + 1 ∧ Inv (i + 1) acc ρ',
        fun H' ⟨ρ', Hb', fp', ac, aV, h⟩ => ⟨m - 1, by omega, by omega, ρ', Hb', fp', ac, aV, h⟩, fun x H3 yy => ?_⟩
      obtain ⟨Hb3, t3, hx⟩ := hy x H3 yy
      obtain ⟨ρ4, hg, ht⟩ := hs i acc ρ2 hi i2
      have W3 := W2.step t3
      have sm3 : Fr (In fp1) Hb1 H1 Hb3 H3 (In fp2) := sm2.etrans (.of t3)
      refine hg (wipe σ vs) Hb3 H3 fp2 x (W3.wiped vs) hx _ fun σ4 fp4 W4 f4 l4 o4 => ?_
      have ew : wipe σ4 vs = wipe σ vs := wipe_eq (l4.trans (wipe_length _ _)) fun k hk => (o4 k hk).trans (wipe_off hk)
      refine ⟨ew, ?_⟩
      have d3 : H3 Dl = some (.lst accV) ∧ Hb3 Dl = none ∧ ¬ In fp4 Dl := ⟨t3.same _ _ e2, (t3.f Dl (by rw [e2]; exact fun z => nomatch z)).trans b2, fun z => n2 (f4 _ z)⟩
      have out : ∀ {Hb' H' : Hp} {F' : Addr → Prop}, Fr (In fp4) Hb3 H3 Hb' H' F' → H' Dl = some (.lst accV) ∧ Hb' Dl = none ∧ ¬ F' Dl := fun {Hb' H' F'} a => by
        have hne : H3 Dl ≠ none := by rw [d3.1]; exact fun z => nomatch z
        exact ⟨a.k _ _ d3.2.2 d3.1, (a.f _ d3.2.2 hne).trans d3.2.1, fun z => (a.n _ z).elim d3.2.2 hne⟩
      refine ht σ4 Hb3 H3 fp4 W4 _ fun b ρ5 Hb5 H5 fp5 sm5 W5 p5 => ?_
      cases b with
      | true =>
        show te σ4 H5 _
        refine p5 σ4 Hb5 H5 fp5 W5 _ fun y s6 ρ6 Hb6 H6 fp6 fv6 sm6 G6 ⟨y', e6, p6⟩ => ?_
        subst e6
        have sm56 : Fr (In fp4) Hb3 H3 Hb6 H6 (In fp6) := (sm5.etrans sm6).to vw_in
        obtain ⟨d1, d2, d4⟩ := out sm56
        refine ⟨accV, d1, ?_, ?_⟩
        · rw [a2.length]; exact szl (by omega)
        · have sm16 := sm3.trans sm56 f4
          refine ⟨wipeS ρ6 vs, Hb6, fp6, acc ++ [y'], accV ++ [y], sm16.wrNew hD, (G6.env.unwiped ew).wrOut d2 d4 hC, upd_same, d2, d4, (a2.mono (t3.b.trans sm56.b)).append (.one G6.data), ?_, p6⟩
          rw [List.length_append]
          show acc.length + 1 ≤ i + 1
          omega
      | false =>
        show ∃ ρ' Hb' fp' acc accV, _
        obtain ⟨d1, d2, d4⟩ := out sm5
        exact ⟨wipeS ρ5 vs, Hb5, fp5, acc, accV, sm3.trans sm5 f4, W5.unwiped ew, d1, d2, d4, a2.mono (t3.b.trans sm5.b), by omega, p5⟩
    · have e : i = n := by omega
      subst e
      refine .inl ⟨hstop Hb2 H2 sm2.b W2.same, ?_⟩
      obtain ⟨s, l, ps⟩ := hd acc ρ2 i2
      have sm := sm1.etrans sm2
      have hD0 : In fp Dl ∨ H Dl = none := by
        by_cases z : In fp Dl
        · exact .inl z
        · refine .inr ?_
          cases e : H Dl with
          | none => rfl
          | some o => rw [sm1.k _ _ z e] at hD; cases hD
      cases l with
      | own =>
        refine q (.ref Dl) _ ρ2 Hb2 H2 fp2 [Dl] ⟨sm.b, sm.k, sm.f, fun a ha => ha.elim (fun z => by rw [List.mem_singleton.mp z]; exact hD0) (sm.n a)⟩ ⟨W2, (show SlOk C.K Hb2 H2 (some (.ref Dl)) [Dl] (own C.K acc) from ⟨_, rfl, Dl, accV, rfl, rfl, e2, a2⟩), fun a ha => ?_⟩ ps
        obtain rfl := List.mem_singleton.mp ha
        exact ⟨b2, by rw [e2]; exact fun z => (nomatch z), hC, fun k hk => n2 ⟨k, hk⟩⟩
      | dat =>
        have sb : Same Hb2 (upd Hb2 Dl (.lst accV)) := fun x u e => by rw [upd_ne (ne_of_none e b2)]; exact e
        refine q (.ref Dl) _ ρ2 (upd Hb2 Dl (.lst accV)) H2 fp2 [] ((sm1.etrans (sm2.freeze hD b2)).to fun a ha => ha.elim (fun z => nomatch z) id) ⟨W2.freeze b2 n2 hC e2, (show SlOk C.K (upd Hb2 Dl (.lst accV)) H2 (some (.ref Dl)) [] (.d (.list acc)) from ⟨_, rfl, .lst upd_same (a2.mono sb)⟩), fun _ z => nomatch z⟩ ps
end
end DL
set_option Elab.async false
set_option linter.all false
set_option maxRecDepth 100000
set_option maxHeartbeats 4000000
/-! DLd: operations on data: what each asks and gives. -/
namespace DL
open PySem PySem.Spec L2

theorem opr_or {X : Cx} {f : Value → Value → Sem Value} {r r' : R2} (h : OpR X f r) (h' : OpR X f r') : OpR X f (fun x y H Q => r x y H Q ∨ r' x y H Q) := fun pins s σ H x y v u Q I rx ry q =>
  q.elim (h pins s σ H x y v u Q I rx ry) (h' pins s σ H x y v u Q I rx ry)
theorem callr_or {X : Cx} {f : Value} {r r' : List V → Hp → VK → Prop} (h : CallR X f r) (h' : CallR X f r') : CallR X f (fun x H Q => r x H Q ∨ r' x H Q) := fun pins s σ H x v Q I rx q =>
  q.elim (h pins s σ H x v Q I rx) (h' pins s σ H x v Q I rx)

/-! ### shapes -/
def shN (n : Nat) (d : D) : Prop := d.canLay0 = true ∧ d.depth ≤ n
theorem shN.shaped {n : Nat} {d : D} (h : shN n d) (hn : n ≤ 64 := by decide) : SeqAt.shaped d = true := by
  unfold SeqAt.shaped
  rw [h.1, decide_eq_true (Nat.le_trans h.2 hn)]
  rfl
theorem shN.mono {n m : Nat} {d : D} (h : shN n d) (hn : n ≤ m) : shN m d := ⟨h.1, Nat.le_trans h.2 hn⟩
theorem canAll {n : Nat} : ∀ {ds : List D}, (∀ d ∈ ds, shN n d) → PyData.canLayAll0 ds = true ∧ PyData.depthAll ds ≤ n
  | [], _ => ⟨rfl, Nat.zero_le _⟩
  | d :: ds, h => by
    obtain ⟨h1, h2⟩ := canAll (ds := ds) fun x hx => h x (List.mem_cons_of_mem _ hx)
    obtain ⟨g1, g2⟩ := h d List.mem_cons_self
    refine ⟨?_, ?_⟩
    · show (PyData.canLay0 d && PyData.canLayAll0 ds) = true
      rw [g1, h1]; rfl
    · show max (PyData.depth d) (PyData.depthAll ds) ≤ n
      omega
theorem shN.list {n : Nat} {ds : List D} (h : ∀ d ∈ ds, shN n d) : shN (n + 1) (.list ds) := ⟨(canAll h).1, Nat.succ_le_succ (canAll h).2⟩
theorem shN.tuple {n : Nat} {ds : List D} (h : ∀ d ∈ ds, shN n d) : shN (n + 1) (.tuple ds) := ⟨(canAll h).1, Nat.succ_le_succ (canAll h).2⟩
theorem shN.int {n : Nat} {i : Int} : shN n (.int i) := ⟨rfl, Nat.zero_le _⟩
theorem shN.bool {n : Nat} {b : Bool} : shN n (.bool b) := ⟨rfl, Nat.zero_le _⟩
theorem shN.none {n : Nat} : shN n .none := ⟨rfl, Nat.zero_le _⟩
theorem shN.str {n : Nat} {x : Str} (h : PyData.strOk x = true) : shN n (.str x) := ⟨h, Nat.zero_le _⟩
theorem shN.of {n : Nat} {d : D} (h : (d.canLay0 && decide (d.depth ≤ n)) = true) : shN n d := by
  rw [Bool.and_eq_true] at h
  exact ⟨h.1, of_decide_eq_true h.2⟩

/-! ### == -/
section
variable {K : PySem.W.Frag} {x y : D} {s : Sl} {i j : Int} {xs ys ds : List D} {g : Int → Int → V} {Cn : Int → Int → Prop}
theorem o2_I0 {z : D} (h : ∀ H, Rp K H (g i j) z) : Op2 K (rI0 g) (.int i) (.int j) (.d z) := fun Hb H v u Q sm hx hy q => by
  cases hx; cases hy
  exact ⟨i, j, rfl, rfl, q.flat sm (h Hb)⟩
theorem o2_I {z : D} (hc : Cn i j) (h : ∀ H, Rp K H (g i j) z) : Op2 K (rI Cn g) (.int i) (.int j) (.d z) := fun Hb H v u Q sm hx hy q => by
  cases hx; cases hy
  exact ⟨i, j, rfl, rfl, hc, q.flat sm (h Hb)⟩
theorem o2_eq (h1 : SeqAt.shaped x = true) (h2 : SeqAt.shaped y = true) : Op2 K (rEqD K) x y (.d (.bool (PyData.eqv x y))) := fun Hb H v u Q sm hx hy q =>
  ⟨x, y, rp_dp _ _ (hx.mono sm), rp_dp _ _ (hy.mono sm), h1, h2, q.flat sm (.bl _)⟩
theorem o2_ne (h1 : SeqAt.shaped x = true) (h2 : SeqAt.shaped y = true) : Op2 K (rNeD K) x y (.d (.bool (!PyData.eqv x y))) := fun Hb H v u Q sm hx hy q =>
  ⟨x, y, rp_dp _ _ (hx.mono sm), rp_dp _ _ (hy.mono sm), h1, h2, q.flat sm (.bl _)⟩
/-! ### + -/
def rAddS : R2 := fun x y H Q => ∃ i j, x = .str i ∧ y = .str j ∧ i.length + j.length ≤ sizeLine ∧ Q (.str (i ++ j)) H
def rAddA (K : PySem.W.Frag) : R2 := fun x y H Q => rI0 (fun i j => .int (i + j)) x y H Q ∨ rAddS x y H Q ∨ rCat x y H Q ∨ rCatA K x y H Q
theorem op_addA {X : Cx} : OpR X (binaryOp .Add) (rAddA X.K) := opr_or op_add (opr_or op_add_str (opr_or op_cat op_catA))
theorem o2_addI : Op2 K (rAddA K) (.int i) (.int j) (.d (.int (i + j))) := fun Hb H v u Q sm hx hy q => .inl (o2_I0 (fun _ => .int _) Hb H v u Q sm hx hy q)
theorem o2_addS {a b : Str} (h : a.length + b.length ≤ 10000000) : Op2 K (rAddA K) (.str a) (.str b) (.d (.str (a ++ b))) := fun Hb H v u Q sm hx hy q => by
  cases hx; cases hy
  exact .inr (.inl ⟨a, b, rfl, rfl, sz h, q.flat sm (.str _)⟩)
theorem o2_addL (h : xs.length + ys.length ≤ 10000000) (l : Lsl K (xs ++ ys) s) : Op2 K (rAddA K) (.list xs) (.list ys) s := fun Hb H v u Q sm hx hy q => by
  cases hx with
  | lst h1 a1 =>
    cases hy with
    | lst h2 a2 => exact .inr (.inr (.inl ⟨_, _, _, _, rfl, rfl, sm _ _ h1, sm _ _ h2, by rw [a1.length, a2.length]; exact sz h, fun p hp => lst_new l q sm hp (a1.append a2)⟩))
theorem tup_new {Hb H : Hp} {Q : VK} {vs : List V} {p : Addr} (q : Res1 K Hb H (.d (.tuple xs)) Q) (sm : Same Hb H) (hp : H p = none) (h : RpAll K Hb vs xs) : Q (.ref p) (upd H p (.tup vs)) :=
  q.data (Step.newF (o := .tup vs) sm hp) (.tup (.of upd_same) (h.mono (Step.newF (M := []) (o := .tup vs) sm hp).b))
theorem o2_addT (h : xs.length + ys.length ≤ 10000000) : Op2 K (rAddA K) (.tuple xs) (.tuple ys) (.d (.tuple (xs ++ ys))) := fun Hb H v u Q sm hx hy q => by
  cases hx with
  | tup h1 a1 =>
    cases hy with
    | tup h2 a2 =>
      refine .inr (.inr (.inr ⟨_, _, _, _, rfl, rfl, same_sqt sm h1, same_sqt sm h2, by rw [a1.length, a2.length]; exact sz h, fun e => ?_, fun e e2 => ?_, fun e e2 p hp => tup_new q sm hp (a1.append a2)⟩))
      · subst e
        cases a1
        exact q.flat sm (.tup h2 a2)
      · subst e2
        cases a2
        rw [List.append_nil] at q
        exact q.flat sm (.tup h1 a1)
/-! ### - * // % -/
abbrev rSubA : R2 := rI0 fun i j => .int (i - j)
theorem op_subA {X : Cx} : OpR X (binaryOp .Sub) rSubA := op_sub
theorem o2_subI : Op2 K rSubA (.int i) (.int j) (.d (.int (i - j))) := o2_I0 fun _ => .int _
abbrev rDivA : R2 := rI CDivW fun i j => .int (i / j)
theorem op_divA {X : Cx} : OpR X (binaryOp .FloorDiv) rDivA := op_fdivW
theorem log2_9000 {j : Int} (h : j.natAbs < 2 ^ 100) : j.natAbs.log2 < 9000 := by
  by_cases h0 : j.natAbs = 0
  · rw [h0]; decide
  · exact Nat.lt_trans ((Nat.log2_lt h0).mpr h) (by decide)
theorem o2_divI (h : 0 < j) (h2 : j < 1267650600228229401496703205376) : Op2 K rDivA (.int i) (.int j) (.d (.int (i / j))) := o2_I ⟨h, log2_9000 (by
  have : (2 : Nat) ^ 100 = 1267650600228229401496703205376 := by decide
  rw [this]; omega)⟩ fun _ => .int _
abbrev rModA : R2 := rI (fun _ j => 0 < j) fun i j => .int (i % j)
theorem op_modA {X : Cx} : OpR X (binaryOp .Mod) rModA := op_mod
theorem o2_modI (h : 0 < j) : Op2 K rModA (.int i) (.int j) (.d (.int (i % j))) := o2_I h fun _ => .int _
/-- factors of together less than a hundred million bits -/
def CMulX (i j : Int) : Prop := i.natAbs.log2 + j.natAbs.log2 < 100000000
theorem CMulX.ok {i j : Int} (h : CMulX i j) : PySem.IntMulOk i j := by
  have b : ∀ x : Int, Builtin.Int.intBits x ≤ x.natAbs.log2 + 1 := fun x => by
    unfold Builtin.Int.intBits
    split <;> omega
  have h1 := b i
  have h2 := b j
  have h3 : i.natAbs.log2 + j.natAbs.log2 < 100000000 := h
  have e : bitsLine = 134217728 := by decide
  unfold PySem.IntMulOk
  intro z
  rw [Bool.and_eq_true] at z
  have z2 := z.2
  unfold Builtin.Int.intTooBig at z2
  have z3 := of_decide_eq_true z2
  rw [e] at z3
  omega
theorem op_mulX {X : Cx} : OpR X (binaryOp .Mult) (rI CMulX fun i j => .int (i * j)) := opI fun _ _ _ _ _ _ _ hc q => PyProof.Rows.mul_int q hc.ok
def rMulStr : R2 := fun x y H Q => ∃ z n, x = .str z ∧ y = .int n ∧ PySem.MulOk z n ∧ Q (.str (PySem.Txt.mul z n)) H
theorem op_mulStr {X : Cx} : OpR X (binaryOp .Mult) rMulStr := by
  intro pins s σ H x y v u Q I rx ry h
  obtain ⟨z, n, rfl, rfl, hok, q⟩ := h
  obtain ⟨t, rfl⟩ := rx
  obtain ⟨t', rfl⟩ := ry
  exact PySem.SB.mul hok fun t' k => ⟨.str _, H, I.tok _, ⟨_, rfl⟩, q⟩
def rMulA : R2 := fun x y H Q => rI CMulX (fun i j => .int (i * j)) x y H Q ∨ rRep x y H Q ∨ rMulStr x y H Q
theorem op_mulA {X : Cx} : OpR X (binaryOp .Mult) rMulA := opr_or op_mulX (opr_or op_rep op_mulStr)
theorem o2_mulI (h : CMulX i j) : Op2 K rMulA (.int i) (.int j) (.d (.int (i * j))) := fun Hb H v u Q sm hx hy q => .inl (o2_I h (fun _ => .int _) Hb H v u Q sm hx hy q)
theorem rep_rp {H : Hp} {vs : List V} (h : RpAll K H vs xs) : ∀ k : Nat, RpAll K H (List.replicate k vs).flatten (List.replicate k xs).flatten
  | 0 => .nil
  | k + 1 => by
    rw [List.replicate_succ, List.replicate_succ, List.flatten_cons, List.flatten_cons]
    exact h.append (rep_rp h k)
theorem o2_repL {n : Nat} (h : xs.length * n ≤ 10000000) (hn : n ≤ 10000000) (l : Lsl K (List.replicate n xs).flatten s) : Op2 K rMulA (.list xs) (.int (n : Int)) s := fun Hb H v u Q sm hx hy q => by
  cases hx with
  | lst h1 a1 =>
    cases hy
    have e : ((n : Nat) : Int).toNat = n := by omega
    refine .inr (.inl ⟨_, _, _, rfl, rfl, sm _ _ h1, by omega, by omega, by rw [a1.length, e]; exact sz h, fun p hp => ?_⟩)
    rw [e]
    exact lst_new l q sm hp (rep_rp a1 n)
/-! ### < <= > >= -/
def rLtS : R2 := fun x y H Q => ∃ i j, x = .str i ∧ y = .str j ∧ Q (.bl (decide (i.cps.toList < j.cps.toList))) H
def rLtA : R2 := fun x y H Q => rI0 (fun i j => .bl (decide (i < j))) x y H Q ∨ rLtS x y H Q
theorem op_ltA {X : Cx} : OpR X (compareOp .Lt) rLtA := opr_or op_lt op_lt_str
theorem o2_ltI : Op2 K rLtA (.int i) (.int j) (.d (.bool (decide (i < j)))) := fun Hb H v u Q sm hx hy q => .inl (o2_I0 (fun _ => .bl _) Hb H v u Q sm hx hy q)
theorem o2_ltS {a b : Str} : Op2 K rLtA (.str a) (.str b) (.d (.bool (decide (a.cps.toList < b.cps.toList)))) := fun Hb H v u Q sm hx hy q => by
  cases hx; cases hy
  exact .inr ⟨a, b, rfl, rfl, q.flat sm (.bl _)⟩
abbrev rLeA : R2 := rI0 fun i j => .bl (decide (i ≤ j))
abbrev rGtA : R2 := rI0 fun i j => .bl (decide (j < i))
abbrev rGeA : R2 := rI0 fun i j => .bl (decide (j ≤ i))
theorem op_leA {X : Cx} : OpR X (compareOp .LtE) rLeA := op_le
theorem op_gtA {X : Cx} : OpR X (compareOp .Gt) rGtA := op_gt
theorem op_geA {X : Cx} : OpR X (compareOp .GtE) rGeA := op_ge
theorem o2_leI : Op2 K rLeA (.int i) (.int j) (.d (.bool (decide (i ≤ j)))) := o2_I0 fun _ => .bl _
theorem o2_gtI : Op2 K rGtA (.int i) (.int j) (.d (.bool (decide (j < i)))) := o2_I0 fun _ => .bl _
theorem o2_geI : Op2 K rGeA (.int i) (.int j) (.d (.bool (decide (j ≤ i)))) := o2_I0 fun _ => .bl _
/-! ### is -/
def rIsNA : R2 := fun x y H Q => (y = .non ∧ Q (.bl (decide (x = .non))) H) ∨ rIsB x y H Q
def rNotNA : R2 := fun x y H Q => (y = .non ∧ Q (.bl (!decide (x = .non))) H) ∨ rNotB x y H Q
theorem op_isA {X : Cx} : OpR X (compareOp .Is) rIsNA := opr_or op_isN op_isBl
theorem op_isNotA {X : Cx} : OpR X (compareOp .IsNot) rNotNA := opr_or op_notN op_notBl
def isNon : D → Bool
  | .none => true
  | _ => false
theorem rp_non {H : Hp} {v : V} (h : Rp K H v x) : decide (v = .non) = isNon x := by
  cases h <;> rfl
theorem o2_isN : Op2 K rIsNA x .none (.d (.bool (isNon x))) := fun Hb H v u Q sm hx hy q => by
  cases hy
  exact .inl ⟨rfl, by rw [rp_non hx]; exact q.flat sm (.bl _)⟩
theorem o2_notN : Op2 K rNotNA x .none (.d (.bool (!isNon x))) := fun Hb H v u Q sm hx hy q => by
  cases hy
  exact .inl ⟨rfl, by rw [rp_non hx]; exact q.flat sm (.bl _)⟩
theorem o2_isB {a b : Bool} : Op2 K rIsNA (.bool a) (.bool b) (.d (.bool (decide (a = b)))) := fun Hb H v u Q sm hx hy q => by
  cases hx; cases hy
  exact .inr ⟨a, b, rfl, rfl, q.flat sm (.bl _)⟩
theorem o2_notB {a b : Bool} : Op2 K rNotNA (.bool a) (.bool b) (.d (.bool (!decide (a = b)))) := fun Hb H v u Q sm hx hy q => by
  cases hx; cases hy
  exact .inr ⟨a, b, rfl, rfl, q.flat sm (.bl _)⟩
/-! ### in -/
def rInS : R2 := fun x y H Q => ∃ i j, x = .str i ∧ y = .str j ∧ Q (.bl (!(Builtin.Str.occurrences j i 0 j.length 1).isEmpty)) H
def rNInS : R2 := fun x y H Q => ∃ i j, x = .str i ∧ y = .str j ∧ Q (.bl (!(!(Builtin.Str.occurrences j i 0 j.length 1).isEmpty))) H
def rInA (K : PySem.W.Frag) : R2 := fun x y H Q => rIn K false x y H Q ∨ rInD K x y H Q ∨ rInS x y H Q
def rNInA (K : PySem.W.Frag) : R2 := fun x y H Q => rIn K true x y H Q ∨ rNotInD K x y H Q ∨ rNInS x y H Q
theorem op_inA {X : Cx} (hu : X.A.units + 65 < cLine) : OpR X (compareOp .In) (rInA X.K) := opr_or op_in_seq (opr_or (op_inD hu) op_in_str)
theorem op_ninA {X : Cx} (hu : X.A.units + 65 < cLine) : OpR X (compareOp .NotIn) (rNInA X.K) := opr_or op_notIn_seq (opr_or (op_notInD hu) op_notin_str)
def inDt (x : D) (ds : List D) : Bool := ds.any fun y => PyData.eqv y x
theorem flat_v {H : Hp} {v : V} (h : Rp K H v x) (f : flatD x = true) : flatV v = true := by
  cases h with
  | lst _ _ => cases f
  | tup _ _ => cases f
  | _ => rfl
theorem eqV_eqv {H H' : Hp} {v u : V} (h : Rp K H v x) (h' : Rp K H' u y) (f : flatD x = true) (f' : flatD y = true) : eqV v u = PyData.eqv x y := by
  cases h with
  | lst _ _ => cases f
  | tup _ _ => cases f
  | non => cases h' with
    | lst _ _ => cases f'
    | tup _ _ => cases f'
    | _ => rfl
  | bl b => cases h' with
    | lst _ _ => cases f'
    | tup _ _ => cases f'
    | _ => rfl
  | int b => cases h' with
    | lst _ _ => cases f'
    | tup _ _ => cases f'
    | _ => rfl
  | str b => cases h' with
    | lst _ _ => cases f'
    | tup _ _ => cases f'
    | _ => rfl
theorem inV_in {H H' : Hp} {v : V} (hv : Rp K H v x) (f : flatD x = true) : ∀ {vs : List V} {ds : List D}, RpAll K H' vs ds → ds.all flatD = true → inV v vs = inDt x ds ∧ vs.all flatV = true
  | _, _, .nil, _ => ⟨rfl, rfl⟩
  | u :: vs, d :: ds, .cons r t, h => by
    have h : (flatD d && ds.all flatD) = true := h
    rw [Bool.and_eq_true] at h
    obtain ⟨e1, e2⟩ := inV_in hv f t h.2
    refine ⟨?_, ?_⟩
    · show (eqV u v || inV v vs) = (PyData.eqv d x || inDt x ds)
      rw [e1, eqV_eqv r hv h.1 f]
    · show (flatV u && vs.all flatV) = true
      rw [flat_v r h.1, e2]; rfl
theorem o2_inT (f : flatD x = true) (fs : ds.all flatD = true) : Op2 K (rInA K) x (.tuple ds) (.d (.bool (inDt x ds))) := fun Hb H v u Q sm hx hy q => by
  cases hy with
  | tup h1 a1 =>
    obtain ⟨e1, e2⟩ := inV_in hx f a1 fs
    exact .inl ⟨_, _, rfl, .inr (same_sqt sm h1), flat_v hx f, e2, by rw [if_neg Bool.false_ne_true, e1]; exact q.flat sm (.bl _)⟩
theorem o2_inL (f : flatD x = true) (fs : ds.all flatD = true) : Op2 K (rInA K) x (.list ds) (.d (.bool (inDt x ds))) := fun Hb H v u Q sm hx hy q => by
  cases hy with
  | lst h1 a1 =>
    obtain ⟨e1, e2⟩ := inV_in hx f a1 fs
    exact .inl ⟨_, _, rfl, .inl (.of (sm _ _ h1)), flat_v hx f, e2, by rw [if_neg Bool.false_ne_true, e1]; exact q.flat sm (.bl _)⟩
theorem o2_ninT (f : flatD x = true) (fs : ds.all flatD = true) : Op2 K (rNInA K) x (.tuple ds) (.d (.bool (!inDt x ds))) := fun Hb H v u Q sm hx hy q => by
  cases hy with
  | tup h1 a1 =>
    obtain ⟨e1, e2⟩ := inV_in hx f a1 fs
    exact .inl ⟨_, _, rfl, .inr (same_sqt sm h1), flat_v hx f, e2, by rw [if_pos rfl, e1]; exact q.flat sm (.bl _)⟩
theorem o2_inDL (h1 : SeqAt.shaped x = true) (h2 : SeqAt.shaped (.list ds) = true) : Op2 K (rInA K) x (.list ds) (.d (.bool (inDt x ds))) := fun Hb H v u Q sm hx hy q =>
  .inr (.inl ⟨x, ds, rp_dp _ _ (hx.mono sm), rp_dp _ _ (hy.mono sm), h1, h2, q.flat sm (.bl _)⟩)
theorem o2_inS {a b : Str} : Op2 K (rInA K) (.str a) (.str b) (.d (.bool (!(Builtin.Str.occurrences b a 0 b.length 1).isEmpty))) := fun Hb H v u Q sm hx hy q => by
  cases hx; cases hy
  exact .inr (.inr ⟨a, b, rfl, rfl, q.flat sm (.bl _)⟩)
/-! ### [i] -/
theorem atI_rp {H : Hp} {vs : List V} {z : D} (h : RpAll K H vs ds) (e : atI ds i = some z) : ∃ v, atI vs i = some v ∧ Rp K H v z := by
  unfold atI at e ⊢
  rw [h.length]
  cases q : ixN ds.length i with
  | none => rw [q] at e; cases e
  | some j =>
    rw [q] at e
    exact h.get e
theorem o2_ixL {z : D} (h : atI ds i = some z) : Op2 K (rIx K) (.list ds) (.int i) (.d z) := fun Hb H v u Q sm hx hy q => by
  cases hy
  cases hx with
  | lst h1 a1 =>
    obtain ⟨w, e, hw⟩ := atI_rp a1 h
    exact .inl ⟨_, _, i, w, rfl, rfl, .of (sm _ _ h1), e, q.flat sm hw⟩
theorem o2_ixT {z : D} (h : atI ds i = some z) : Op2 K (rIx K) (.tuple ds) (.int i) (.d z) := fun Hb H v u Q sm hx hy q => by
  cases hy
  cases hx with
  | tup h1 a1 =>
    obtain ⟨w, e, hw⟩ := atI_rp a1 h
    exact .inr (.inl ⟨_, _, i, w, rfl, rfl, same_sqt sm h1, e, q.flat sm hw⟩)
theorem o2_ixS {a : Str} {c : Nat} (hl : a.length ≤ 10000000) (h : atI a.cps.toList i = some c) : Op2 K (rIx K) (.str a) (.int i) (.d (.str ⟨#[c]⟩)) := fun Hb H v u Q sm hx hy q => by
  cases hx; cases hy
  exact .inr (.inr ⟨a, i, c, rfl, rfl, sz hl, h, q.flat sm (.str _)⟩)
/-! ### built-ins by name -/
def rLenA (K : PySem.W.Frag) : List V → Hp → VK → Prop := fun xs H Q => ∃ x n, xs = [x] ∧ LenV K x H n ∧ Q (.int n) H
theorem cr_lenA {X : Cx} : CallR X (.builtin "len") (rLenA X.K) := call_len
theorem on_lenL : OpN K (rLenA K) [.list ds] (.d (.int (ds.length : Nat))) := fun Hb H vs Q sm h q => by
  cases h with
  | cons h1 h2 =>
    cases h2
    cases h1 with
    | lst h1 a1 => exact ⟨_, _, rfl, .inl ⟨_, .of (sm _ _ h1), a1.length.symm⟩, q.flat sm (.int _)⟩
theorem on_lenT : OpN K (rLenA K) [.tuple ds] (.d (.int (ds.length : Nat))) := fun Hb H vs Q sm h q => by
  cases h with
  | cons h1 h2 =>
    cases h2
    cases h1 with
    | tup h1 a1 => exact ⟨_, _, rfl, .inr ⟨_, same_sqt sm h1, a1.length.symm⟩, q.flat sm (.int _)⟩
theorem on_lenS {a : Str} (hl : a.length ≤ 10000000) : OpN K (rLenA K) [.str a] (.d (.int (a.length : Nat))) := fun Hb H vs Q sm h q => by
  cases h with
  | cons h1 h2 =>
    cases h2; cases h1
    exact ⟨_, _, rfl, ⟨sz hl, rfl⟩, q.flat sm (.int _)⟩
def rMaxA : List V → Hp → VK → Prop := fun xs H Q => ∃ i j, xs = [.int i, .int j] ∧ Q (.int (if j > i then j else i)) H
def rMinA : List V → Hp → VK → Prop := fun xs H Q => ∃ i j, xs = [.int i, .int j] ∧ Q (.int (if j < i then j else i)) H
theorem cr_maxA {X : Cx} (hc : X.calm = true) : CallR X (.builtin "max") rMaxA := call_max2 hc
theorem cr_minA {X : Cx} (hc : X.calm = true) : CallR X (.builtin "min") rMinA := call_min2 hc
theorem on_max : OpN K rMaxA [.int i, .int j] (.d (.int (if j > i then j else i))) := fun Hb H vs Q sm h q => by
  cases h with
  | cons h1 h2 =>
    cases h2 with
    | cons h2 h3 =>
      cases h3; cases h1; cases h2
      exact ⟨i, j, rfl, q.flat sm (.int _)⟩
theorem on_min : OpN K rMinA [.int i, .int j] (.d (.int (if j < i then j else i))) := fun Hb H vs Q sm h q => by
  cases h with
  | cons h1 h2 =>
    cases h2 with
    | cons h2 h3 =>
      cases h3; cases h1; cases h2
      exact ⟨i, j, rfl, q.flat sm (.int _)⟩
def rIntA : List V → Hp → VK → Prop := fun xs H Q => ((∃ i, xs = [.int i] ∧ Q (.int i) H) ∨ ∃ k, xs = [.bl k] ∧ Q (.int (if k then 1 else 0)) H) ∨ ∃ a n, xs = [.str a] ∧ PySem.intText? a = some n ∧ a.length ≤ 640 ∧ Q (.int n) H
theorem cr_intA {X : Cx} : CallR X (.type "int") rIntA := callr_or call_int1 call_int_str
theorem on_intS {a : Str} {n : Int} (h : PySem.intText? a = some n) (hl : a.length ≤ 640) : OpN K rIntA [.str a] (.d (.int n)) := fun Hb H vs Q sm h' q => by
  cases h' with
  | cons h1 h2 =>
    cases h2; cases h1
    exact .inr ⟨a, n, rfl, h, hl, q.flat sm (.int _)⟩
theorem on_intB {b : Bool} : OpN K rIntA [.bool b] (.d (.int (if b then 1 else 0))) := fun Hb H vs Q sm h q => by
  cases h with
  | cons h1 h2 =>
    cases h2; cases h1
    exact .inl (.inr ⟨b, rfl, q.flat sm (.int _)⟩)
def rListA (K : PySem.W.Frag) : List V → Hp → VK → Prop := fun xs H Q => ∃ p ys, xs = [.ref p] ∧ (SqL K H p ys ∨ SqT K H p ys) ∧ ∀ l, H l = none → Q (.ref l) (upd H l (.lst ys))
theorem cr_listA {X : Cx} : CallR X (.type "list") (rListA X.K) := call_list_of
theorem on_listL (l : Lsl K ds s) : OpN K (rListA K) [.list ds] s := fun Hb H vs Q sm h q => by
  cases h with
  | cons h1 h2 =>
    cases h2
    cases h1 with
    | lst h1 a1 => exact ⟨_, _, rfl, .inl (.of (sm _ _ h1)), fun p hp => lst_new l q sm hp a1⟩
theorem on_listT (l : Lsl K ds s) : OpN K (rListA K) [.tuple ds] s := fun Hb H vs Q sm h q => by
  cases h with
  | cons h1 h2 =>
    cases h2
    cases h1 with
    | tup h1 a1 => exact ⟨_, _, rfl, .inr (same_sqt sm h1), fun p hp => lst_new l q sm hp a1⟩
def rTupleA (K : PySem.W.Frag) : List V → Hp → VK → Prop := fun xs H Q => ∃ p ys, xs = [.ref p] ∧ ((SqL K H p ys ∧ ∀ l, H l = none → Q (.ref l) (upd H l (.tup ys))) ∨ (SqT K H p ys ∧ Q (.ref p) H))
theorem cr_tupleA {X : Cx} : CallR X (.type "tuple") (rTupleA X.K) := call_tuple_of
theorem on_tupleL : OpN K (rTupleA K) [.list ds] (.d (.tuple ds)) := fun Hb H vs Q sm h q => by
  cases h with
  | cons h1 h2 =>
    cases h2
    cases h1 with
    | lst h1 a1 => exact ⟨_, _, rfl, .inl ⟨.of (sm _ _ h1), fun p hp => tup_new q sm hp a1⟩⟩
theorem on_tupleT : OpN K (rTupleA K) [.tuple ds] (.d (.tuple ds)) := fun Hb H vs Q sm h q => by
  cases h with
  | cons h1 h2 =>
    cases h2
    cases h1 with
    | tup h1 a1 => exact ⟨_, _, rfl, .inr ⟨same_sqt sm h1, q.flat sm (.tup h1 a1)⟩⟩
end

/-! ### isinstance -/
/-- the built-in type of a datum -/
def tyD : D → String
  | .none => "NoneType"
  | .bool _ => "bool"
  | .int _ => "int"
  | .str _ => "str"
  | .list _ => "list"
  | .tuple _ => "tuple"
  | .dict _ => "dict"
def rIsiA (K : PySem.W.Frag) : List V → Hp → VK → Prop := fun xs H Q => rIsi K xs H Q ∨ rIsiT K xs H Q
theorem cr_isiA {X : Cx} : CallR X (.builtin "isinstance") (rIsiA X.K) := callr_or call_isi call_isiT
theorem tyx_of {K : PySem.W.Frag} {H : Hp} {v : V} {x : D} (h : Rp K H v x) : TyX K H v (.type (tyD x)) := by
  cases h with
  | non => exact .base .non
  | bl b => exact .base (.bl b)
  | int i => exact .base (.int i)
  | str z => exact .base (.str z)
  | lst h1 _ => exact .base (.lst h1)
  | tup h1 _ =>
    rcases h1 with (h | ⟨o, h⟩) | ⟨o, _, _, h, hc, _⟩
    · exact .base (.tup h)
    · exact .fTuple h
    · exact .kTuple h hc
section
variable {C : Cc} {ρ : List Sl} {te : TE} {x : D}
theorem ev_isi1 {n : String} {b : Bool} (h : VEv C te ρ x) (k : kitB (tyD x) n = some b) : PD C (tCB (rIsiA C.K) (tCons te (tCons (tC (.ty n)) tNil))) ρ (.bool b) := fun σ Hb H fp W Q q =>
  h σ Hb H fp W _ fun v Hb1 H1 t hv => .inl ⟨v, .ty n, _, _, b, rfl, .ty n, tyx_of hv, kit_ty k, (q.after t).flat t.s (.bl b)⟩
theorem ev_isi2 {m n : String} {b c : Bool} (h : VEv C te ρ x) (k : kitB (tyD x) m = some b) (k2 : kitB (tyD x) n = some c) :
    PD C (tCB (rIsiA C.K) (tCons te (tCons (tTup (tCons (tC (.ty m)) (tCons (tC (.ty n)) tNil))) tNil))) ρ (.bool (b || c)) := fun σ Hb H fp W Q q =>
  h σ Hb H fp W _ fun v Hb1 H1 t hv => ⟨by show 2 ≤ sizeLine; exact sz (by decide), fun p hp => .inr (by
    have t2 := Step.newF (M := []) (o := .tup [.ty m, .ty n]) t.s hp
    refine ⟨v, p, _, _, [.type m, .type n], b || c, rfl, upd_same, .cons (.ty m) (.cons (.ty n) .nil), tyx_of (hv.mono t2.same), kitAny_cons (b := b) (kit_ty k) (fun e => ?_) (fun e => ?_), ((q.after t).after t2).flat t2.s (.bl _)⟩
    · subst e
      refine kitAny_cons (b := c) (kit_ty k2) (fun e => ?_) fun e => ?_
      · subst e; exact kitAny_nil
      · subst e; rfl
    · subst e; rfl)⟩
end
end DL
set_option Elab.async false
set_option linter.all false
set_option maxRecDepth 100000
set_option maxHeartbeats 4000000
/-! DLe: what defs promise over data; calls; what is owned. -/
namespace DL
open PySem PySem.Spec PyProof.Rows L2

/-! ### promises -/
/-- data in, one of the outcomes of S back; what stood stands -/
def pureSp (K : PySem.W.Frag) (rel : List D → (Sl → Prop) → Prop) : Sp := fun vs H Q _ => ∃ Hb ds S, Same Hb H ∧ RpAll K Hb vs ds ∧ rel ds S ∧
  ∀ v s Hb' H' fv, S s → Step [] Hb H Hb' H' → SlOk K Hb' H' (some v) fv s → (∀ a ∈ fv, Hb' a = none ∧ H' a ≠ none ∧ H a = none) → Q v H'
/-- data in, data out -/
abbrev datSp (K : PySem.W.Frag) (f : List D → D → Prop) : Sp := pureSp K fun ds S => ∃ d, f ds d ∧ S = fun s => s = .d d
/-- data in, a list out, to be owned or not -/
abbrev lstSp (K : PySem.W.Frag) (f : List D → List D → Prop) : Sp := pureSp K fun ds S => ∃ xs s, f ds xs ∧ Lsl K xs s ∧ S = fun s' => s' = s
/-- the first argument is an object at h, in a state b ahead, b' behind -/
def effSp {β : Type} (K : PySem.W.Frag) (R : Addr → β → Res) (pre : β → List D → Prop) (post : β → List D → β → D → Prop) : Sp := fun vs H Q _ => ∃ Hb h rest fp b ds, vs = .ref h :: rest ∧ Same Hb H ∧ (R h b).holds Hb H (.ref h) fp ∧
  (∀ a ∈ fp, Hb a = none ∧ H a ≠ none) ∧ RpAll K Hb rest ds ∧ pre b ds ∧
  ∀ v d b' Hb' H' fp', post b ds b' d → Step fp Hb H Hb' H' → (R h b').holds Hb' H' (.ref h) fp' → (∀ a ∈ fp', a ∈ fp ∨ (H a = none ∧ Hb' a = none ∧ H' a ≠ none)) → Rp K Hb' v d → Q v H'

theorem start_get {N : List Str} {vs : List V} {i : Nat} {v : Option V} (h : (L2.start N vs)[i]? = some v) : (i < vs.length ∧ ∃ u, vs[i]? = some u ∧ v = some u) ∨ (vs.length ≤ i ∧ v = none) := by
  unfold L2.start at h
  by_cases hi : i < vs.length
  · rw [List.getElem?_append_left (by simpa using hi), List.getElem?_map, List.getElem?_eq_getElem hi] at h
    cases h
    exact .inl ⟨hi, _, List.getElem?_eq_getElem hi, rfl⟩
  · rw [List.getElem?_append_right (by simpa using hi), List.getElem?_replicate] at h
    split at h
    · cases h; exact .inr ⟨by omega, rfl⟩
    · cases h
/-- the slots at the entry -/
def slots0 (N : List Str) (ds : List D) : List Sl := ds.map .d ++ List.replicate (N.length - ds.length) .no
theorem slots0_get {N : List Str} {ds : List D} {i : Nat} {s : Sl} (h : (slots0 N ds)[i]? = some s) : (i < ds.length ∧ ∃ d, ds[i]? = some d ∧ s = .d d) ∨ (ds.length ≤ i ∧ s = .no) := by
  unfold slots0 at h
  by_cases hi : i < ds.length
  · rw [List.getElem?_append_left (by simpa using hi), List.getElem?_map, List.getElem?_eq_getElem hi] at h
    cases h
    exact .inl ⟨hi, _, List.getElem?_eq_getElem hi, rfl⟩
  · rw [List.getElem?_append_right (by simpa using hi), List.getElem?_replicate] at h
    split at h
    · cases h; exact .inr ⟨by omega, rfl⟩
    · cases h
theorem env_start {K : PySem.W.Frag} {N : List Str} {vs : List V} {ds : List D} {Hb H : Hp} (sm : Same Hb H) (h : RpAll K Hb vs ds) : EnvW ⟨K, [], Hb, H⟩ (L2.start N vs) (slots0 N ds) Hb H (fun _ => []) where
  st := Step.refl sm
  len := by
    unfold L2.start slots0
    rw [List.length_append, List.length_append, List.length_map, List.length_map, List.length_replicate, List.length_replicate, h.length]
  sl := fun i v s h1 h2 => by
    rcases slots0_get h2 with ⟨hi, d, hd, rfl⟩ | ⟨hi, rfl⟩
    · rcases start_get h1 with ⟨_, u, hu, rfl⟩ | ⟨hj, _⟩
      · obtain ⟨d', e', r⟩ := h.get' hu
        rw [hd] at e'; cases e'
        exact ⟨u, rfl, r⟩
      · rw [h.length] at hj; omega
    · trivial
  dj := fun _ _ _ z => nomatch z
  fr := fun _ _ z => nomatch z
section
variable {P : Program} {w : World} {K : PySem.W.Frag} {mg : Str → Option Value} {base : Heap}
/-- THE RULE for a pure def -/
theorem fn_pure {x qual : Str} {st : Stmt} {f : Addr} {fd : FuncData} {N ps : List Str} {k : Nat} {rel : List D → (Sl → Prop) → Prop} (F : Fun K x qual st f fd) (Sc : FnScope N ps (defScope st)) (hlen : ∀ ds S, rel ds S → ds.length = ps.length) (t : TS)
    (term : ∀ (cdv : Value) (A : Around) (outer : List Env) (s : Shared) (H : Hp) (E : XK), Room k (A.deeper (envOfC qual (defScope st) s.heap.objs.size f cdv)) → PSs (cxOf CX0 P w K mg base N qual (defScope st) f cdv A outer s H E).nox (defBody st) t)
    (read : ∀ (C : Cc) ds S, C.K = K → C.M = [] → rel ds S → Ex C t (slots0 N ds) { nx := fun _ => S (.d .none), rt := fun s _ => S s }) : FnOk P w K mg base CX0 (k + 1) f fd ps (pureSp K rel) := by
  refine F.ok Sc (fun vs H Q E ⟨Hb, ds, S, sm, h, r, q⟩ => by rw [h.length]; exact hlen ds S r) fun cdv A outer s H vs Q E hr ⟨Hb, ds, S, sm, h, r, q⟩ => ⟨t, term cdv A outer s H E hr, ?_⟩
  refine read ⟨K, [], Hb, H⟩ ds S rfl rfl r (L2.start N vs) Hb H (fun _ => []) _ (env_start sm h) ⟨fun σ' ρ' Hb' H' fp' _ W' p => ?_, fun σ' v s' ρ' Hb' H' fp' fv _ G p => ?_, fun _ _ _ _ _ _ _ z => z, fun _ _ _ _ _ _ _ z => z⟩
  · exact q .non (.d .none) Hb' H' [] p W'.st ⟨_, rfl, .non⟩ fun _ z => nomatch z
  · exact q v s' Hb' H' fv p G.env.st G.ok fun a ha => ⟨(G.nw a ha).1, (G.nw a ha).2.1, (G.nw a ha).2.2.1⟩
/-- THE RULE for a def that changes its first argument's object -/
theorem fn_eff {β : Type} {R : Addr → β → Res} {x qual : Str} {st : Stmt} {f : Addr} {fd : FuncData} {N ps : List Str} {k : Nat} {pre : β → List D → Prop} {post : β → List D → β → D → Prop} (F : Fun K x qual st f fd) (Sc : FnScope N ps (defScope st)) (hlen : ∀ b ds, pre b ds → ds.length + 1 = ps.length) (t : TS)
    (term : ∀ (cdv : Value) (A : Around) (outer : List Env) (s : Shared) (H : Hp) (E : XK), Room k (A.deeper (envOfC qual (defScope st) s.heap.objs.size f cdv)) → PSs (cxOf CX0 P w K mg base N qual (defScope st) f cdv A outer s H E).nox (defBody st) t)
    (hR : ∀ h b Hb H v fp, (R h b).holds Hb H v fp → v = .ref h)
    (read : ∀ (C : Cc) h b ds, C.K = K → pre b ds → Ex C t (.ow (R h b) :: (ds.map .d ++ List.replicate (N.length - (ds.length + 1)) .no))
      { nx := fun ρ' => ∃ b', post b ds b' .none ∧ ρ'[0]? = some (.ow (R h b')), rt := fun s ρ' => ∃ d b', s = .d d ∧ post b ds b' d ∧ ρ'[0]? = some (.ow (R h b')) }) : FnOk P w K mg base CX0 (k + 1) f fd ps (effSp K R pre post) := by
  refine F.ok Sc (fun vs H Q E ⟨Hb, h, rest, fp, b, ds, e, sm, ho, hf, hr, p, q⟩ => by rw [e, List.length_cons, hr.length]; exact hlen b ds p) fun cdv A outer s H vs Q E hrm ⟨Hb, h, rest, fp, b, ds, e, sm, ho, hf, hr, p, q⟩ => ⟨t, term cdv A outer s H E hrm, ?_⟩
  subst e
  have W0 : EnvW ⟨K, fp, Hb, H⟩ (L2.start N (.ref h :: rest)) (.ow (R h b) :: (ds.map .d ++ List.replicate (N.length - (ds.length + 1)) .no)) Hb H (fun i => if i = 0 then fp else []) := by
    have es : (.ow (R h b) :: (ds.map .d ++ List.replicate (N.length - (ds.length + 1)) .no) : List Sl) = (.ow (R h b) :: ds.map .d) ++ List.replicate (N.length - (ds.length + 1)) .no := rfl
    refine ⟨Step.refl sm, ?_, fun i v s h1 h2 => ?_, fun i j a h1 h2 => ?_, fun i a h1 => ?_⟩
    · unfold L2.start
      rw [List.length_append, List.length_map, List.length_replicate, List.length_cons, List.length_cons, List.length_append, List.length_map, List.length_replicate, hr.length]
      omega
    · cases i with
      | zero =>
        have h1 : some (some (V.ref h)) = some v := h1
        have h2 : some (Sl.ow (R h b)) = some s := h2
        cases h1; cases h2
        exact ⟨_, rfl, ho⟩
      | succ i =>
        have h2 : (ds.map Sl.d ++ List.replicate (N.length - (ds.length + 1)) Sl.no)[i]? = some s := h2
        by_cases hi : i < ds.length
        · rw [List.getElem?_append_left (by simpa using hi), List.getElem?_map, List.getElem?_eq_getElem hi] at h2
          cases h2
          rcases start_get h1 with ⟨_, u, hu, rfl⟩ | ⟨hj, _⟩
          · have hu : rest[i]? = some u := hu
            obtain ⟨d', e', r⟩ := hr.get' hu
            rw [List.getElem?_eq_getElem hi] at e'; cases e'
            exact ⟨u, rfl, r⟩
          · rw [List.length_cons, hr.length] at hj; omega
        · rw [List.getElem?_append_right (by simpa using hi), List.getElem?_replicate] at h2
          split at h2
          · cases h2; trivial
          · cases h2
    · have h1 : a ∈ (if i = 0 then fp else []) := h1
      have h2 : a ∈ (if j = 0 then fp else []) := h2
      by_cases hi : i = 0
      · by_cases hj : j = 0
        · rw [hi, hj]
        · rw [if_neg hj] at h2; cases h2
      · rw [if_neg hi] at h1; cases h1
    · have h1 : a ∈ (if i = 0 then fp else []) := h1
      by_cases hi : i = 0
      · rw [if_pos hi] at h1
        exact ⟨(hf a h1).1, (hf a h1).2, .inl ⟨h1, hi⟩⟩
      · rw [if_neg hi] at h1; cases h1
  have fin : ∀ {σ' : L2.St} {ρ' : List Sl} {Hb' H' : Hp} {fp' : Nat → List Addr} {v : V} {d : D} {b' : β}, EnvW ⟨K, fp, Hb, H⟩ σ' ρ' Hb' H' fp' → Rp K Hb' v d → post b ds b' d → ρ'[0]? = some (.ow (R h b')) → Q v H' := fun {σ' ρ' Hb' H' fp' v d b'} W' hv hp he => by
    obtain ⟨u, eu, hu⟩ := W'.owns he
    have := hR h b' _ _ _ _ hu
    subst this
    refine q v d b' Hb' H' (fp' 0) hp W'.st hu (fun a ha => ?_) hv
    obtain ⟨f1, f2, f3⟩ := W'.fr 0 a ha
    rcases f3 with z | z
    · exact .inl z.1
    · exact .inr ⟨z, f1, f2⟩
  refine read ⟨K, fp, Hb, H⟩ h b ds rfl p (L2.start N (.ref h :: rest)) Hb H _ _ W0 ⟨fun σ' ρ' Hb' H' fp' _ W' ⟨b', hp, he⟩ => ?_, fun σ' v s' ρ' Hb' H' fp' fv _ G ⟨d, b', e, hp, he⟩ => ?_, fun _ _ _ _ _ _ _ z => z, fun _ _ _ _ _ _ _ z => z⟩
  · exact fin W' .non hp he
  · subst e
    exact fin G.env G.data hp he
end

/-! ### calls of one's own defs -/
/-- a def that can be called: its promise, where it stands -/
structure Callee (P : Program) (w : World) (K : PySem.W.Frag) (mg : Str → Option Value) (base : Heap) (k : Nat) (x : Str) (ps : List Str) (sp : Sp) : Prop where
  ex : ∃ f fd, FnOk P w K mg base CX0 k f fd ps sp ∧ mg x = some (.ref f) ∧ PySem.W.keepIn K (.ref f) = true ∧ Binds K fd ps []
theorem Callee.mono {P : Program} {w : World} {K : PySem.W.Frag} {mg : Str → Option Value} {base : Heap} {j k : Nat} {x : Str} {ps : List Str} {sp : Sp} (G : Callee P w K mg base j x ps sp) (h : j ≤ k) : Callee P w K mg base k x ps sp :=
  let ⟨f, fd, h1, h2⟩ := G.ex
  ⟨f, fd, h1.mono h, h2⟩
abbrev tUser (sp : Sp) (t : TA) : TE := tCall sp [] E0 t
theorem pe_user {X : Cx} {k : Nat} {ps : List Str} {sp : Sp} {x : Str} {p pos : Pos} {e : Expr} {es : List Expr} {t : TA} (G : Callee X.prog X.w X.K X.mg X.base k x ps sp) (hr : Room k X.A) (hg : Gl X x) (ha : PA X (e :: es) t) (hdb : (x == ("__debug__" : Str)) = false := by decide)
    (he : starEach (e :: es) X.env = (false, eval e X.env) :: starEach es X.env := by rfl) (hpl : (backTo pos (starEach es X.env)).any (·.1) = false := by rfl) : PE X (.Call (.Name x p) (e :: es) [] pos) (tUser sp t) := by
  obtain ⟨f, fd, h1, h2, h3, h4⟩ := G.ex
  exact pe_call h1 hr hg h2 h3 h4 .nil pass0 ha hdb he hpl

section
variable {C : Cc} {ρ : List Sl} {x y z : D} {s : Sl} {xs ds : List D} {te ta tb : TE} {tA tr : TA} {P : Sl → List Sl → Prop} {rel : List D → (Sl → Prop) → Prop}
theorem on_user {S : Sl → Prop} (h : rel xs S) (hs : ∀ s', S s' → s' = s) : OpN C.K (fun vs H Q => pureSp C.K rel (vs ++ []) H Q E0) xs s := fun Hb H vs Q sm hv q =>
  ⟨Hb, xs, S, sm, by rw [List.append_nil]; exact hv, h, fun v s' Hb' H' fv e t ok f => by rw [hs s' e] at ok; exact q v Hb' H' fv t ok f⟩
theorem ev_user {S : Sl → Prop} (ha : PEvA C tA ρ xs) (h : rel xs S) (hs : ∀ s', S s' → s' = s) : PEv C (tUser (pureSp C.K rel) tA) ρ s := ev_call (r := fun vs H Q => pureSp C.K rel (vs ++ []) H Q E0) ha (on_user h hs)
theorem ev_dat {f : List D → D → Prop} (ha : PEvA C tA ρ xs) (h : f xs x) : PD C (tUser (datSp C.K f) tA) ρ x := ev_user ha ⟨x, h, rfl⟩ fun _ e => e
theorem ev_lstf {f : List D → List D → Prop} (ha : PEvA C tA ρ xs) (h : f xs ds) (l : Lsl C.K ds s) : PEv C (tUser (lstSp C.K f) tA) ρ s := ev_user ha ⟨ds, s, h, l, rfl⟩ fun _ e => e
/-- .. arguments that are looked at, a flat answer -/
theorem vv_user {S : Sl → Prop} (ha : VEvA C tA ρ xs) (h : rel xs S) (hs : ∀ s', S s' → s' = .d z) (f : flatD z = true := by rfl) : PD C (tUser (pureSp C.K rel) tA) ρ z := vv_call (r := fun vs H Q => pureSp C.K rel (vs ++ []) H Q E0) ha (on_user h hs) f
theorem vv_dat {f : List D → D → Prop} (ha : VEvA C tA ρ xs) (h : f xs z) (fl : flatD z = true := by rfl) : PD C (tUser (datSp C.K f) tA) ρ z := vv_user ha ⟨z, h, rfl⟩ (fun _ e => e) fl
theorem ef_user (h : EvA C tA ρ fun xs ρ1 => ∃ S, rel xs S ∧ ∀ s, S s → P s ρ1) : Ev C (tUser (pureSp C.K rel) tA) ρ P := fun σ Hb H fp W Q q =>
  h σ Hb H fp W _ fun vs xs ρ1 Hb1 H1 fp1 sm W1 hv ⟨S, hr, p⟩ => ⟨Hb1, xs, S, W1.same, by rw [List.append_nil]; exact hv, hr, fun v s Hb' H' fv e t ok f => Res1.got W1 sm q (p s e) v Hb' H' fv t ok f⟩
/-- the first argument's object may change -/
theorem ef_eff {β : Type} {R : Addr → β → Res} {pre : β → List D → Prop} {post : β → List D → β → D → Prop} {i : Nat} {h : Addr} {b : β} (hi : ρ[i]? = some (.ow (R h b))) (hR : ∀ h b Hb H v fp, (R h b).holds Hb H v fp → v = .ref h)
    (ha : EvA C tA ρ fun ds ρ1 => ∃ b1, ρ1[i]? = some (.ow (R h b1)) ∧ pre b1 ds ∧ ∀ d b', post b1 ds b' d → P (.d d) (ρ1.set i (.ow (R h b')))) : Ev C (tUser (effSp C.K R pre post) (tCons (tVar i) tA)) ρ P := fun σ Hb H fp W Q q => by
  obtain ⟨v, ev, hv⟩ := W.owns hi
  obtain rfl := hR _ _ _ _ _ _ hv
  refine ⟨_, ev, ha σ Hb H fp W _ fun vs ds ρ1 Hb1 H1 fp1 sm W1 hvs ⟨b1, h1, p1, k⟩ => ?_⟩
  obtain ⟨v1, ev1, hv1⟩ := W1.owns h1
  rw [ev] at ev1; cases ev1
  refine ⟨Hb1, h, vs, fp1 i, b1, ds, by rw [List.append_nil], W1.same, hv1, fun a ha => ⟨(W1.fr i a ha).1, (W1.fr i a ha).2.1⟩, hvs, p1, fun w d b' Hb' H' fp' hp t ho hf hw => ?_⟩
  have hil : i < σ.length := (List.getElem?_eq_some_iff.mp ev).1
  have W2 : EnvW C σ (ρ1.set i (.ow (R h b'))) Hb' H' (fun j => if j = i then fp' else fp1 j) := W1.write t (fun a ha => ha) hil (fun v' e' => by
    rw [ev] at e'; cases e'
    exact ⟨_, rfl, ho⟩) hf
  refine q w (.d d) _ Hb' H' _ [] ?_ ⟨W2, ⟨_, rfl, hw⟩, fun _ z => nomatch z⟩ (k d b' hp)
  have fr2 : Fr (In fp1) Hb1 H1 Hb' H' (In fun j => if j = i then fp' else fp1 j) := ⟨t.b, fun a o hn e => t.k a o (fun z => hn ⟨i, z⟩) e, fun a _ e => t.f a e, fun a ⟨j, hj⟩ => by
    have hj : a ∈ (if j = i then fp' else fp1 j) := hj
    by_cases e : j = i
    · rw [if_pos e] at hj
      rcases hf a hj with z | z
      · exact .inl ⟨i, z⟩
      · exact .inr z.1
    · rw [if_neg e] at hj; exact .inl ⟨j, hj⟩⟩
  exact (sm.etrans fr2).to fun a z => z.elim (fun z => nomatch z) id

/-! ### what is owned -/
theorem in_drop {fp : Nat → List Addr} {i : Nat} : ∀ a, In (fun j => if j = i then [] else fp j) a → In fp a := fun a ⟨j, hj⟩ => by
  have hj : a ∈ (if j = i then [] else fp j) := hj
  by_cases e : j = i
  · rw [if_pos e] at hj; cases hj
  · rw [if_neg e] at hj; exact ⟨j, hj⟩
/-- a slot is given up -/
theorem EnvW.dropAt {σ : L2.St} {Hb H : Hp} {fp : Nat → List Addr} (W : EnvW C σ ρ Hb H fp) (i : Nat) : EnvW C σ (ρ.set i .no) Hb H (fun j => if j = i then [] else fp j) where
  st := W.st
  len := by rw [List.length_set]; exact W.len
  sl := fun j v s h1 h2 => by
    by_cases hj : j = i
    · subst hj
      have := (List.getElem?_eq_some_iff.mp h2).1
      rw [List.length_set] at this
      rw [List.getElem?_set_self this] at h2
      cases h2; trivial
    · rw [List.getElem?_set_ne (Ne.symm hj)] at h2
      show SlOk C.K Hb H v (if j = i then [] else fp j) s
      rw [if_neg hj]
      exact W.sl j v s h1 h2
  dj := fun j k a h1 h2 => by
    have h1 : a ∈ (if j = i then [] else fp j) := h1
    have h2 : a ∈ (if k = i then [] else fp k) := h2
    by_cases hj : j = i
    · rw [if_pos hj] at h1; cases h1
    · by_cases hk : k = i
      · rw [if_pos hk] at h2; cases h2
      · rw [if_neg hj] at h1; rw [if_neg hk] at h2
        exact W.dj j k a h1 h2
  fr := fun j a h1 => by
    have h1 : a ∈ (if j = i then [] else fp j) := h1
    by_cases hj : j = i
    · rw [if_pos hj] at h1; cases h1
    · rw [if_neg hj] at h1; exact W.fr j a h1
/-- name i's object is handed on, the name forgotten -/
theorem ef_move {i : Nat} {r : Res} (hi : ρ[i]? = some (.ow r)) (p : P (.ow r) (ρ.set i .no)) (h0 : i ≠ 0 := by decide) : Ev C (tVar i) ρ P := fun σ Hb H fp W Q q => by
  obtain ⟨v, ev, hv⟩ := W.owns hi
  refine ⟨v, ev, q v (.ow r) _ Hb H _ (fp i) (Fr.refl.to fun a ha => ha.elim (fun z => ⟨i, z⟩) (in_drop a)) ⟨W.dropAt i, ⟨_, rfl, hv⟩, fun a ha => ?_⟩ p⟩
  obtain ⟨f1, f2, f3⟩ := W.fr i a ha
  refine ⟨f1, f2, f3.resolve_left fun z => h0 z.2, fun j hj => ?_⟩
  have hj : a ∈ (if j = i then [] else fp j) := hj
  by_cases e : j = i
  · rw [if_pos e] at hj; cases hj
  · rw [if_neg e] at hj; exact e (W.dj j i a hj ha)
/-- name i's list is frozen: from here on it is data -/
theorem EnvW.freezeAt {σ : L2.St} {Hb H : Hp} {fp : Nat → List Addr} {i : Nat} (W : EnvW C σ ρ Hb H fp) (hi : ρ[i]? = some (own C.K xs)) (hM : ∀ a, a ∈ fp i → a ∈ C.M → i ≠ 0) :
    ∃ v Hb', σ[i]? = some (some v) ∧ Rp C.K Hb' v (.list xs) ∧ EnvW C σ (ρ.set i (.d (.list xs))) Hb' H (fun j => if j = i then [] else fp j) ∧ Fr (In fp) Hb H Hb' H (In fun j => if j = i then [] else fp j) := by
  obtain ⟨v, ev, a, vs, rfl, ef, ha, hv⟩ := W.owns hi
  have ma : a ∈ fp i := by rw [ef]; exact List.mem_singleton.mpr rfl
  obtain ⟨f1, f2, f3⟩ := W.fr i a ma
  have hC : C.H a = none := f3.resolve_left fun z => hM a ma z.1 z.2
  have W1 := W.dropAt i
  have n1 : ¬ In (fun j => if j = i then [] else fp j) a := fun ⟨j, hj⟩ => by
    have hj : a ∈ (if j = i then [] else fp j) := hj
    by_cases e : j = i
    · rw [if_pos e] at hj; cases hj
    · rw [if_neg e] at hj; exact e (W.dj j i a hj ma)
  have W2 := W1.freeze f1 n1 hC ha
  have sb : Same Hb (upd Hb a (.lst vs)) := fun x u e => by rw [upd_ne (ne_of_none e f1)]; exact e
  have hr : Rp C.K (upd Hb a (.lst vs)) (.ref a) (.list xs) := .lst upd_same (hv.mono sb)
  refine ⟨.ref a, upd Hb a (.lst vs), ev, hr, ⟨W2.st, by have := W2.len; rwa [List.length_set] at this ⊢, fun j u s h1 h2 => ?_, W2.dj, W2.fr⟩, ⟨sb, fun _ _ _ e => e, fun x hx e => ?_, fun x hx => .inl (in_drop x hx)⟩⟩
  · by_cases hj : j = i
    · subst hj
      have := (List.getElem?_eq_some_iff.mp h2).1
      rw [List.length_set] at this
      rw [List.getElem?_set_self this] at h2
      rw [ev] at h1
      cases h1; cases h2
      exact ⟨_, rfl, hr⟩
    · rw [List.getElem?_set_ne (Ne.symm hj)] at h2
      exact W2.sl j u s h1 (by rw [List.getElem?_set_ne (Ne.symm hj)]; exact h2)
  · rw [upd_ne (fun z => hx ⟨i, by rw [z]; exact ma⟩)]
theorem ef_freeze {i : Nat} (hM : C.M = []) (hi : ρ[i]? = some (own C.K xs)) (p : P (.d (.list xs)) (ρ.set i (.d (.list xs)))) : Ev C (tVar i) ρ P := fun σ Hb H fp W Q q => by
  obtain ⟨v, Hb', ev, hr, W', fr⟩ := W.freezeAt hi fun a _ z => by rw [hM] at z; cases z
  exact ⟨v, ev, q v _ _ Hb' H _ [] (fr.to fun a ha => ha.elim (fun z => nomatch z) id) ⟨W', (show SlOk C.K Hb' H (some v) [] (.d (.list xs)) from ⟨_, rfl, hr⟩), fun _ z => nomatch z⟩ p⟩
/-- .. any but the first -/
theorem ef_frz {i : Nat} (hi : ρ[i]? = some (own C.K xs)) (p : P (.d (.list xs)) (ρ.set i (.d (.list xs)))) (h0 : i ≠ 0 := by decide) : Ev C (tVar i) ρ P := fun σ Hb H fp W Q q => by
  obtain ⟨v, Hb', ev, hr, W', fr⟩ := W.freezeAt hi fun a _ _ => h0
  exact ⟨v, ev, q v _ _ Hb' H _ [] (fr.to fun a ha => ha.elim (fun z => nomatch z) id) ⟨W', (show SlOk C.K Hb' H (some v) [] (.d (.list xs)) from ⟨_, rfl, hr⟩), fun _ z => nomatch z⟩ p⟩
/-- xs.append(e) -/
theorem ex_append {i : Nat} {Po : Po} (hi : ρ[i]? = some (own C.K xs)) (h : Ev C te ρ fun s ρ1 => ∃ x ys, s = .d x ∧ ρ1[i]? = some (own C.K ys) ∧ ys.length < 10000000 ∧ Po.nx (ρ1.set i (own C.K (ys ++ [x])))) :
    Ex C (tDrop (tBM C.K "list" rAppend (tVar i) (tCons te tNil))) ρ Po := fun σ Hb H fp E W q => by
  obtain ⟨v, ev, a, vs, rfl, ef, ha, hv⟩ := W.owns hi
  refine ⟨.ref a, ev, .inl ⟨rfl, vs, .of ha⟩, h σ Hb H fp W _ fun y s ρ1 Hb1 H1 fp1 fv sm G ⟨x, ys, e, h1, hl, p⟩ => ?_⟩
  subst e
  have W1 := G.env
  obtain ⟨v1, ev1, a1, us, rfl, ef1, ha1, hv1⟩ := W1.owns h1
  rw [ev] at ev1; cases ev1
  refine ⟨a, us, y, rfl, rfl, ha1, by rw [hv1.length]; exact szl hl, ?_⟩
  have ma : a ∈ fp1 i := by rw [ef1]; exact List.mem_singleton.mpr rfl
  obtain ⟨f1, f2, f3⟩ := W1.fr i a ma
  have t : Step (fp1 i) Hb1 H1 Hb1 (upd H1 a (.lst (us ++ [y]))) := Step.wr W1.same f1 ma
  have W2 := W1.write (s := own C.K (ys ++ [x])) (fpi := [a]) t (fun b hb => hb) (List.getElem?_eq_some_iff.mp ev).1 (fun v' e' => by
    rw [ev] at e'; cases e'
    exact ⟨_, rfl, a, us ++ [y], rfl, rfl, upd_same, hv1.append (.one G.data)⟩) fun b hb => .inl (by rw [List.mem_singleton.mp hb]; exact ma)
  refine q.nx σ _ Hb1 _ _ ?_ W2 p
  have fr2 : Fr (In fp1) Hb1 H1 Hb1 (upd H1 a (.lst (us ++ [y]))) (In fun j => if j = i then [a] else fp1 j) := ⟨Same.refl _, fun b o hn e => t.k b o (fun z => hn ⟨i, z⟩) e, fun _ _ _ => rfl, fun b ⟨j, hj⟩ => by
    have hj : b ∈ (if j = i then [a] else fp1 j) := hj
    by_cases e : j = i
    · rw [if_pos e] at hj; exact .inl ⟨i, by rw [List.mem_singleton.mp hj]; exact ma⟩
    · rw [if_neg e] at hj; exact .inl ⟨j, hj⟩⟩
  exact sm.vtrans fr2
/-- xs[j] = e -/
theorem ex_setix {i : Nat} {Po : Po} {ti : TE} (h : Ev C te ρ fun s ρ1 => ∃ x ys n k, s = .d x ∧ ρ1[i]? = some (own C.K ys) ∧ PD C ti ρ1 (.int n) ∧ ixN ys.length n = some k ∧ Po.nx (ρ1.set i (own C.K (ys.set k x)))) :
    Ex C (tAsg te (gSub (tVar i) ti rSetL)) ρ Po := fun σ Hb H fp E W q =>
  h σ Hb H fp W _ fun y s ρ1 Hb1 H1 fp1 fv sm G ⟨x, ys, n, k, e, h1, hti, hk, p⟩ => by
    subst e
    have W1 := G.env
    obtain ⟨v1, ev1, a, us, rfl, ef1, ha1, hv1⟩ := W1.owns h1
    refine ⟨.ref a, ev1, hti σ Hb1 H1 fp1 W1 _ fun iv Hb2 H2 _ t2 ⟨_, ei, hi⟩ _ => ?_⟩
    cases ei; cases hi
    have W2 := W1.step t2
    have ma : a ∈ fp1 i := by rw [ef1]; exact List.mem_singleton.mpr rfl
    obtain ⟨f1, f2, f3⟩ := W2.fr i a ma
    have ha2 := t2.same _ _ ha1
    refine ⟨a, us, n, k, rfl, rfl, ha2, by rw [hv1.length]; exact hk, ?_⟩
    have t : Step (fp1 i) Hb2 H2 Hb2 (upd H2 a (.lst (us.set k y))) := Step.wr W2.same f1 ma
    have W3 := W2.write (s := own C.K (ys.set k x)) (fpi := [a]) t (fun b hb => hb) (List.getElem?_eq_some_iff.mp ev1).1 (fun v' e' => by
      rw [ev1] at e'; cases e'
      exact ⟨_, rfl, a, us.set k y, rfl, rfl, upd_same, RpAll.set (G.data.mono t2.b) k (hv1.mono t2.b)⟩) fun b hb => .inl (by rw [List.mem_singleton.mp hb]; exact ma)
    refine q.nx σ _ Hb2 _ _ ?_ W3 p
    have fr2 : Fr (In fp1) Hb2 H2 Hb2 (upd H2 a (.lst (us.set k y))) (In fun j => if j = i then [a] else fp1 j) := ⟨Same.refl _, fun b o hn e => t.k b o (fun z => hn ⟨i, z⟩) e, fun _ _ _ => rfl, fun b ⟨j, hj⟩ => by
      have hj : b ∈ (if j = i then [a] else fp1 j) := hj
      by_cases e : j = i
      · rw [if_pos e] at hj; exact .inl ⟨i, by rw [List.mem_singleton.mp hj]; exact ma⟩
      · rw [if_neg e] at hj; exact .inl ⟨j, hj⟩⟩
    exact (sm.vtrans (.of t2)).etrans fr2
end

/-! ### a dict of the module, asked with a default -/
section
variable {X : Cx} {o e f : Expr} {apos cpos : Pos} {td ty tx : TE} {d : Addr} {es : Array DictEntry} {n : Nat}
def tKGet2 (K : PySem.W.Frag) (d : Addr) (ty tx : TE) : TE := fun σ H Q => ty σ H fun y H1 => tx σ H1 fun z H2 => ∃ (k : Str) (r : Option V) (r' : Option Value), y = .str k ∧ PySem.W.nsIn K d k = some r' ∧ RelO r r' ∧ Q (r.getD z) H2
theorem pe_kget2 (D : KDict X.K X.w d es n) (ho : PE X o (tC (.ref d))) (he : PE X e ty) (hf : PE X f tx) (m : M2 X o "get" apos e f cpos) : PE X (.Call (.Attribute o "get" apos) [e, f] [] cpos) (tKGet2 X.K d ty tx) := by
  refine ⟨fun pins s σ H Q I h => ?_⟩
  refine wpAny_Call_method m.base m.few m.line PySem.F.plainAttrs_dict PySem.F.slot_dict_get PySem.F.type_dict_get (thn (ho.run pins s σ H (fun x H' => x = .ref d ∧ H' = H) I ⟨rfl, rfl⟩) fun u s1 ⟨x, H1, I1, rx, ex, eH⟩ => ?_)
  subst ex; subst eH
  obtain rfl : u = Value.ref d := rx
  refine ⟨kd_type D I1, fun a q => ?_, ?_⟩
  · cases q
    exact ⟨_, I1.kIn _ _ D.at_, rfl⟩
  rw [m.trees]
  refine Calls.callWith_builtin rfl (Calls.evalArgs_plain (Calls.spliced_cons (thn (he.run pins s1 σ H1 _ I1 h) fun iv s2 ⟨y, H2, I2, ry, q2⟩ =>
    Calls.spliced_cons (thn (hf.run pins s2 σ H2 _ I2 q2) fun fv s3 ⟨z, H3, I3, rz, k, r, r', ey, hn, hr, q3⟩ => Calls.spliced_nil ?_))))
  subst ey
  obtain ⟨t, rfl⟩ := ry
  refine call_meetsIn PySem.F.slot_dict_get (kd_type D I3) PySem.F.entry_dict_get (PySem.F.args_dict_get_3 _ _ _) (meets_dict_get_default (strKind X.prog X.w) d (PySem.strKind_is X.prog X.w k t) D.low fv) ⟨_, PySem.W.mapOf_K (prog := X.prog) I3.kIn D.at_ D.lit, ?_⟩
  rw [PySem.W.find_K D.at_ hn]
  refine ⟨_, H3, I3.tok _, ?_, q3⟩
  cases r with
  | none => cases r' with
    | none => exact rz
    | some u => exact hr.elim
  | some v => cases r' with
    | none => exact hr.elim
    | some u => exact hr
theorem pe_kget2x (D : ∃ es n, KDict X.K X.w d es n) (ho : PE X o (tC (.ref d))) (he : PE X e ty) (hf : PE X f tx) (m : M2 X o "get" apos e f cpos) : PE X (.Call (.Attribute o "get" apos) [e, f] [] cpos) (tKGet2 X.K d ty tx) :=
  let ⟨_, _, D⟩ := D; pe_kget2 D ho he hf m
theorem ev_kget2 {C : Cc} {ρ : List Sl} {k : Str} {z : D} {x : D} (he : PD C ty ρ (.str k)) (hf : PD C tx ρ z) (h : ∀ zv H, Rp C.K H zv z → ∃ (r : Option V) (r' : Option Value), PySem.W.nsIn C.K d k = some r' ∧ RelO r r' ∧ Rp C.K H (r.getD zv) x) : PD C (tKGet2 C.K d ty tx) ρ x := fun σ Hb H fp W Q q =>
  he σ Hb H fp W _ fun y Hb1 H1 _ t1 ⟨_, e1, h1⟩ _ => hf σ Hb1 H1 fp (W.step t1) _ fun zv Hb2 H2 _ t2 ⟨_, e2, h2⟩ _ => by
    cases e1; cases e2; cases h1
    obtain ⟨r, r', a, b, c⟩ := h zv Hb2 h2
    exact ⟨k, r, r', rfl, a, b, (q.after (t1.trans0 t2)).flat t2.s c⟩
end
end DL
set_option Elab.async false
set_option linter.all false
set_option maxRecDepth 100000
set_option maxHeartbeats 4000000
/-! DF: the program's data: words, deeds, programs, memories; the text's constants. -/
namespace DL
open PySem PySem.Spec L2

/-! ### the text's own values, as terms -/
section
variable {X : Cx} {x : Str} {pos : Pos}
theorem pe_gint {i : Int} (h : ∃ t, X.mg x = some (.int i t)) (hg : Gl X x) (hd : (x == ("__debug__" : Str)) = false := by decide) : PE X (.Name x pos) (tC (.int i)) :=
  let ⟨t, e⟩ := h; pe_glob hg e ⟨t, rfl⟩ hd
theorem pe_gstr {i : Str} (h : ∃ t, X.mg x = some (.str i t)) (hg : Gl X x) (hd : (x == ("__debug__" : Str)) = false := by decide) : PE X (.Name x pos) (tC (.str i)) :=
  let ⟨t, e⟩ := h; pe_glob hg e ⟨t, rfl⟩ hd
theorem pe_gref {a : Addr} (h : X.mg x = some (.ref a)) (hg : Gl X x) (hd : (x == ("__debug__" : Str)) = false := by decide) : PE X (.Name x pos) (tC (.ref a)) := pe_glob hg h rfl hd
end
theorem _root_.L2.Room.u1 {k : Nat} {A : Around} (r : Room k A) : A.units + 1 < cLine := by have := r.un; omega
theorem _root_.L2.Room.u65 {k : Nat} {A : Around} (r : Room k A) : A.units + 65 < cLine := by have := r.un; omega
abbrev rPowA : R2 := rI CPow fun i j => .int (i ^ j.toNat)
theorem op_powA {X : Cx} : OpR X (binaryOp .Pow) rPowA := op_pow

/-- where the text's tuples and dicts stand -/
structure Ad where
  aWORTHS : Addr
  aSIZES : Addr
  aREST : Addr
  aRULES : Addr
  aBench : Addr

/-! ### words -/
abbrev wRead : Str := "read"
abbrev wWrite : Str := "write"
abbrev wRest : Str := "rest"
theorem ok_read : PyData.strOk wRead = true := by decide +kernel
theorem ok_write : PyData.strOk wWrite = true := by decide +kernel
theorem ok_rest : PyData.strOk wRest = true := by decide +kernel
theorem ne_rr : (wRead == wRest) = false := by decide +kernel
theorem ne_wr : (wWrite == wRest) = false := by decide +kernel
theorem ne_rw : (wRead == wWrite) = false := by decide +kernel
theorem ne_ew : (wRest == wWrite) = false := by decide +kernel
theorem ne_er : (wRest == wRead) = false := by decide +kernel
theorem ne_wR : (wWrite == wRead) = false := by decide +kernel
theorem eq_rr : (wRead == wRead) = true := by decide +kernel
theorem eq_ww : (wWrite == wWrite) = true := by decide +kernel
theorem eq_ee : (wRest == wRest) = true := by decide +kernel
theorem eqv_str (a b : Str) : PyData.eqv (.str a) (.str b) = (a == b) := by unfold PyData.eqv; rfl
theorem eqv_int (a b : Int) : PyData.eqv (.int a) (.int b) = (a == b) := by unfold PyData.eqv; rfl
theorem eqv_bool (a b : Bool) : PyData.eqv (.bool a) (.bool b) = (a == b) := by unfold PyData.eqv; rfl
theorem sh_str {x : Str} (h : PyData.strOk x = true) : SeqAt.shaped (.str x) = true := (shN.str (n := 0) h).shaped
theorem sh_int {i : Int} : SeqAt.shaped (.int i) = true := (shN.int (n := 0)).shaped
theorem sh_bool {b : Bool} : SeqAt.shaped (.bool b) = true := (shN.bool (n := 0)).shaped

/-! ### deeds, programs -/
inductive Deed where
  | rest
  | read (c : Nat)
  | write (c w : Nat)
  deriving DecidableEq
namespace Deed
def word : Deed → Str
  | .rest => wRest
  | .read _ => wRead
  | .write _ _ => wWrite
def args : Deed → List D
  | .rest => []
  | .read c => [.int (c : Nat)]
  | .write c w => [.int (c : Nat), .int (w : Nat)]
def enc (d : Deed) : D := .tuple (.str d.word :: d.args)
def isRest : Deed → Bool
  | .rest => true
  | _ => false
def isRead : Deed → Bool
  | .read _ => true
  | _ => false
def isWrite : Deed → Bool
  | .write _ _ => true
  | _ => false
def cell : Deed → Nat
  | .rest => 0
  | .read c => c
  | .write c _ => c
def Good (cells : Nat) : Deed → Prop
  | .rest => True
  | .read c => c < cells
  | .write c w => c < cells ∧ w < 3
def clash (a b : Deed) : Bool := !a.isRest && !b.isRest && (a.cell == b.cell) && (a.isWrite || b.isWrite)
theorem Good.mono {m n : Nat} (h : m ≤ n) : ∀ {d : Deed}, Good m d → Good n d
  | .rest, _ => trivial
  | .read _, g => Nat.lt_of_lt_of_le g h
  | .write _ _, ⟨g, g2⟩ => ⟨Nat.lt_of_lt_of_le g h, g2⟩
theorem word_ok (d : Deed) : PyData.strOk d.word = true := by cases d; exact ok_rest; exact ok_read; exact ok_write
theorem word_rest (d : Deed) : (d.word == wRest) = d.isRest := by cases d; exact eq_ee; exact ne_rr; exact ne_wr
theorem word_write (d : Deed) : (d.word == wWrite) = d.isWrite := by cases d; exact ne_ew; exact ne_rw; exact eq_ww
theorem word_read (d : Deed) : (d.word == wRead) = d.isRead := by cases d; exact ne_er; exact eq_rr; exact ne_wR
theorem at0 (d : Deed) : atI (.str d.word :: d.args) 0 = some (.str d.word) := atI_nat (j := 0) rfl
theorem at1 {d : Deed} (h : d.isRest = false) : atI (.str d.word :: d.args) 1 = some (.int (d.cell : Nat)) := by
  cases d with
  | rest => cases h
  | read c => exact atI_nat (j := 1) rfl
  | write c w => exact atI_nat (j := 1) rfl
theorem shp (d : Deed) : shN 1 d.enc := .tuple fun x hx => by
  rcases List.mem_cons.mp hx with e | hx
  · rw [e]; exact .str d.word_ok
  · cases d with
    | rest => cases hx
    | read c => rw [List.mem_singleton.mp hx]; exact .int
    | write c w =>
      rcases List.mem_cons.mp hx with e | hx
      · rw [e]; exact .int
      · rw [List.mem_singleton.mp hx]; exact .int
end Deed
def encs (l : List Deed) : List D := l.map Deed.enc
abbrev encP (l : List Deed) : D := .list (encs l)
def GoodP (cells : Nat) (l : List Deed) : Prop := ∀ d ∈ l, d.Good cells
theorem encs_len (l : List Deed) : (encs l).length = l.length := List.length_map _
theorem encs_at {l : List Deed} {i : Nat} (h : i < l.length) : itemOf (encs l) i = (l[i]'h).enc := itemOf_some (by
  unfold encs
  rw [List.getElem?_map, List.getElem?_eq_getElem h]
  rfl)
theorem shp_P (l : List Deed) : shN 2 (encP l) := .list fun x hx => by
  obtain ⟨d, _, rfl⟩ := List.mem_map.mp hx
  exact d.shp
end DL
set_option Elab.async false
set_option linter.all false
set_option maxRecDepth 100000
set_option maxHeartbeats 4000000
/-! DG: is_deed, need_program, need_both, do_clash, clashes. -/
namespace DL
open PySem PySem.Spec L2

/-- back with this datum -/
abbrev retD (d : D) : Po := { nx := fun _ => (Sl.d .none) = .d d, rt := fun s _ => s = .d d }
section
variable {C : Cc} {ρ : List Sl} {te ta tb : TE} {d : Deed} {c w : Nat}
/-! ### looks at a deed -/
theorem ev_w0 (h : PD C te ρ d.enc) : PD C (tOp (rIx C.K) te (tC (.int 0))) ρ (.str d.word) := ev_op h ev_int (o2_ixT d.at0)
theorem ev_c1 (h : PD C te ρ d.enc) (hr : d.isRest = false) : PD C (tOp (rIx C.K) te (tC (.int 1))) ρ (.int (d.cell : Nat)) := ev_op h ev_int (o2_ixT (Deed.at1 hr))
theorem ev_w2 (h : PD C te ρ (Deed.write c w).enc) : PD C (tOp (rIx C.K) te (tC (.int 2))) ρ (.int (w : Nat)) := ev_op h ev_int (o2_ixT (atI_nat (j := 2) rfl))
theorem ev_eqRest (h : PD C te ρ d.enc) : PD C (tOp (rEqD C.K) (tOp (rIx C.K) te (tC (.int 0))) (tC (.str "rest"))) ρ (.bool d.isRest) :=
  ev_is (ev_op (ev_w0 h) ev_str (o2_eq (sh_str d.word_ok) (sh_str ok_rest))) (by rw [eqv_str, d.word_rest])
theorem ev_neRest (h : PD C te ρ d.enc) : PD C (tOp (rNeD C.K) (tOp (rIx C.K) te (tC (.int 0))) (tC (.str "rest"))) ρ (.bool (!d.isRest)) :=
  ev_is (ev_op (ev_w0 h) ev_str (o2_ne (sh_str d.word_ok) (sh_str ok_rest))) (by rw [eqv_str, d.word_rest])
theorem ev_eqWrite (h : PD C te ρ d.enc) : PD C (tOp (rEqD C.K) (tOp (rIx C.K) te (tC (.int 0))) (tC (.str "write"))) ρ (.bool d.isWrite) :=
  ev_is (ev_op (ev_w0 h) ev_str (o2_eq (sh_str d.word_ok) (sh_str ok_write))) (by rw [eqv_str, d.word_write])
theorem ev_neWrite (h : PD C te ρ d.enc) : PD C (tOp (rNeD C.K) (tOp (rIx C.K) te (tC (.int 0))) (tC (.str "write"))) ρ (.bool (!d.isWrite)) :=
  ev_is (ev_op (ev_w0 h) ev_str (o2_ne (sh_str d.word_ok) (sh_str ok_write))) (by rw [eqv_str, d.word_write])
theorem ev_eqRead (h : PD C te ρ d.enc) : PD C (tOp (rEqD C.K) (tOp (rIx C.K) te (tC (.int 0))) (tC (.str "read"))) ρ (.bool d.isRead) :=
  ev_is (ev_op (ev_w0 h) ev_str (o2_eq (sh_str d.word_ok) (sh_str ok_read))) (by rw [eqv_str, d.word_read])
theorem ev_eqI {i j : Int} (ha : PD C ta ρ (.int i)) (hb : PD C tb ρ (.int j)) : PD C (tOp (rEqD C.K) ta tb) ρ (.bool (i == j)) := ev_is (ev_op ha hb (o2_eq sh_int sh_int)) (by rw [eqv_int])
theorem ev_neI {i j : Int} (ha : PD C ta ρ (.int i)) (hb : PD C tb ρ (.int j)) : PD C (tOp (rNeD C.K) ta tb) ρ (.bool (!(i == j))) := ev_is (ev_op ha hb (o2_ne sh_int sh_int)) (by rw [eqv_int])
end

/-! ### do_clash -/
def t_do_clash (K : PySem.W.Frag) (A : Ad) : TS :=
  (tSeq (tIfS (tOr (tTest (tOp (rEqD K) (tOp (rIx K) (tVar 0) (tC (.int 0))) (tC (.str "rest")))) (tOr (tTest (tOp (rEqD K) (tOp (rIx K) (tVar 1) (tC (.int 0))) (tC (.str "rest")))) (tTest (tOp (rNeD K) (tOp (rIx K) (tVar 0) (tC (.int 1))) (tOp (rIx K) (tVar 1) (tC (.int 1))))))) (tRet (tC (.bl false))) tNext)
    (tRet (tOrV (tOp (rEqD K) (tOp (rIx K) (tVar 0) (tC (.int 0))) (tC (.str "write"))) (tOp (rEqD K) (tOp (rIx K) (tVar 1) (tC (.int 0))) (tC (.str "write"))))))

def sp_do_clash (K : PySem.W.Frag) (A : Ad) : Sp := datSp K fun ds r => ∃ a b : Deed, ds = [a.enc, b.enc] ∧ r = .bool (a.clash b)
theorem clash_cells {a b : Deed} (h1 : a.isRest = false) (h2 : b.isRest = false) : a.clash b = ((a.cell == b.cell) && (a.isWrite || b.isWrite)) := by
  unfold Deed.clash
  rw [h1, h2]; rfl
theorem rd_do_clash {C : Cc} {A : Ad} (a b : Deed) : Ex C (t_do_clash C.K A) [.d a.enc, .d b.enc] (retD (.bool (a.clash b))) := by
  refine ex_seq (ex_ifp (et_or (et_test (ev_eqRest (d := a) (ev_var rfl))) fun h1 => et_or (et_test (ev_eqRest (d := b) (ev_var rfl))) fun h2 => et_test (ev_neI (ev_c1 (d := a) (ev_var rfl) h1) (ev_c1 (d := b) (ev_var rfl) h2))) (fun h => ?_) fun h => ?_)
  · refine ex_ret (ef_d ev_bl ?_)
    have : a.clash b = false := by
      cases h1 : a.isRest with
      | true => unfold Deed.clash; rw [h1]; rfl
      | false =>
        cases h2 : b.isRest with
        | true => unfold Deed.clash; rw [h1, h2]; rfl
        | false =>
          rw [h1, h2, Bool.false_or, Bool.false_or] at h
          rw [clash_cells h1 h2]
          have : (a.cell == b.cell) = false := by
            have h : ((a.cell : Int) == (b.cell : Int)) = false := by simpa using h
            have h := beq_eq_false_iff_ne.mp h
            exact beq_eq_false_iff_ne.mpr fun e => h (by rw [e])
          rw [this]; rfl
    rw [this]
  · refine ex_next ?_
    have h1 : a.isRest = false := by
      cases h1 : a.isRest with
      | true => rw [h1] at h; cases h
      | false => rfl
    have h2 : b.isRest = false := by
      cases h2 : b.isRest with
      | true => rw [h1, h2] at h; cases h
      | false => rfl
    rw [h1, h2, Bool.false_or, Bool.false_or] at h
    have h3 : a.cell = b.cell := by
      have h : ((a.cell : Int) == (b.cell : Int)) = true := by simpa using h
      have := eq_of_beq h
      omega
    refine ex_ret (ef_d (ev_orV (ev_eqWrite (d := a) (ev_var rfl)) fun _ => ev_eqWrite (d := b) (ev_var rfl)) ?_)
    rw [clash_cells h1 h2, h3, beq_self_eq_true, Bool.true_and]

/-! ### is_deed -/
/-- the text's tuples and dicts, as data -/
def WorthsOk (K : PySem.W.Frag) (A : Ad) : Prop := ∀ H, Rp K H (.ref A.aWORTHS) (.tuple [.int 0, .int 1, .int 2])
def SizesOk (K : PySem.W.Frag) (A : Ad) : Prop := ∀ (d : Deed), ∃ t, PySem.W.nsIn K A.aSIZES d.word = some (some (.int (d.args.length + 1 : Nat) t))
def RestOk (K : PySem.W.Frag) (A : Ad) : Prop := ∀ H, Rp K H (.ref A.aREST) Deed.rest.enc
def t_is_deed (K : PySem.W.Frag) (A : Ad) : TS :=
  (tSeq (tIfS (tOr (tTest (tOp (rEqD K) (tCB (rLenA K) (tCons (tVar 1) tNil)) (tC (.int 0)))) (tTest (tOp (rNeD K) (tKGet2 K A.aSIZES (tOp (rIx K) (tVar 1) (tC (.int 0))) (tC (.int 0))) (tCB (rLenA K) (tCons (tVar 1) tNil))))) (tRet (tC (.bl false))) tNext)
    (tSeq (tIfS (tAnd (tTest (tOp (rNeD K) (tOp (rIx K) (tVar 1) (tC (.int 0))) (tC (.str "rest")))) (tNot (tTest (tChain rLeA rLtA (tC (.int 0)) (tOp (rIx K) (tVar 1) (tC (.int 1))) (tVar 0))))) (tRet (tC (.bl false))) tNext)
    (tRet (tOrV (tOp (rNeD K) (tOp (rIx K) (tVar 1) (tC (.int 0))) (tC (.str "write"))) (tOp (rInA K) (tOp (rIx K) (tVar 1) (tC (.int 2))) (tC (.ref A.aWORTHS)))))))

def sp_is_deed (K : PySem.W.Frag) (A : Ad) : Sp := datSp K fun ds r => ∃ (cells : Nat) (d : Deed), ds = [.int (cells : Nat), d.enc] ∧ d.Good cells ∧ r = .bool true
theorem rd_is_deed {C : Cc} {A : Ad} (hW : WorthsOk C.K A) (hS : SizesOk C.K A) {cells : Nat} {d : Deed} (hd : d.Good cells) : Ex C (t_is_deed C.K A) [.d (.int (cells : Nat)), .d d.enc] (retD (.bool true)) := by
  have hlen : (Sl.d d.enc) = .d (.tuple (.str d.word :: d.args)) := rfl
  refine ex_seq (ex_ifp (b := false) (et_is (et_or (et_test (ev_eqI (ev_call (ea_one (ev_var rfl)) (on_lenT (ds := .str d.word :: d.args))) ev_int)) fun _ => et_test (ev_neI (ev_kget2 (z := .int 0) (x := .int (d.args.length + 1 : Nat)) (ev_w0 (d := d) (ev_var rfl)) ev_int fun zv H hz => ?_) (ev_call (ea_one (ev_var rfl)) (on_lenT (ds := .str d.word :: d.args))))) ?_) (fun h => nomatch h) fun _ => ex_next ?_)
  · obtain ⟨t, e⟩ := hS d
    exact ⟨some (.int (d.args.length + 1 : Nat)), _, e, ⟨t, rfl⟩, .int _⟩
  · rw [List.length_cons, beq_self_eq_true]
    simp
    omega
  refine ex_seq (ex_ifp (b := false) (et_is (b := !d.isRest && !(decide ((0 : Int) ≤ (d.cell : Nat)) && decide ((d.cell : Int) < (cells : Nat)))) (et_and (et_test (ev_neRest (d := d) (ev_var rfl))) fun h1 => et_not (et_test (ev_chain ev_int (ev_c1 (d := d) (ev_var rfl) (by simpa using h1)) o2_leI fun _ => ⟨ev_var rfl, o2_ltI⟩))) ?_) (fun h => nomatch h) fun _ => ex_next ?_)
  · cases d with
    | rest => rfl
    | read c =>
      have hd : c < cells := hd
      simp [Deed.isRest, Deed.cell]
      omega
    | write c w =>
      have hd : c < cells ∧ w < 3 := hd
      simp [Deed.isRest, Deed.cell]
      omega
  cases d with
  | rest => exact ex_ret (ef_d (ev_orV (b := true) (c := true) (ev_is (ev_op (ev_w0 (d := .rest) (ev_var rfl)) ev_str (o2_ne (sh_str ok_rest) (sh_str ok_write))) (by rw [eqv_str]; show PyData.bool (!(wRest == wWrite)) = _; rw [ne_ew]; rfl)) (fun h => nomatch h)) rfl)
  | read c => exact ex_ret (ef_d (ev_orV (b := true) (c := true) (ev_is (ev_op (ev_w0 (d := .read c) (ev_var rfl)) ev_str (o2_ne (sh_str ok_read) (sh_str ok_write))) (by rw [eqv_str]; show PyData.bool (!(wRead == wWrite)) = _; rw [ne_rw]; rfl)) (fun h => nomatch h)) rfl)
  | write c w =>
    have hd : c < cells ∧ w < 3 := hd
    refine ex_ret (ef_d (ev_orV (b := false) (c := true) (ev_is (ev_op (ev_w0 (d := .write c w) (ev_var rfl)) ev_str (o2_ne (sh_str ok_write) (sh_str ok_write))) (by rw [eqv_str]; show PyData.bool (!(wWrite == wWrite)) = _; rw [eq_ww]; rfl)) fun _ => ev_is (ev_op (ev_w2 (c := c) (w := w) (ev_var rfl)) (ev_const hW) (o2_inT rfl rfl)) ?_) rfl)
    unfold inDt
    simp only [List.any_cons, List.any_nil, eqv_int]
    have : w = 0 ∨ w = 1 ∨ w = 2 := by omega
    rcases this with e | e | e <;> subst e <;> rfl

/-! ### need_program, need_both -/
def t_need_program (K : PySem.W.Frag) (A : Ad) : TS :=
  (tFor (iEnum K (tCons (tVar 2) tNil)) (gTup K 2 (gCons (gName 4) (gCons (gName 5) gNil))) (tIfS (tOr (tTest (tOp rGeA (tVar 4) (tVar 3))) (tNot (tB (tUser (sp_is_deed K A) (tCons (tVar 0) (tCons (tVar 5) tNil)))))) tNever tNext))

def sp_need_program (K : PySem.W.Frag) (A : Ad) : Sp := datSp K fun ds r => ∃ (cells door most : Nat) (l : List Deed), ds = [.int (cells : Nat), .int (door : Nat), encP l, .int (most : Nat)] ∧ GoodP cells l ∧ l.length ≤ most ∧ r = .none
theorem rd_need_program {C : Cc} {A : Ad} {cells door most : Nat} {l : List Deed} (hl : GoodP cells l) (hm : l.length ≤ most) : Ex C (t_need_program C.K A) [.d (.int (cells : Nat)), .d (.int (door : Nat)), .d (encP l), .d (.int (most : Nat)), .no, .no] (retD .none) := by
  refine ex_for (ei_p (pi_enu (ea_one (ev_var rfl))) ⟨fun _ ρ => ∃ s1 s2, ρ = [.d (.int (cells : Nat)), .d (.int (door : Nat)), .d (encP l), .d (.int (most : Nat)), s1, s2], ⟨_, _, rfl⟩, fun i ρ hi ⟨s1, s2, e⟩ => ?_, fun _ _ => rfl⟩)
  subst e
  rw [encs_len] at hi
  rw [encs_at hi]
  refine eg_tup rfl (egs_cons (eg_name (egs_cons (eg_name (egs_nil ?_)))))
  refine ex_ifp (b := false) (et_is (et_or (et_test (ev_op (ev_var rfl) (ev_var rfl) o2_geI)) fun _ => et_not (et_B (ev_dat (x := .bool true) (ea_two (ev_var rfl) (ev_var rfl)) ⟨cells, l[i], rfl, hl _ (List.getElem_mem hi), rfl⟩))) ?_) (fun h => nomatch h) fun _ => ex_next ⟨_, _, rfl⟩
  simp
  omega
def t_need_both (K : PySem.W.Frag) (A : Ad) : TS :=
  (tSeq (tDrop (tUser (sp_need_program K A) (tCons (tVar 0) (tCons (tC (.int 0)) (tCons (tVar 1) (tCons (tVar 3) tNil))))))
    (tDrop (tUser (sp_need_program K A) (tCons (tVar 0) (tCons (tC (.int 1)) (tCons (tVar 2) (tCons (tVar 3) tNil)))))))

def sp_need_both (K : PySem.W.Frag) (A : Ad) : Sp := datSp K fun ds r => ∃ (cells most : Nat) (l r' : List Deed), ds = [.int (cells : Nat), encP l, encP r', .int (most : Nat)] ∧ GoodP cells l ∧ GoodP cells r' ∧ l.length ≤ most ∧ r'.length ≤ most ∧ r = .none
theorem rd_need_both {C : Cc} {A : Ad} {cells most : Nat} {l r : List Deed} (hl : GoodP cells l) (hr : GoodP cells r) (h1 : l.length ≤ most) (h2 : r.length ≤ most) :
    Ex C (t_need_both C.K A) [.d (.int (cells : Nat)), .d (encP l), .d (encP r), .d (.int (most : Nat))] (retD .none) := by
  refine ex_seq (ex_drop (ef_d (ev_dat (x := .none) (ea_cons (ev_var rfl) (ea_cons (ev_int (i := ((0 : Nat) : Int))) (ea_two (ev_var rfl) (ev_var rfl)))) ⟨cells, 0, most, l, rfl, hl, h1, rfl⟩) ?_))
  exact ex_drop (ef_d (ev_dat (x := .none) (ea_cons (ev_var rfl) (ea_cons (ev_int (i := ((1 : Nat) : Int))) (ea_two (ev_var rfl) (ev_var rfl)))) ⟨cells, 1, most, r, rfl, hr, h2, rfl⟩) rfl)

/-! ### clashes -/
def t_clashes (K : PySem.W.Frag) (A : Ad) : TS :=
  (tSeq (tDrop (tUser (sp_need_both K A) (tCons (tC (.int 4)) (tCons (tVar 0) (tCons (tVar 1) (tCons (tC (.int 40)) tNil))))))
    (tRet (tLc (iRng1 (tCons (tCB (rMinA) (tCons (tCB (rLenA K) (tCons (tVar 0) tNil)) (tCons (tCB (rLenA K) (tCons (tVar 1) tNil)) tNil))) tNil)) (gName 2) (tB (tUser (sp_do_clash K A) (tCons (tOp (rIx K) (tVar 0) (tVar 2)) (tCons (tOp (rIx K) (tVar 1) (tVar 2)) tNil)))) (tVar 2) [2])))

/-- the deed of a beat; a rest behind the last one -/
def deedAt (l : List Deed) (i : Nat) : Deed := l.getD i .rest
theorem deedAt_eq {l : List Deed} {i : Nat} (h : i < l.length) : deedAt l i = l[i] := by
  unfold deedAt
  rw [List.getD_eq_getElem?_getD, List.getElem?_eq_getElem h]
  rfl
theorem deedAt_out {l : List Deed} {i : Nat} (h : l.length ≤ i) : deedAt l i = .rest := by
  unfold deedAt
  rw [List.getD_eq_getElem?_getD, List.getElem?_eq_none h]
  rfl
/-- the beats in which both clash -/
def clashB (l r : List Deed) : List Nat := (List.range (min l.length r.length)).filter fun i => (deedAt l i).clash (deedAt r i)
def encN (ns : List Nat) : List D := ns.map fun n => .int (n : Nat)
def sp_clashes (K : PySem.W.Frag) (A : Ad) : Sp := lstSp K fun ds xs => ∃ l r : List Deed, ds = [encP l, encP r] ∧ GoodP 4 l ∧ GoodP 4 r ∧ l.length ≤ 40 ∧ r.length ≤ 40 ∧ xs = encN (clashB l r)
theorem encs_atI {l : List Deed} {i : Nat} (h : i < l.length) : atI (encs l) (i : Nat) = some (deedAt l i).enc := atI_nat (by
  rw [deedAt_eq h]
  unfold encs
  rw [List.getElem?_map, List.getElem?_eq_getElem h]
  rfl)
theorem min_nat (a b : Nat) : (if (b : Int) < (a : Int) then (b : Int) else (a : Int)) = ((min a b : Nat) : Int) := by
  split <;> omega
theorem rd_clashes {C : Cc} {A : Ad} {l r : List Deed} {s : Sl} (hl : GoodP 4 l) (hr : GoodP 4 r) (h1 : l.length ≤ 40) (h2 : r.length ≤ 40) (ls : Lsl C.K (encN (clashB l r)) s) :
    Ex C (t_clashes C.K A) [.d (encP l), .d (encP r), .no] { nx := fun _ => (Sl.d .none) = s, rt := fun s' _ => s' = s } := by
  refine ex_seq (ex_drop (ef_d (ev_dat (x := .none) (ea_cons (ev_int (i := ((4 : Nat) : Int))) (ea_cons (ev_var rfl) (ea_two (ev_var rfl) (ev_int (i := ((40 : Nat) : Int)))))) ⟨4, 40, l, r, rfl, hl, hr, h1, h2, rfl⟩) ?_))
  refine ex_ret (ef_p (ev_lc (fun i => [.d (encP l), .d (encP r), .d (.int (i : Nat))]) (fun i => (deedAt l i).clash (deedAt r i)) (fun i => .int (i : Nat)) (pi_r1 (j := ((min l.length r.length : Nat) : Int)) (ea_one (ev_is (ev_call (ea_two (ev_call (ea_one (ev_var rfl)) (on_lenL (ds := encs l))) (ev_call (ea_one (ev_var rfl)) (on_lenL (ds := encs r)))) on_min) (by rw [encs_len, encs_len, min_nat]))) (by omega)) (by omega) (fun i hi => gp_name (List.mem_singleton.mpr rfl)) (fun i hi => ?_) (fun i _ _ => ev_var rfl) (s := s) ?_) rfl)
  · have hi : i < min l.length r.length := by omega
    exact et_B (ev_dat (ea_two (ev_op (ev_var rfl) (ev_var rfl) (o2_ixL (encs_atI (l := l) (by omega)))) (ev_op (ev_var rfl) (ev_var rfl) (o2_ixL (encs_atI (l := r) (by omega))))) ⟨_, _, rfl, rfl⟩)
  · exact ls
end DL
set_option Elab.async false
set_option linter.all false
set_option maxRecDepth 100000
set_option maxHeartbeats 4000000
/-! DH: the script, what is drawn from it: _law_mix, _law_next, _law_deed, _law_program. -/
namespace DL
open PySem PySem.Spec PyProof.Rows L2

/-! ### the script: read, never written -/
def Res.scr (K : PySem.W.Frag) (a : Addr) (ns : List Int) : Res where
  holds := fun Hb H v fp => v = .ref a ∧ fp = [] ∧ SqL K Hb a (ns.map V.int)
  mono := fun ⟨e, ef, h⟩ s _ => ⟨e, ef, s.seq h⟩
/-- a def whose first argument is the script -/
def scrSp (K : PySem.W.Frag) (pre : List Int → List D → Prop) (S : List Int → List D → Sl → Prop) : Sp := fun vs H Q _ => ∃ Hb a ns rest ds, vs = .ref a :: rest ∧ Same Hb H ∧ SqL K Hb a (ns.map V.int) ∧ RpAll K Hb rest ds ∧ pre ns ds ∧
  ∀ v s Hb' H' fv, S ns ds s → Step [] Hb H Hb' H' → SlOk K Hb' H' (some v) fv s → (∀ a ∈ fv, Hb' a = none ∧ H' a ≠ none ∧ H a = none) → Q v H'
section
variable {P : Program} {w : World} {K : PySem.W.Frag} {mg : Str → Option Value} {base : Heap}
theorem fn_scr {x qual : Str} {st : Stmt} {f : Addr} {fd : FuncData} {N ps : List Str} {k : Nat} {pre : List Int → List D → Prop} {S : List Int → List D → Sl → Prop} (F : Fun K x qual st f fd) (Sc : FnScope N ps (defScope st)) (hlen : ∀ ns ds, pre ns ds → ds.length + 1 = ps.length) (t : TS)
    (term : ∀ (cdv : Value) (A : Around) (outer : List Env) (s : Shared) (H : Hp) (E : XK), Room k (A.deeper (envOfC qual (defScope st) s.heap.objs.size f cdv)) → PSs (cxOf CX0 P w K mg base N qual (defScope st) f cdv A outer s H E).nox (defBody st) t)
    (read : ∀ (C : Cc) a ns ds, C.K = K → C.M = [] → pre ns ds → Ex C t (.ow (.scr K a ns) :: (ds.map .d ++ List.replicate (N.length - (ds.length + 1)) .no)) { nx := fun _ => S ns ds (.d .none), rt := fun s _ => S ns ds s }) : FnOk P w K mg base CX0 (k + 1) f fd ps (scrSp K pre S) := by
  refine F.ok Sc (fun vs H Q E ⟨Hb, a, ns, rest, ds, e, sm, hs, h, r, q⟩ => by rw [e, List.length_cons, h.length]; exact hlen ns ds r) fun cdv A outer s H vs Q E hr ⟨Hb, a, ns, rest, ds, e, sm, hs, h, r, q⟩ => ⟨t, term cdv A outer s H E hr, ?_⟩
  subst e
  have W0 : EnvW ⟨K, [], Hb, H⟩ (L2.start N (.ref a :: rest)) (.ow (.scr K a ns) :: (ds.map .d ++ List.replicate (N.length - (ds.length + 1)) .no)) Hb H (fun _ => []) := by
    refine ⟨Step.refl sm, ?_, fun i v s h1 h2 => ?_, fun _ _ _ z => (nomatch z), fun _ _ z => (nomatch z)⟩
    · unfold L2.start
      rw [List.length_append, List.length_map, List.length_replicate, List.length_cons, List.length_cons, List.length_append, List.length_map, List.length_replicate, h.length]
      omega
    · cases i with
      | zero =>
        have h1 : some (some (V.ref a)) = some v := h1
        have h2 : some (Sl.ow (Res.scr K a ns)) = some s := h2
        cases h1; cases h2
        exact ⟨_, rfl, rfl, rfl, hs⟩
      | succ i =>
        have h2 : (ds.map Sl.d ++ List.replicate (N.length - (ds.length + 1)) Sl.no)[i]? = some s := h2
        by_cases hi : i < ds.length
        · rw [List.getElem?_append_left (by simpa using hi), List.getElem?_map, List.getElem?_eq_getElem hi] at h2
          cases h2
          rcases start_get h1 with ⟨_, u, hu, rfl⟩ | ⟨hj, _⟩
          · have hu : rest[i]? = some u := hu
            obtain ⟨d', e', r⟩ := h.get' hu
            rw [List.getElem?_eq_getElem hi] at e'; cases e'
            exact ⟨u, rfl, r⟩
          · rw [List.length_cons, h.length] at hj; omega
        · rw [List.getElem?_append_right (by simpa using hi), List.getElem?_replicate] at h2
          split at h2
          · cases h2; trivial
          · cases h2
  refine read ⟨K, [], Hb, H⟩ a ns ds rfl rfl r (L2.start N (.ref a :: rest)) Hb H (fun _ => []) _ W0 ⟨fun σ' ρ' Hb' H' fp' _ W' p => ?_, fun σ' v s' ρ' Hb' H' fp' fv _ G p => ?_, fun _ _ _ _ _ _ _ z => z, fun _ _ _ _ _ _ _ z => z⟩
  · exact q .non (.d .none) Hb' H' [] p W'.st ⟨_, rfl, .non⟩ fun _ z => nomatch z
  · exact q v s' Hb' H' fv p G.env.st G.ok fun a ha => ⟨(G.nw a ha).1, (G.nw a ha).2.1, (G.nw a ha).2.2.1⟩
end
section
variable {C : Cc} {ρ : List Sl} {te : TE} {tA : TA} {i : Nat} {a : Addr} {ns : List Int} {s : Sl} {P : Sl → List Sl → Prop}
theorem ef_scr {pre : List Int → List D → Prop} {S : List Int → List D → Sl → Prop} (hi : ρ[i]? = some (.ow (.scr C.K a ns))) (h : EvA C tA ρ fun ds ρ1 => pre ns ds ∧ ∀ s, S ns ds s → P s ρ1) : Ev C (tUser (scrSp C.K pre S) (tCons (tVar i) tA)) ρ P := fun σ Hb H fp W Q q => by
  obtain ⟨v, ev, rfl, ef, hs⟩ := W.owns hi
  exact ⟨_, ev, h σ Hb H fp W _ fun vs ds ρ1 Hb1 H1 fp1 sm W1 hv ⟨hp, p⟩ => ⟨Hb1, a, ns, vs, ds, by rw [List.append_nil], W1.same, sm.b.seq hs, hv, hp, fun v s Hb' H' fv e t ok f => Res1.got W1 sm q (p s e) v Hb' H' fv t ok f⟩⟩
def intAt (ns : List Int) (i : Nat) : D := .int (ns.getD i 0)
theorem pi_scr (hi : ρ[i]? = some (.ow (.scr C.K a ns))) : PEvI C (iList C.K (tVar i)) ρ ns.length (intAt ns) := fun σ Hb H fp W R q => by
  obtain ⟨v, ev, rfl, ef, hs⟩ := W.owns hi
  refine ⟨_, ev, a, rfl, ⟨_, W.same.seq hs⟩, q _ Hb H (Step.refl W.same) ⟨fun Hb' H' s1 s2 => ⟨_, s2.seq (s1.seq hs), by rw [List.length_map]; exact Nat.le_refl _⟩, fun j Hb' H' hj s1 s2 => ?_⟩⟩
  have hx : (ns.map V.int)[j]? = some (.int (ns.getD j 0)) := by
    rw [List.getElem?_map, List.getD_eq_getElem?_getD, List.getElem?_eq_getElem hj]
    rfl
  refine ⟨⟨_, _, s2.seq (s1.seq hs), hx⟩, fun y H2 ⟨e1, e2⟩ => ?_⟩
  subst e1
  have := e2 _ (s2.seq (s1.seq hs))
  rw [hx] at this; cases this
  exact ⟨Hb', Step.refl s2, .int _⟩
theorem ints_rp {K : PySem.W.Frag} {H : Hp} : ∀ ns : List Int, RpAll K H (ns.map V.int) (ns.map fun n => (.int n : D))
  | [] => .nil
  | n :: ns => .cons (.int n) (ints_rp ns)
theorem rp_ints {K : PySem.W.Frag} {H : Hp} : ∀ {ns : List Int} {vs : List V}, RpAll K H vs (ns.map fun n => (.int n : D)) → vs = ns.map V.int
  | [], _, h => by cases h; rfl
  | n :: ns, _, h => by
    cases h with
    | cons h1 h2 =>
      cases h1
      rw [rp_ints h2]; rfl
end

/-! ### the state that is drawn from -/
structure RSt where
  m : Int
  cs : List Int
  p : Int
def bitOk (z : Int) : Prop := z.natAbs.log2 ≤ 1048576
structure RSt.Ok (r : RSt) : Prop where
  m0 : 0 ≤ r.m
  m1 : r.m < 2147483647
  bits : ∀ z ∈ r.cs, bitOk z
  len : r.cs.length ≤ 63
def intsD (ns : List Int) : List D := ns.map fun n => .int n
def Res.rng (h : Addr) (r : RSt) : Res where
  holds := fun _ H v fp => ∃ l, v = .ref h ∧ fp = [h, l] ∧ h ≠ l ∧ H h = some (.lst [.int r.m, .ref l, .int r.p]) ∧ H l = some (.lst (r.cs.map V.int))
  mono := fun ⟨l, e, ef, n, h1, h2⟩ _ k => ⟨l, e, ef, n, (k _ (by rw [ef]; exact List.mem_cons_self)).trans h1, (k _ (by rw [ef]; exact List.mem_cons_of_mem _ List.mem_cons_self)).trans h2⟩
/-- .. whatever it is -/
def Res.rnd (h : Addr) : Res where
  holds := fun Hb H v fp => ∃ r : RSt, r.Ok ∧ (Res.rng h r).holds Hb H v fp
  mono := fun ⟨r, ok, x⟩ s k => ⟨r, ok, (Res.rng h r).mono x s k⟩
abbrev rnd (h : Addr) : Sl := .ow (.rnd h)
/-- a def that draws: its first argument is the state -/
abbrev drawSp (K : PySem.W.Frag) (pre : List D → Prop) (post : List D → D → Prop) : Sp := effSp (β := Unit) K (fun h _ => .rnd h) (fun _ ds => pre ds) (fun _ ds _ d => post ds d)
theorem rnd_ref : ∀ (h : Addr) (b : Unit) (Hb H : Hp) (v : V) (fp : List Addr), (Res.rnd h).holds Hb H v fp → v = .ref h := fun h b Hb H v fp ⟨r, _, l, e, _⟩ => e
section
variable {C : Cc} {ρ : List Sl} {te ti : TE} {tA : TA} {i : Nat} {h : Addr} {r : RSt} {s : Sl} {P : Sl → List Sl → Prop} {Po' : Po}
theorem ef_draw {pre : List D → Prop} {post : List D → D → Prop} (hi : ρ[i]? = some (rnd h)) (ha : EvA C tA ρ fun ds ρ1 => ρ1[i]? = some (rnd h) ∧ pre ds ∧ ∀ d, post ds d → P (.d d) ρ1) : Ev C (tUser (drawSp C.K pre post) (tCons (tVar i) tA)) ρ P :=
  ef_eff (R := fun h (_ : Unit) => .rnd h) (b := ()) hi rnd_ref fun σ Hb H fp W Q q => ha σ Hb H fp W Q fun vs ds ρ' Hb' H' fp' sm W' hv ⟨h1, h2, h3⟩ => q vs ds ρ' Hb' H' fp' sm W' hv ⟨(), h1, h2, fun d _ hp => by
    have : ρ'.set i (.ow (.rnd h)) = ρ' := by
      refine List.ext_getElem? fun j => ?_
      by_cases hj : i = j
      · subst hj; rw [List.getElem?_set_self (List.getElem?_eq_some_iff.mp h1).1]; exact h1.symm
      · rw [List.getElem?_set_ne hj]
    rw [this]; exact h3 d hp⟩
/-! looks at the state -/
theorem rg_m (hi : ρ[i]? = some (.ow (.rng h r))) : PD C (tOp (rIx C.K) (tVar i) (tC (.int 0))) ρ (.int r.m) := fun σ Hb H fp W Q q => by
  obtain ⟨v, ev, l, rfl, ef, n, h1, h2⟩ := W.owns hi
  exact ⟨_, ev, .inl ⟨h, _, 0, .int r.m, rfl, rfl, .of h1, atI_nat (j := 0) rfl, q.flat W.same (.int _)⟩⟩
theorem rg_p (hi : ρ[i]? = some (.ow (.rng h r))) : PD C (tOp (rIx C.K) (tVar i) (tC (.int 2))) ρ (.int r.p) := fun σ Hb H fp W Q q => by
  obtain ⟨v, ev, l, rfl, ef, n, h1, h2⟩ := W.owns hi
  exact ⟨_, ev, .inl ⟨h, _, 2, .int r.p, rfl, rfl, .of h1, atI_nat (j := 2) rfl, q.flat W.same (.int _)⟩⟩
theorem rg_c (hi : ρ[i]? = some (.ow (.rng h r))) : VEv C (tOp (rIx C.K) (tVar i) (tC (.int 1))) ρ (.list (intsD r.cs)) := fun σ Hb H fp W Q q => by
  obtain ⟨v, ev, l, rfl, ef, n, h1, h2⟩ := W.owns hi
  exact ⟨_, ev, .inl ⟨h, _, 1, .ref l, rfl, rfl, .of h1, atI_nat (j := 1) rfl, q _ Hb H (Step.refl W.same) (.lst h2 (ints_rp _))⟩⟩
theorem rng_write {σ : L2.St} {Hb H : Hp} {fp : Nat → List Addr} {r' : RSt} {p : Addr} {o : HO} {l : Addr} (W : EnvW C σ ρ Hb H fp) (hi : ρ[i]? = some (.ow (.rng h r))) (ef : fp i = [h, l]) (hn : h ≠ l) (hp : p = h ∨ p = l)
    (n1 : upd H p o h = some (.lst [.int r'.m, .ref l, .int r'.p])) (n2 : upd H p o l = some (.lst (r'.cs.map V.int))) (ev : σ[i]? = some (some (.ref h))) :
    ∃ fp', EnvW C σ (ρ.set i (.ow (.rng h r'))) Hb (upd H p o) fp' ∧ Fr (In fp) Hb H Hb (upd H p o) (In fp') := by
  have mp : p ∈ fp i := by
    rw [ef]
    rcases hp with e | e
    · rw [e]; exact List.mem_cons_self
    · rw [e]; exact List.mem_cons_of_mem _ List.mem_cons_self
  obtain ⟨f1, f2, f3⟩ := W.fr i p mp
  have t : Step (fp i) Hb H Hb (upd H p o) := Step.wr W.same f1 mp
  refine ⟨_, W.write (s := .ow (.rng h r')) (fpi := fp i) t (fun b hb => hb) (List.getElem?_eq_some_iff.mp ev).1 (fun v' e' => by
    rw [ev] at e'; cases e'
    exact ⟨_, rfl, l, rfl, ef, hn, n1, n2⟩) fun b hb => .inl hb, ⟨Same.refl _, fun b u hx e => t.k b u (fun z => hx ⟨i, z⟩) e, fun _ _ _ => rfl, fun b ⟨j, hj⟩ => ?_⟩⟩
  have hj : b ∈ (if j = i then fp i else fp j) := hj
  by_cases e : j = i
  · rw [if_pos e] at hj; exact .inl ⟨i, hj⟩
  · rw [if_neg e] at hj; exact .inl ⟨j, hj⟩
/-- h[1][at] = e -/
theorem rg_setc {z n : Int} {k : Nat} (hi : ρ[i]? = some (.ow (.rng h r))) (he : PD C te ρ (.int z)) (ht : PD C ti ρ (.int n)) (hk : ixN r.cs.length n = some k) (p : Po'.nx (ρ.set i (.ow (.rng h { r with cs := r.cs.set k z })))) :
    Ex C (tAsg te (gSub (tOp (rIx C.K) (tVar i) (tC (.int 1))) ti rSetL)) ρ Po' := fun σ Hb H fp E W q =>
  he σ Hb H fp W _ fun v Hb1 H1 _ t1 ⟨_, e1, hv⟩ _ => by
    cases e1; cases hv
    have W1 := W.step t1
    obtain ⟨v, ev, l, rfl, ef, n', h1, h2⟩ := W1.owns hi
    refine ⟨_, ev, .inl ⟨h, _, 1, .ref l, rfl, rfl, .of h1, atI_nat (j := 1) rfl, ?_⟩⟩
    refine ht σ Hb1 H1 fp W1 _ fun iv Hb2 H2 _ t2 ⟨_, ei, hiv⟩ _ => ?_
    cases ei; cases hiv
    have W2 := W1.step t2
    have g1 := t2.same _ _ h1
    have g2 := t2.same _ _ h2
    refine ⟨l, _, n, k, rfl, rfl, g2, by rw [List.length_map]; exact hk, ?_⟩
    obtain ⟨fp', W3, fr⟩ := rng_write (r' := { r with cs := r.cs.set k z }) (p := l) (o := .lst ((r.cs.map V.int).set k (.int z))) W2 hi ef n' (.inr rfl) (by rw [upd_ne n']; exact g1) (by rw [upd_same, List.map_set]) ev
    exact q.nx σ _ Hb2 _ fp' (((Fr.of t1).etrans (.of t2)).etrans fr) W3 p
/-- h[0] = e -/
theorem rg_setm {z : Int} (hi : ρ[i]? = some (.ow (.rng h r))) (he : PD C te ρ (.int z)) (p : Po'.nx (ρ.set i (.ow (.rng h { r with m := z })))) : Ex C (tAsg te (gSub (tVar i) (tC (.int 0)) rSetL)) ρ Po' := fun σ Hb H fp E W q =>
  he σ Hb H fp W _ fun v Hb1 H1 _ t1 ⟨_, e1, hv⟩ _ => by
    cases e1; cases hv
    have W1 := W.step t1
    obtain ⟨v, ev, l, rfl, ef, n', h1, h2⟩ := W1.owns hi
    refine ⟨_, ev, h, _, 0, 0, rfl, rfl, h1, rfl, ?_⟩
    obtain ⟨fp', W3, fr⟩ := rng_write (r' := { r with m := z }) (p := h) (o := .lst [.int z, .ref l, .int r.p]) W1 hi ef n' (.inl rfl) upd_same (by rw [upd_ne n'.symm]; exact h2) ev
    exact q.nx σ _ Hb1 _ fp' ((Fr.of t1).etrans fr) W3 p
/-- h[2] = e -/
theorem rg_setp {z : Int} (hi : ρ[i]? = some (.ow (.rng h r))) (he : PD C te ρ (.int z)) (p : Po'.nx (ρ.set i (.ow (.rng h { r with p := z })))) : Ex C (tAsg te (gSub (tVar i) (tC (.int 2)) rSetL)) ρ Po' := fun σ Hb H fp E W q =>
  he σ Hb H fp W _ fun v Hb1 H1 _ t1 ⟨_, e1, hv⟩ _ => by
    cases e1; cases hv
    have W1 := W.step t1
    obtain ⟨v, ev, l, rfl, ef, n', h1, h2⟩ := W1.owns hi
    refine ⟨_, ev, h, _, 2, 2, rfl, rfl, h1, rfl, ?_⟩
    obtain ⟨fp', W3, fr⟩ := rng_write (r' := { r with p := z }) (p := h) (o := .lst [.int r.m, .ref l, .int z]) W1 hi ef n' (.inl rfl) upd_same (by rw [upd_ne n'.symm]; exact h2) ev
    exact q.nx σ _ Hb1 _ fp' ((Fr.of t1).etrans fr) W3 p
end
/-- the promise over a known state gives the promise over whatever state -/
theorem draw_of {K : PySem.W.Frag} {pre : List D → Prop} {post : List D → D → Prop} {vs : List V} {H : Hp} {Q : VK} {E : XK} (h : drawSp K pre post vs H Q E) :
    effSp (β := RSt) K (fun h r => .rng h r) (fun r ds => r.Ok ∧ pre ds) (fun _ ds r' d => r'.Ok ∧ post ds d) vs H Q E := by
  obtain ⟨Hb, h, rest, fp, _, ds, e, sm, ⟨r, ok, ho⟩, hf, hr, p, q⟩ := h
  exact ⟨Hb, h, rest, fp, r, ds, e, sm, ho, hf, hr, ⟨ok, p⟩, fun v d r' Hb' H' fp' ⟨ok', hp⟩ t ho' hf' hv => q v d () Hb' H' fp' hp t ⟨r', ok', ho'⟩ hf' hv⟩

/-! ### _law_next -/
def t_law_next (K : PySem.W.Frag) (A : Ad) : TS :=
  (tSeq (tAsg (tOp rModA (tOp (rIx K) (tVar 0) (tC (.int 2))) (tCB (rMaxA) (tCons (tC (.int 1)) (tCons (tCB (rLenA K) (tCons (tOp (rIx K) (tVar 0) (tC (.int 1))) tNil)) tNil)))) (gName 2))
    (tSeq (tAsg (tIf (tTest (tOp (rNeD K) (tOp (rIx K) (tVar 0) (tC (.int 1))) (tLst tNil))) (tOp (rIx K) (tOp (rIx K) (tVar 0) (tC (.int 1))) (tVar 2)) (tC (.int 0))) (gName 3))
    (tSeq (tIfS (tTest (tOp rGeA (tVar 3) (tOp rPowA (tC (.int 10)) (tC (.int 18))))) (tSeq (tAsg (tOp rDivA (tVar 3) (tVar 1)) (gSub (tOp (rIx K) (tVar 0) (tC (.int 1))) (tVar 2) rSetL))
    (tRet (tOp rModA (tVar 3) (tVar 1)))) tNext)
    (tSeq (tAsg (tOp rModA (tOp (rAddA K) (tOp (rAddA K) (tOp rMulA (tOp (rIx K) (tVar 0) (tC (.int 0))) (tC (.int 48271))) (tOp rMulA (tVar 3) (tC (.int 69621)))) (tC (.int 11))) (tC (.int 2147483647))) (gSub (tVar 0) (tC (.int 0)) rSetL))
    (tSeq (tAsg (tOp (rAddA K) (tOp (rIx K) (tVar 0) (tC (.int 2))) (tC (.int 1))) (gSub (tVar 0) (tC (.int 2)) rSetL))
    (tRet (tOp rModA (tOp rDivA (tOp (rIx K) (tVar 0) (tC (.int 0))) (tC (.int 7))) (tVar 1))))))))

def sp_law_next (K : PySem.W.Frag) (A : Ad) : Sp := drawSp K (fun ds => ∃ n : Nat, ds = [.int (n : Nat)] ∧ 0 < n ∧ n < 1000000000) (fun ds d => ∃ n r : Nat, ds = [.int (n : Nat)] ∧ r < n ∧ d = .int (r : Nat))
theorem log2_mono {a b : Nat} (h : a ≤ b) : a.log2 ≤ b.log2 := by
  by_cases ha : a = 0
  · subst ha; exact Nat.zero_le _
  · have hb : b ≠ 0 := by omega
    refine Nat.le_of_not_lt fun hlt => ?_
    have h1 := (Nat.log2_lt hb).mp hlt
    have h2 := Nat.log2_self_le ha
    omega
theorem log2_le {a k : Nat} (h : a < 2 ^ k) (hk : 0 < k) : a.log2 < k := by
  by_cases ha : a = 0
  · subst ha; exact hk
  · exact (Nat.log2_lt ha).mpr h
theorem ixN_mod {n : Nat} {p : Int} (hn : 0 < n) : ∃ k, ixN n (p % (n : Int)) = some k ∧ k < n ∧ p % (n : Int) = (k : Nat) := by
  have h1 := Int.emod_nonneg p (show (n : Int) ≠ 0 by omega)
  have h2 := Int.emod_lt_of_pos p (show (0 : Int) < n by omega)
  refine ⟨(p % (n : Int)).toNat, ?_, by omega, by omega⟩
  unfold ixN
  rw [if_pos h1, if_pos h2]
theorem mod_draw {z : Int} {n : Nat} (hn : 0 < n) : ∃ r : Nat, r < n ∧ z % (n : Int) = (r : Nat) := by
  have h1 := Int.emod_nonneg z (show (n : Int) ≠ 0 by omega)
  have h2 := Int.emod_lt_of_pos z (show (0 : Int) < n by omega)
  exact ⟨(z % (n : Int)).toNat, by omega, by omega⟩
theorem eqv_ints_nil (cs : List Int) : PyData.eqv (.list (intsD cs)) (.list []) = cs.isEmpty := by
  cases cs <;> rfl
theorem sh_ints (cs : List Int) : SeqAt.shaped (.list (intsD cs)) = true := (shN.list (n := 0) fun d hd => by
  obtain ⟨z, _, rfl⟩ := List.mem_map.mp hd
  exact .int).shaped
theorem rd_law_next {C : Cc} {A : Ad} {h : Addr} {r : RSt} {n : Nat} (ok : r.Ok) (hn : 0 < n) (hn2 : n < 1000000000) : Ex C (t_law_next C.K A) [.ow (.rng h r), .d (.int (n : Nat)), .no, .no]
    { nx := fun ρ' => False, rt := fun s ρ' => ∃ d r', s = .d d ∧ (RSt.Ok r' ∧ ∃ k : Nat, k < n ∧ d = .int (k : Nat)) ∧ ρ'[0]? = some (.ow (.rng h r')) } := by
  have hlen : ((intsD r.cs).length : Int) = (r.cs.length : Int) := by unfold intsD; rw [List.length_map]
  -- the place
  refine ex_seq (ex_set (s := .d (.int (r.p % ((max 1 r.cs.length : Nat) : Int)))) (ev_op (rg_p rfl) (ev_is (ev_call (ea_two ev_int (vv_call (va_cons (rg_c rfl) va_nil) (on_lenL (ds := intsD r.cs)))) on_max) ?_) (o2_modI (by omega))) ?_)
  · rw [hlen]
    congr 1
    split <;> omega
  -- the cell
  obtain ⟨k, hk, hk1, hk2⟩ := ixN_mod (n := max 1 r.cs.length) (p := r.p) (by omega)
  refine ex_seq (ex_set (s := .d (.int (r.cs.getD k 0))) (ev_if (b := !r.cs.isEmpty) (et_is (et_test (vv_op (rg_c rfl) (vv_of (ev_lst ea_nil)) (o2_ne (sh_ints r.cs) rfl))) (by rw [eqv_ints_nil])) (fun e => vv_op (rg_c rfl) (vv_of (ev_var rfl)) (o2_ixL ?_)) (fun e => ?_)) ?_)
  · have hne : 0 < r.cs.length := by
      cases q : r.cs with
      | nil => rw [q] at e; cases e
      | cons a b => exact Nat.succ_pos _
    rw [hk2]
    refine atI_nat ?_
    unfold intsD
    rw [List.getElem?_map, List.getD_eq_getElem?_getD, List.getElem?_eq_getElem (by omega)]
    rfl
  · have : r.cs = [] := by
      cases q : r.cs with
      | nil => rfl
      | cons a b => rw [q] at e; cases e
    rw [this]
    exact ev_int
  have hbit : bitOk (r.cs.getD k 0) := by
    rw [List.getD_eq_getElem?_getD]
    by_cases q : k < r.cs.length
    · rw [List.getElem?_eq_getElem q]; exact ok.bits _ (List.getElem_mem q)
    · rw [List.getElem?_eq_none (by omega)]; show Nat.log2 0 ≤ _; exact Nat.zero_le _
  generalize hz : r.cs.getD k 0 = z at hbit
  -- a cell of many digits
  refine ex_seq (ex_ifp (et_test (ev_op (ev_var rfl) (ev_op ev_int ev_int (o2_I ⟨by decide, by decide, by decide⟩ fun _ => .int _)) o2_geI)) (fun e => ?_) (fun e => ex_next ?_))
  · have e : (10 : Int) ^ (18 : Int).toNat ≤ z := of_decide_eq_true e
    have e : (1000000000000000000 : Int) ≤ z := e
    have hne : k < r.cs.length := by
      refine Nat.lt_of_not_le fun q => ?_
      rw [List.getD_eq_getElem?_getD, List.getElem?_eq_none q] at hz
      have : (0 : Int) = z := hz
      omega
    refine ex_seq (rg_setc (z := z / (n : Int)) (n := r.p % ((max 1 r.cs.length : Nat) : Int)) (k := k) rfl (ev_op (ev_var rfl) (ev_var rfl) (o2_divI (by omega) (by omega))) (ev_var rfl) (by rw [hk2]; unfold ixN; rw [if_pos (by omega), if_pos (by omega)]; simp) ?_)
    obtain ⟨q, hq, eq⟩ := mod_draw (z := z) hn
    refine ex_ret (ef_d (ev_is (ev_op (ev_var rfl) (ev_var rfl) (o2_modI (by omega))) (by rw [eq])) ⟨_, _, rfl, ⟨?_, q, hq, rfl⟩, rfl⟩)
    refine ⟨ok.m0, ok.m1, fun y hy => ?_, by show (r.cs.set k _).length ≤ 63; rw [List.length_set]; exact ok.len⟩
    rcases List.mem_or_eq_of_mem_set hy with m | m
    · exact ok.bits y m
    · rw [m]
      have h1 : z / (n : Int) ≤ z := Int.ediv_le_self _ (by omega)
      have h2 : 0 ≤ z / (n : Int) := Int.ediv_nonneg (by omega) (by omega)
      have h3 : (z / (n : Int)).natAbs ≤ z.natAbs := by omega
      exact Nat.le_trans (log2_mono h3) hbit
  -- the number is mixed
  have b1 : ∀ y : Int, 0 ≤ y → y < 2147483647 → y.natAbs.log2 < 31 := fun y h0 h1 => log2_le (by rw [show (2 : Nat) ^ 31 = 2147483648 by decide]; omega) (by decide)
  refine ex_seq (rg_setm (z := (r.m * 48271 + z * 69621 + 11) % 2147483647) rfl (ev_op (ev_op (ev_op (ev_op (rg_m rfl) ev_int (o2_mulI ?_)) (ev_op (ev_var rfl) ev_int (o2_mulI ?_)) o2_addI) ev_int o2_addI) ev_int (o2_modI (by decide))) ?_)
  · have := b1 r.m ok.m0 ok.m1
    have h2 : (48271 : Int).natAbs.log2 = 15 := by decide
    show r.m.natAbs.log2 + (48271 : Int).natAbs.log2 < 100000000
    omega
  · have h2 : (69621 : Int).natAbs.log2 = 16 := by decide
    have h1 : z.natAbs.log2 ≤ 1048576 := hbit
    show z.natAbs.log2 + (69621 : Int).natAbs.log2 < 100000000
    omega
  refine ex_seq (rg_setp (z := r.p + 1) rfl (ev_op (rg_p rfl) ev_int o2_addI) ?_)
  obtain ⟨q, hq, eq⟩ := mod_draw (z := (r.m * 48271 + z * 69621 + 11) % 2147483647 / 7) hn
  refine ex_ret (ef_d (ev_is (ev_op (ev_op (rg_m rfl) ev_int (o2_divI (by decide) (by decide))) (ev_var rfl) (o2_modI (by omega))) (by rw [← eq])) ⟨_, _, rfl, ⟨?_, q, hq, rfl⟩, rfl⟩)
  exact ⟨Int.emod_nonneg _ (by decide), Int.emod_lt_of_pos _ (by decide), ok.bits, ok.len⟩
end DL
set_option Elab.async false
set_option linter.all false
set_option maxRecDepth 100000
set_option maxHeartbeats 4000000
/-! DI: _law_mix, _law_deed, _law_program, _law_meet. -/
namespace DL
open PySem PySem.Spec L2

/-! ### _law_mix -/
def t_law_mix (K : PySem.W.Frag) (A : Ad) : TS :=
  (tSeq (tAsg (tVar 1) (gName 2))
    (tSeq (tFor (iList K (tVar 0)) (gName 3) (tAsg (tOp rModA (tOp (rAddA K) (tOp (rAddA K) (tOp rMulA (tVar 2) (tC (.int 48271))) (tOp rModA (tVar 3) (tC (.int 2147483629)))) (tC (.int 1))) (tC (.int 2147483647))) (gName 2)))
    (tRet (tLst (tCons (tVar 2) (tCons (tCB (rListA K) (tCons (tVar 0) tNil)) (tCons (tC (.int 0)) tNil)))))))

def sp_law_mix (K : PySem.W.Frag) (A : Ad) : Sp := scrSp K (fun ns ds => ns.length ≤ 63 ∧ (∀ z ∈ ns, bitOk z) ∧ ∃ seed : Nat, ds = [.int (seed : Nat)] ∧ seed < 2147483647) (fun _ _ s => ∃ h, s = rnd h)
theorem ev_mk_rng {C : Cc} {ρ : List Sl} {t0 : TE} {i : Nat} {a : Addr} {ns : List Int} {m : Int} {P : Sl → List Sl → Prop} (hi : ρ[i]? = some (.ow (.scr C.K a ns))) (h0 : PD C t0 ρ (.int m)) (m0 : 0 ≤ m) (m1 : m < 2147483647) (hl : ns.length ≤ 63) (hb : ∀ z ∈ ns, bitOk z)
    (p : ∀ h, P (rnd h) ρ) : Ev C (tLst (tCons t0 (tCons (tCB (rListA C.K) (tCons (tVar i) tNil)) (tCons (tC (.int 0)) tNil)))) ρ P := fun σ Hb H fp W Q q =>
  h0 σ Hb H fp W _ fun v Hb1 H1 _ t1 ⟨_, e1, hv⟩ _ => by
    cases e1; cases hv
    have W1 := W.step t1
    obtain ⟨v, ev, rfl, ef, hs⟩ := W1.owns hi
    refine ⟨_, ev, a, _, rfl, .inl (W1.same.seq hs), fun l hnl => ?_⟩
    have tl : Step [] Hb1 H1 Hb1 (upd H1 l (.lst (ns.map V.int))) := Step.newO W1.same hnl
    refine ⟨by show 3 ≤ sizeLine; exact sz (by decide), fun h hnh => ?_⟩
    have th : Step [] Hb1 (upd H1 l (.lst (ns.map V.int))) Hb1 (upd (upd H1 l (.lst (ns.map V.int))) h (.lst [.int m, .ref l, .int 0])) := Step.newO tl.s hnh
    have W2 := W1.step tl
    have W3 := W2.step th
    obtain ⟨c1, b1, f1⟩ := W1.old hnl
    obtain ⟨c2, b2, f2⟩ := W2.old hnh
    have hne : h ≠ l := fun e => by rw [e, upd_same] at hnh; cases hnh
    have h1n : H1 h = none := by have z := hnh; rw [upd_ne hne] at z; exact z
    have hn0 : ∀ x, H1 x = none → H x = none := fun x hx => by
      cases e : H x with
      | none => rfl
      | some o => rw [t1.same _ _ e] at hx; cases hx
    have hL : upd (upd H1 l (.lst (ns.map V.int))) h (.lst [.int m, .ref l, .int 0]) l = some (.lst (ns.map V.int)) := by rw [upd_ne hne.symm, upd_same]
    have cas : ∀ {Pr : Addr → Prop}, Pr h → Pr l → ∀ x ∈ [h, l], Pr x := fun {Pr} p1 p2 x hx => by
      rcases List.mem_cons.mp hx with e | hx
      · rw [e]; exact p1
      · rw [List.mem_singleton.mp hx]; exact p2
    refine q (.ref h) (rnd h) ρ Hb1 _ fp [h, l] (Fr.ofv (t1.trans0 (tl.trans0 th)) (cas (hn0 h h1n) (hn0 l hnl))) ⟨W3, ⟨_, rfl, ⟨m, ns, 0⟩, ⟨m0, m1, hb, hl⟩, l, rfl, rfl, hne, upd_same, hL⟩, cas ?_ ?_⟩ (p h)
    · exact ⟨b2, by rw [upd_same]; exact fun z => (nomatch z), c2, fun j hj => f2 ⟨j, hj⟩⟩
    · exact ⟨b1, by rw [hL]; exact fun z => (nomatch z), c1, fun j hj => f1 ⟨j, hj⟩⟩
theorem rd_law_mix {C : Cc} {A : Ad} {a : Addr} {ns : List Int} {seed : Nat} (hl : ns.length ≤ 63) (hb : ∀ z ∈ ns, bitOk z) (hs : seed < 2147483647) :
    Ex C (t_law_mix C.K A) [.ow (.scr C.K a ns), .d (.int (seed : Nat)), .no, .no] { nx := fun _ => ∃ h, Sl.d .none = rnd h, rt := fun s _ => ∃ h, s = rnd h } := by
  refine ex_seq (ex_set (s := .d (.int (seed : Nat))) (ev_var rfl) ?_)
  refine ex_seq (ex_for (ei_p (pi_scr rfl) ⟨fun _ ρ => ∃ (m : Int) (s : Sl), 0 ≤ m ∧ m < 2147483647 ∧ ρ = [.ow (.scr C.K a ns), .d (.int (seed : Nat)), .d (.int m), s], ⟨(seed : Nat), _, by omega, by omega, rfl⟩, fun i ρ hi ⟨m, s, m0, m1, e⟩ => ?_, fun ρ ⟨m, s, m0, m1, e⟩ => ?_⟩))
  · subst e
    refine eg_name ?_
    refine ex_set (s := .d (.int ((m * 48271 + ns.getD i 0 % 2147483629 + 1) % 2147483647))) (ev_op (ev_op (ev_op (ev_op (ev_var rfl) ev_int (o2_mulI ?_)) (ev_op (ev_var rfl) ev_int (o2_modI (by decide))) o2_addI) ev_int o2_addI) ev_int (o2_modI (by decide))) ⟨_, _, Int.emod_nonneg _ (by decide), Int.emod_lt_of_pos _ (by decide), rfl⟩
    have h1 : m.natAbs.log2 < 31 := log2_le (by rw [show (2 : Nat) ^ 31 = 2147483648 by decide]; omega) (by decide)
    have h2 : (48271 : Int).natAbs.log2 = 15 := by decide
    show m.natAbs.log2 + (48271 : Int).natAbs.log2 < 100000000
    omega
  · subst e
    exact ex_ret (ev_mk_rng (i := 0) rfl (ev_var rfl) m0 m1 hl hb fun h => ⟨h, rfl⟩)

/-! ### _law_deed -/
def t_law_deed (K : PySem.W.Frag) (A : Ad) : TS :=
  (tSeq (tAsg (tUser (sp_law_next K A) (tCons (tVar 0) (tCons (tVar 1) tNil))) (gName 2))
    (tRet (tOp (rIx K) (tLst (tCons (tTup (tCons (tC (.str "read")) (tCons (tVar 2) tNil))) (tCons (tTup (tCons (tC (.str "write")) (tCons (tVar 2) (tCons (tUser (sp_law_next K A) (tCons (tVar 0) (tCons (tC (.int 3)) tNil))) tNil)))) (tCons (tTup (tCons (tC (.str "read")) (tCons (tVar 2) tNil))) (tCons (tTup (tCons (tC (.str "rest")) tNil)) tNil))))) (tOp rDivA (tUser (sp_law_next K A) (tCons (tVar 0) (tCons (tC (.int 7)) tNil))) (tC (.int 2))))))

def sp_law_deed (K : PySem.W.Frag) (A : Ad) : Sp := drawSp K (fun ds => ∃ n : Nat, ds = [.int (n : Nat)] ∧ 0 < n ∧ n ≤ 4) (fun ds x => ∃ (n : Nat) (d : Deed), ds = [.int (n : Nat)] ∧ d.Good n ∧ x = d.enc)
/-- a draw: h stands at slot i, the bound is data -/
theorem ef_next {C : Cc} {ρ : List Sl} {A : Ad} {te : TE} {i n : Nat} {h : Addr} {P : Sl → List Sl → Prop} (hi : ρ[i]? = some (rnd h)) (he : PD C te ρ (.int (n : Nat))) (h0 : 0 < n) (h1 : n < 1000000000) (p : ∀ r : Nat, r < n → P (.d (.int (r : Nat))) ρ) :
    Ev C (tUser (sp_law_next C.K A) (tCons (tVar i) (tCons te tNil))) ρ P :=
  ef_draw hi (fa_p (ea_one he) ⟨hi, ⟨n, rfl, h0, h1⟩, fun d ⟨n', r, e, hr, ed⟩ => by
    have : (n : Int) = (n' : Int) := by
      have := (List.cons.inj e).1
      exact PyData.int.inj this
    subst ed
    exact p r (by omega)⟩)
theorem rd_law_deed {C : Cc} {A : Ad} {h : Addr} {n : Nat} (hn : 0 < n) (hn2 : n ≤ 4) : Ex C (t_law_deed C.K A) [rnd h, .d (.int (n : Nat)), .no]
    { nx := fun _ => False, rt := fun s ρ' => ∃ x, ∃ _ : Unit, s = .d x ∧ (∃ (m : Nat) (d : Deed), [(.int (n : Nat) : D)] = [.int (m : Nat)] ∧ d.Good m ∧ x = d.enc) ∧ ρ'[0]? = some (rnd h) } := by
  refine ex_seq (ex_asg (ef_next rfl (ev_var rfl) hn (by omega) fun c hc => ?_))
  refine ex_ret (ef_op (ef_lst (fa_cons (ef_d (ev_tup (ea_two ev_str (ev_var rfl))) ⟨_, rfl, ?_⟩))))
  refine fa_cons (ef_tup (fa_cons (ef_d ev_str ⟨_, rfl, fa_cons (ef_d (ev_var rfl) ⟨_, rfl, fa_cons (ef_next (n := 3) rfl ev_int (by decide) (by decide) fun w hw => ⟨_, rfl, fa_nil ⟨Nat.le_of_ble_eq_true rfl, _, rfl, ?_⟩⟩)⟩)⟩)))
  refine fa_cons (ef_d (ev_tup (ea_two ev_str (ev_var rfl))) ⟨_, rfl, fa_cons (ef_d (ev_tup (ea_one ev_str)) ⟨_, rfl, fa_nil ⟨Nat.le_of_ble_eq_true rfl, _, .dat, _, rfl, ?_⟩⟩)⟩)
  refine ef_op (ef_next (n := 7) rfl ev_int (by decide) (by decide) fun k hk => ⟨_, rfl, ef_d ev_int ⟨_, .d (.int ((k / 2 : Nat) : Int)), rfl, ?_, ?_⟩⟩)
  · have e : ((k : Nat) : Int) / 2 = ((k / 2 : Nat) : Int) := by omega
    rw [← e]
    exact o2_divI (by decide) (by decide)
  have hk2 : k / 2 = 0 ∨ k / 2 = 1 ∨ k / 2 = 2 ∨ k / 2 = 3 := by omega
  rcases hk2 with e | e | e | e <;> rw [e]
  · exact ⟨_, .d (Deed.read c).enc, rfl, o2_ixL (atI_nat (j := 0) rfl), _, (), rfl, ⟨n, .read c, rfl, hc, rfl⟩, rfl⟩
  · exact ⟨_, .d (Deed.write c w).enc, rfl, o2_ixL (atI_nat (j := 1) rfl), _, (), rfl, ⟨n, .write c w, rfl, ⟨hc, hw⟩, rfl⟩, rfl⟩
  · exact ⟨_, .d (Deed.read c).enc, rfl, o2_ixL (atI_nat (j := 2) rfl), _, (), rfl, ⟨n, .read c, rfl, hc, rfl⟩, rfl⟩
  · exact ⟨_, .d Deed.rest.enc, rfl, o2_ixL (atI_nat (j := 3) rfl), _, (), rfl, ⟨n, .rest, rfl, trivial, rfl⟩, rfl⟩

/-! ### _law_program -/
def t_law_program (K : PySem.W.Frag) (A : Ad) : TS :=
  (tRet (tLc (iRng1 (tCons (tUser (sp_law_next K A) (tCons (tVar 0) (tCons (tOp (rAddA K) (tVar 2) (tC (.int 1))) tNil))) tNil)) (gName 3) tYes (tUser (sp_law_deed K A) (tCons (tVar 0) (tCons (tVar 1) tNil))) [3]))

def sp_law_program (K : PySem.W.Frag) (A : Ad) : Sp := drawSp K (fun ds => ∃ n m : Nat, ds = [.int (n : Nat), .int (m : Nat)] ∧ 0 < n ∧ n ≤ 4 ∧ m ≤ 1000) (fun ds x => ∃ (n m : Nat) (l : List Deed), ds = [.int (n : Nat), .int (m : Nat)] ∧ GoodP n l ∧ l.length ≤ m ∧ x = encP l)
theorem int_inj {a b : Nat} {xs ys : List D} (e : (.int (a : Nat) : D) :: xs = .int (b : Nat) :: ys) : a = b ∧ xs = ys := by
  obtain ⟨e1, e2⟩ := List.cons.inj e
  have := PyData.int.inj e1
  exact ⟨by omega, e2⟩
theorem ef_deed {C : Cc} {ρ : List Sl} {A : Ad} {te : TE} {i n : Nat} {h : Addr} {P : Sl → List Sl → Prop} (hi : ρ[i]? = some (rnd h)) (he : PD C te ρ (.int (n : Nat))) (h0 : 0 < n) (h1 : n ≤ 4) (p : ∀ d : Deed, d.Good n → P (.d d.enc) ρ) :
    Ev C (tUser (sp_law_deed C.K A) (tCons (tVar i) (tCons te tNil))) ρ P :=
  ef_draw hi (fa_p (ea_one he) ⟨hi, ⟨n, rfl, h0, h1⟩, fun d ⟨n', x, e, hr, ed⟩ => by
    obtain ⟨e1, _⟩ := int_inj e
    subst e1; subst ed
    exact p x hr⟩)
theorem ef_program {C : Cc} {ρ : List Sl} {A : Ad} {te te2 : TE} {i n m : Nat} {h : Addr} {P : Sl → List Sl → Prop} (hi : ρ[i]? = some (rnd h)) (he : PD C te ρ (.int (n : Nat))) (h0 : 0 < n) (h1 : n ≤ 4)
    (h2 : Ev C te2 ρ fun s ρ' => s = .d (.int (m : Nat)) ∧ ρ' = ρ) (hm : m ≤ 1000) (p : ∀ l : List Deed, GoodP n l → l.length ≤ m → P (.d (encP l)) ρ) :
    Ev C (tUser (sp_law_program C.K A) (tCons (tVar i) (tCons te (tCons te2 tNil)))) ρ P :=
  ef_draw hi (fa_cons (ef_d he ⟨_, rfl, fa_cons (ef_mono h2 fun s ρ' ⟨es, er⟩ => ⟨_, es, fa_nil (by
    subst er
    exact ⟨hi, ⟨n, m, rfl, h0, h1, hm⟩, fun d ⟨n', m', l, e, hl, hl2, ed⟩ => by
      obtain ⟨e1, e⟩ := int_inj e
      obtain ⟨e2, _⟩ := int_inj e
      subst e1; subst e2; subst ed
      exact p l hl hl2⟩)⟩)⟩))
theorem rd_law_program {C : Cc} {A : Ad} {h : Addr} {n m : Nat} (hn : 0 < n) (hn2 : n ≤ 4) (hm : m ≤ 1000) : Ex C (t_law_program C.K A) [rnd h, .d (.int (n : Nat)), .d (.int (m : Nat)), .no]
    { nx := fun _ => False, rt := fun s ρ' => ∃ x, ∃ _ : Unit, s = .d x ∧ (∃ (n' m' : Nat) (l : List Deed), [(.int (n : Nat) : D), .int (m : Nat)] = [.int (n' : Nat), .int (m' : Nat)] ∧ GoodP n' l ∧ l.length ≤ m' ∧ x = encP l) ∧ ρ'[0]? = some (rnd h) } := by
  have em : PD C (tOp (rAddA C.K) (tVar 2) (tC (.int 1))) [rnd h, .d (.int (n : Nat)), .d (.int (m : Nat)), .no] (.int ((m + 1 : Nat) : Int)) := ev_is (ev_op (ev_var rfl) ev_int o2_addI) (by congr 1)
  refine ex_ret (ef_lc (ei_rng1 (fa_cons (ef_next rfl em (by omega) (by omega) fun k hk => ⟨_, rfl, fa_nil ⟨_, rfl, by omega, by omega, ?_⟩⟩))))
  refine ⟨by omega, fun i acc ρ => ρ = [rnd h, .d (.int (n : Nat)), .d (.int (m : Nat)), .no] ∧ ∃ l : List Deed, acc = encs l ∧ GoodP n l ∧ l.length = i, ⟨rfl, [], rfl, fun _ z => (nomatch z), rfl⟩, fun i acc ρ hi ⟨e, l, ea, hl, hlen⟩ => ?_, fun acc ρ ⟨e, l, ea, hl, hlen⟩ => ?_⟩
  · subst e
    refine ⟨_, gp_name (List.mem_singleton.mpr rfl), fun σ Hb H fp W Q q => ?_⟩
    refine q true _ Hb H fp .refl W ?_
    refine ef_deed rfl (ev_var rfl) hn hn2 fun d hd => ⟨_, rfl, rfl, l ++ [d], ?_, fun x hx => ?_, by rw [List.length_append, hlen]; rfl⟩
    · rw [ea]; unfold encs; rw [List.map_append]; rfl
    · rcases List.mem_append.mp hx with z | z
      · exact hl x z
      · rw [List.mem_singleton.mp z]; exact hd
  · subst e
    refine ⟨_, .dat, _, (), rfl, ⟨n, m, l, rfl, hl, by omega, by rw [ea]⟩, rfl⟩

/-! ### _law_meet -/
def t_law_meet (K : PySem.W.Frag) (A : Ad) : TS :=
  (tSeq (tAsg (tLc (iTup K (tTup (tCons (tVar 0) (tCons (tVar 1) tNil)))) (gName 3) (tTest (tOp (rNeD K) (tOp (rIx K) (tVar 3) (tC (.int 0))) (tC (.str "rest")))) (tVar 3) [3]) (gName 2))
    (tRet (tAndV (tOp (rEqD K) (tCB (rLenA K) (tCons (tVar 2) tNil)) (tC (.int 2))) (tAndV (tOp (rEqD K) (tOp (rIx K) (tOp (rIx K) (tVar 2) (tC (.int 0))) (tC (.int 1))) (tOp (rIx K) (tOp (rIx K) (tVar 2) (tC (.int 1))) (tC (.int 1)))) (tOp (rInA K) (tC (.str "write")) (tTup (tCons (tOp (rIx K) (tVar 0) (tC (.int 0))) (tCons (tOp (rIx K) (tVar 1) (tC (.int 0))) tNil))))))))

def sp_law_meet (K : PySem.W.Frag) (A : Ad) : Sp := datSp K fun ds r => ∃ a b : Deed, ds = [a.enc, b.enc] ∧ r = .bool (a.clash b)
theorem rd_law_meet {C : Cc} {A : Ad} (a b : Deed) : Ex C (t_law_meet C.K A) [.d a.enc, .d b.enc, .no, .no] (retD (.bool (a.clash b))) := by
  have sel : ∀ i, i < 2 → itemOf [a.enc, b.enc] i = (if i = 0 then a else b).enc := fun i hi => by
    have : i = 0 ∨ i = 1 := by omega
    rcases this with e | e <;> subst e <;> rfl
  have hm : made 2 (fun i => !(if i = 0 then a else b).isRest) (fun i => (if i = 0 then a else b).enc) = encs ([a, b].filter fun d => !d.isRest) := by
    cases ha : a.isRest <;> cases hb : b.isRest <;> simp [made, List.range_succ, encs, ha, hb]
  refine ex_seq (ex_set (s := .d (.list (encs ([a, b].filter fun d => !d.isRest)))) (ev_lc (n := 2) (item := itemOf [a.enc, b.enc]) (fun i => [.d a.enc, .d b.enc, .no, .d (if i = 0 then a else b).enc]) (fun i => !(if i = 0 then a else b).isRest) (fun i => (if i = 0 then a else b).enc)
    (pi_t (ev_tup (ea_two (ev_var rfl) (ev_var rfl)))) (by decide) (fun i hi => by rw [sel i hi]; exact gp_name (List.mem_singleton.mpr rfl)) (fun i hi => et_test (ev_neRest (ev_var rfl))) (fun i hi _ => ev_var rfl) (by rw [hm]; exact .dat)) ?_)
  have e2 : ([a, b].filter fun d => !d.isRest).length = 2 → ([a, b].filter fun d => !d.isRest) = [a, b] ∧ a.isRest = false ∧ b.isRest = false := fun h => by
    cases ha : a.isRest <;> cases hb : b.isRest <;> simp [ha, hb] at h ⊢
  refine ex_ret (ef_d (ev_is (ev_andV (b := decide (([a, b].filter fun d => !d.isRest).length = 2)) (c := (a.cell == b.cell) && (a.isWrite || b.isWrite)) (ev_is (ev_eqI (ev_call (ea_one (ev_var rfl)) (on_lenL (ds := encs ([a, b].filter fun d => !d.isRest)))) ev_int) ?_) fun h => ?_) ?_) rfl)
  · rw [encs_len]
    congr 1
    rw [Bool.eq_iff_iff, beq_iff_eq, decide_eq_true_iff]
    omega
  · obtain ⟨e3, h1, h2⟩ := e2 (of_decide_eq_true h)
    rw [e3]
    refine ev_andV (b := a.cell == b.cell) (ev_is (ev_eqI (i := (a.cell : Nat)) (j := (b.cell : Nat)) (ev_op (ev_op (ev_var rfl) ev_int (o2_ixL (atI_nat (j := 0) rfl))) ev_int (o2_ixT (Deed.at1 h1))) (ev_op (ev_op (ev_var rfl) ev_int (o2_ixL (atI_nat (j := 1) rfl))) ev_int (o2_ixT (Deed.at1 h2)))) ?_) fun _ => ?_
    · congr 1
      rw [Bool.eq_iff_iff, beq_iff_eq, beq_iff_eq]
      omega
    · refine ev_is (ev_op ev_str (ev_tup (ea_two (ev_w0 (d := a) (ev_var rfl)) (ev_w0 (d := b) (ev_var rfl)))) (o2_inT rfl rfl)) ?_
      unfold inDt
      simp only [List.any_cons, List.any_nil, eqv_str, Bool.or_false]
      rw [a.word_write, b.word_write]
  · congr 1
    cases ha : a.isRest <;> cases hb : b.isRest <;> simp [Deed.clash, ha, hb]
end DL
set_option Elab.async false
set_option linter.all false
set_option maxRecDepth 100000
set_option maxHeartbeats 4000000
/-! DJ: _law_alike: what is asked with itself is alike. -/
namespace DL
open PySem PySem.Spec L2

def t_law_alike (K : PySem.W.Frag) (A : Ad) (spR : Sp) : TS :=
  (tSeq (tIfS (tB (tCB (rIsiA K) (tCons (tVar 1) (tCons (tTup (tCons (tC (.ty "tuple")) (tCons (tC (.ty "list")) tNil))) tNil)))) (tSeq (tIfS (tOr (tNot (tB (tCB (rIsiA K) (tCons (tVar 0) (tCons (tTup (tCons (tC (.ty "tuple")) (tCons (tC (.ty "list")) tNil))) tNil))))) (tTest (tOp (rNeD K) (tCB (rIsiA K) (tCons (tVar 0) (tCons (tC (.ty "list")) tNil))) (tCB (rIsiA K) (tCons (tVar 1) (tCons (tC (.ty "list")) tNil)))))) (tRet (tC (.bl false))) tNext)
    (tSeq (tIfS (tTest (tOp (rNeD K) (tCB (rLenA K) (tCons (tVar 0) tNil)) (tCB (rLenA K) (tCons (tVar 1) tNil)))) (tRet (tC (.bl false))) tNext)
    (tRet (tOp (rEqD K) (tLc (iRng1 (tCons (tCB (rLenA K) (tCons (tVar 1) tNil)) tNil)) (gName 2) (tNot (tB (tUser spR (tCons (tOp (rIx K) (tVar 0) (tVar 2)) (tCons (tOp (rIx K) (tVar 1) (tVar 2)) tNil))))) (tVar 2) [2]) (tLst tNil))))) tNext)
    (tSeq (tIfS (tTest (tOp rIsNA (tVar 1) (tC .non))) (tRet (tOp rIsNA (tVar 0) (tC .non))) tNext)
    (tSeq (tIfS (tB (tCB (rIsiA K) (tCons (tVar 1) (tCons (tC (.ty "str")) tNil)))) (tRet (tAndV (tCB (rIsiA K) (tCons (tVar 0) (tCons (tC (.ty "str")) tNil))) (tOp (rEqD K) (tVar 0) (tVar 1)))) tNext)
    (tSeq (tIfS (tOr (tB (tCB (rIsiA K) (tCons (tVar 1) (tCons (tC (.ty "bool")) tNil)))) (tB (tCB (rIsiA K) (tCons (tVar 0) (tCons (tC (.ty "bool")) tNil))))) (tRet (tAndV (tCB (rIsiA K) (tCons (tVar 1) (tCons (tC (.ty "bool")) tNil))) (tAndV (tCB (rIsiA K) (tCons (tVar 0) (tCons (tC (.ty "bool")) tNil))) (tOp (rEqD K) (tVar 0) (tVar 1))))) tNext)
    (tRet (tAndV (tCB (rIsiA K) (tCons (tVar 0) (tCons (tC (.ty "int")) tNil))) (tOp (rEqD K) (tVar 0) (tVar 1))))))))

/-- data of depth n at most, of lists that are not too long -/
def alk : Nat → D → Prop
  | 0, d => flatD d = true ∧ d.canLay0 = true
  | n + 1, d => (flatD d = true ∧ d.canLay0 = true) ∨ ∃ ds, (d = .list ds ∨ d = .tuple ds) ∧ ds.length ≤ 1000000 ∧ ∀ x ∈ ds, alk n x
theorem flat_depth {d : D} (f : flatD d = true) : d.depth = 0 := by
  cases d with
  | list _ => cases f
  | tuple _ => cases f
  | dict _ => cases f
  | _ => rfl
theorem alk.sh : ∀ {n : Nat} {d : D}, alk n d → shN n d
  | 0, d, ⟨f, c⟩ => ⟨c, Nat.le_of_eq (flat_depth f)⟩
  | n + 1, d, h => by
    rcases h with ⟨f, c⟩ | ⟨ds, e, _, h⟩
    · exact ⟨c, by rw [flat_depth f]; exact Nat.zero_le _⟩
    · rcases e with e | e <;> subst e
      · exact .list fun x hx => (h x hx).sh
      · exact .tuple fun x hx => (h x hx).sh
theorem alk.up : ∀ {n m : Nat} {d : D}, alk n d → n ≤ m → alk m d
  | 0, 0, d, h, _ => h
  | 0, m + 1, d, h, _ => .inl h
  | n + 1, m + 1, d, h, hm => by
    rcases h with h | ⟨ds, e, l, h⟩
    · exact .inl h
    · exact .inr ⟨ds, e, l, fun x hx => (h x hx).up (by omega)⟩
  | n + 1, 0, d, h, hm => absurd hm (by omega)
theorem alk.int {n : Nat} {i : Int} : alk n (.int i) := by cases n with
  | zero => exact ⟨rfl, rfl⟩
  | succ n => exact .inl ⟨rfl, rfl⟩
theorem alk.bool {n : Nat} {i : Bool} : alk n (.bool i) := by cases n with
  | zero => exact ⟨rfl, rfl⟩
  | succ n => exact .inl ⟨rfl, rfl⟩
theorem alk.none {n : Nat} : alk n .none := by cases n with
  | zero => exact ⟨rfl, rfl⟩
  | succ n => exact .inl ⟨rfl, rfl⟩
theorem alk.str {n : Nat} {x : Str} (h : PyData.strOk x = true) : alk n (.str x) := by cases n with
  | zero => exact ⟨rfl, h⟩
  | succ n => exact .inl ⟨rfl, h⟩
theorem alk.list {n : Nat} {ds : List D} (l : ds.length ≤ 1000000) (h : ∀ x ∈ ds, alk n x) : alk (n + 1) (.list ds) := .inr ⟨ds, .inl rfl, l, h⟩
theorem alk.tuple {n : Nat} {ds : List D} (l : ds.length ≤ 1000000) (h : ∀ x ∈ ds, alk n x) : alk (n + 1) (.tuple ds) := .inr ⟨ds, .inr rfl, l, h⟩
def sp_alikeN (K : PySem.W.Frag) (n : Nat) : Sp := datSp K fun ds r => ∃ x : D, ds = [x, x] ∧ alk n x ∧ r = .bool true
/-- the promise within: one depth less -/
def sp_alikeR (K : PySem.W.Frag) : Nat → Sp
  | 0 => fun _ _ _ _ => False
  | n + 1 => sp_alikeN K n
def isTupD : D → Bool
  | .tuple _ => true
  | _ => false
def isListD : D → Bool
  | .list _ => true
  | _ => false
def isStrD : D → Bool
  | .str _ => true
  | _ => false
def isBoolD : D → Bool
  | .bool _ => true
  | _ => false
def isIntD : D → Bool
  | .bool _ => true
  | .int _ => true
  | _ => false
theorem kb_tuple (x : D) : kitB (tyD x) "tuple" = some (isTupD x) := by
  cases x with
  | none => show kitB "NoneType" "tuple" = some false; decide +kernel
  | bool _ => show kitB "bool" "tuple" = some false; decide +kernel
  | int _ => show kitB "int" "tuple" = some false; decide +kernel
  | str _ => show kitB "str" "tuple" = some false; decide +kernel
  | list _ => show kitB "list" "tuple" = some false; decide +kernel
  | tuple _ => show kitB "tuple" "tuple" = some true; decide +kernel
  | dict _ => show kitB "dict" "tuple" = some false; decide +kernel
theorem kb_list (x : D) : kitB (tyD x) "list" = some (isListD x) := by
  cases x with
  | none => show kitB "NoneType" "list" = some false; decide +kernel
  | bool _ => show kitB "bool" "list" = some false; decide +kernel
  | int _ => show kitB "int" "list" = some false; decide +kernel
  | str _ => show kitB "str" "list" = some false; decide +kernel
  | list _ => show kitB "list" "list" = some true; decide +kernel
  | tuple _ => show kitB "tuple" "list" = some false; decide +kernel
  | dict _ => show kitB "dict" "list" = some false; decide +kernel
theorem kb_str (x : D) : kitB (tyD x) "str" = some (isStrD x) := by
  cases x with
  | none => show kitB "NoneType" "str" = some false; decide +kernel
  | bool _ => show kitB "bool" "str" = some false; decide +kernel
  | int _ => show kitB "int" "str" = some false; decide +kernel
  | str _ => show kitB "str" "str" = some true; decide +kernel
  | list _ => show kitB "list" "str" = some false; decide +kernel
  | tuple _ => show kitB "tuple" "str" = some false; decide +kernel
  | dict _ => show kitB "dict" "str" = some false; decide +kernel
theorem kb_bool (x : D) : kitB (tyD x) "bool" = some (isBoolD x) := by
  cases x with
  | none => show kitB "NoneType" "bool" = some false; decide +kernel
  | bool _ => show kitB "bool" "bool" = some true; decide +kernel
  | int _ => show kitB "int" "bool" = some false; decide +kernel
  | str _ => show kitB "str" "bool" = some false; decide +kernel
  | list _ => show kitB "list" "bool" = some false; decide +kernel
  | tuple _ => show kitB "tuple" "bool" = some false; decide +kernel
  | dict _ => show kitB "dict" "bool" = some false; decide +kernel
theorem kb_int (x : D) : kitB (tyD x) "int" = some (isIntD x) := by
  cases x with
  | none => show kitB "NoneType" "int" = some false; decide +kernel
  | bool _ => show kitB "bool" "int" = some true; decide +kernel
  | int _ => show kitB "int" "int" = some true; decide +kernel
  | str _ => show kitB "str" "int" = some false; decide +kernel
  | list _ => show kitB "list" "int" = some false; decide +kernel
  | tuple _ => show kitB "tuple" "int" = some false; decide +kernel
  | dict _ => show kitB "dict" "int" = some false; decide +kernel
section
variable {C : Cc} {ρ : List Sl} {te : TE} {x : D}
theorem ev_isTL (h : PD C te ρ x) : PD C (tCB (rIsiA C.K) (tCons te (tCons (tTup (tCons (tC (.ty "tuple")) (tCons (tC (.ty "list")) tNil))) tNil))) ρ (.bool (isTupD x || isListD x)) := ev_isi2 (vv_of h) (kb_tuple x) (kb_list x)
theorem ev_isList (h : PD C te ρ x) : PD C (tCB (rIsiA C.K) (tCons te (tCons (tC (.ty "list")) tNil))) ρ (.bool (isListD x)) := ev_isi1 (vv_of h) (kb_list x)
theorem ev_isStr (h : PD C te ρ x) : PD C (tCB (rIsiA C.K) (tCons te (tCons (tC (.ty "str")) tNil))) ρ (.bool (isStrD x)) := ev_isi1 (vv_of h) (kb_str x)
theorem ev_isBool (h : PD C te ρ x) : PD C (tCB (rIsiA C.K) (tCons te (tCons (tC (.ty "bool")) tNil))) ρ (.bool (isBoolD x)) := ev_isi1 (vv_of h) (kb_bool x)
theorem ev_isInt (h : PD C te ρ x) : PD C (tCB (rIsiA C.K) (tCons te (tCons (tC (.ty "int")) tNil))) ρ (.bool (isIntD x)) := ev_isi1 (vv_of h) (kb_int x)
end
theorem shN_items {n : Nat} {ds : List D} (h : PyData.canLayAll0 ds = true ∧ PyData.depthAll ds ≤ n) : ∀ d ∈ ds, shN n d := by
  induction ds with
  | nil => exact fun _ z => nomatch z
  | cons x xs ih =>
    have h1 : (PyData.canLay0 x && PyData.canLayAll0 xs) = true := h.1
    have h2 : max (PyData.depth x) (PyData.depthAll xs) ≤ n := h.2
    rw [Bool.and_eq_true] at h1
    intro d hd
    rcases List.mem_cons.mp hd with e | hd
    · rw [e]; exact ⟨h1.1, by omega⟩
    · exact ih ⟨h1.2, by omega⟩ d hd
/-- the part for tuples and lists -/
theorem made_none (n : Nat) (v : Nat → D) : made n (fun _ => false) v = [] := by
  unfold made
  rw [List.filter_eq_nil_iff.mpr fun _ _ => Bool.false_ne_true]
  rfl
theorem rd_law_alike {C : Cc} {A : Ad} {n : Nat} {x : D} (hx : alk n x) : Ex C (t_law_alike C.K A (sp_alikeR C.K n)) [.d x, .d x, .no] (retD (.bool true)) := by
  have hsh := hx.sh
  have hself : PyData.eqv x x = true := SeqAt.eqv_refl x hsh.1
  cases htl : (isTupD x || isListD x) with
  | true =>
    -- items, their number, what each asks
    obtain ⟨k, ds, rfl, hds, hl, hlen, hix⟩ : ∃ (k : Nat) (ds : List D), n = k + 1 ∧ (∀ d ∈ ds, alk k d) ∧ ds.length ≤ 1000000 ∧ OpN C.K (rLenA C.K) [x] (.d (.int (ds.length : Nat))) ∧ ∀ (i : Nat) (z : D), ds[i]? = some z → Op2 C.K (rIx C.K) x (.int (i : Nat)) (.d z) := by
      have notflat : flatD x = false := by
        cases x with
        | list _ => rfl
        | tuple _ => rfl
        | _ => cases htl
      cases n with
      | zero => rw [hx.1] at notflat; cases notflat
      | succ k =>
        rcases hx with ⟨f, _⟩ | ⟨ds, e, l, h⟩
        · rw [f] at notflat; cases notflat
        · rcases e with e | e <;> subst e
          · exact ⟨k, ds, rfl, h, l, on_lenL, fun i z e => o2_ixL (atI_nat e)⟩
          · exact ⟨k, ds, rfl, h, l, on_lenT, fun i z e => o2_ixT (atI_nat e)⟩
    have evl : ∀ {ρ : List Sl} {te : TE}, PD C te ρ x → PD C (tCB (rLenA C.K) (tCons te tNil)) ρ (.int (ds.length : Nat)) := fun h => ev_call (ea_one h) hlen
    refine ex_seq (ex_ifp (b := true) (et_is (et_B (ev_isTL (ev_var rfl))) htl) (fun _ => ?_) (fun h => nomatch h))
    refine ex_seq (ex_ifp (b := false) (et_is (et_or (et_not (et_B (ev_isTL (ev_var rfl)))) fun _ => et_test (ev_is (ev_op (ev_isList (ev_var rfl)) (ev_isList (ev_var rfl)) (o2_ne sh_bool sh_bool)) (by rw [eqv_bool, beq_self_eq_true]))) (by rw [htl]; rfl)) (fun h => nomatch h) fun _ => ex_next ?_)
    refine ex_seq (ex_ifp (b := false) (et_is (et_test (ev_neI (evl (ev_var rfl)) (evl (ev_var rfl)))) (by rw [beq_self_eq_true]; rfl)) (fun h => nomatch h) fun _ => ex_next ?_)
    refine ex_ret (ef_d (x := .bool true) (ev_is (ev_op (x := .list []) (y := .list []) (ev_lc (s := .d (.list [])) (fun i => [.d x, .d x, .d (.int (i : Nat))]) (fun _ => false) (fun _ => .none) (pi_r1 (j := (ds.length : Nat)) (ea_one (evl (ev_var rfl))) (by omega)) (by omega) (fun i hi => gp_name (List.mem_singleton.mpr rfl)) (fun i hi => ?_) (fun i hi z => nomatch z) (by rw [made_none]; exact .dat)) (ev_lst ea_nil) (o2_eq rfl rfl)) rfl) rfl)
    have hi' : i < ds.length := by omega
    have e1 := itemOf_eq hi'
    exact et_is (et_not (et_B (b := true) (ev_dat (f := fun ds r => ∃ x : D, ds = [x, x] ∧ alk k x ∧ r = .bool true) (ea_two (ev_op (ev_var rfl) (ev_var rfl) (hix i _ e1)) (ev_op (ev_var rfl) (ev_var rfl) (hix i _ e1))) ⟨_, rfl, hds _ (List.mem_of_getElem? e1), rfl⟩))) rfl
  | false =>
    refine ex_seq (ex_ifp (b := false) (et_is (et_B (ev_isTL (ev_var rfl))) htl) (fun h => nomatch h) fun _ => ex_next ?_)
    refine ex_seq (ex_ifp (et_test (ev_op (ev_var rfl) ev_non o2_isN)) (fun h => ex_ret (ef_d (ev_is (ev_op (ev_var rfl) ev_non o2_isN) (by rw [h])) rfl)) fun h1 => ex_next ?_)
    have fl : flatD x = true := by
      cases x with
      | list _ => cases htl
      | tuple _ => cases htl
      | dict _ => cases hsh.1
      | _ => rfl
    have shx : SeqAt.shaped x = true := shN.shaped (n := 0) ⟨hsh.1, Nat.le_of_eq (flat_depth fl)⟩
    have eqx : PD C (tOp (rEqD C.K) (tVar 0) (tVar 1)) [.d x, .d x, .no] (.bool true) := ev_is (ev_op (ev_var rfl) (ev_var rfl) (o2_eq shx shx)) (by rw [hself])
    refine ex_seq (ex_ifp (et_B (ev_isStr (ev_var rfl))) (fun h => ex_ret (ef_d (ev_is (ev_andV (ev_isStr (ev_var rfl)) fun _ => eqx) (by rw [h]; rfl)) rfl)) fun h2 => ex_next ?_)
    refine ex_seq (ex_ifp (et_or (et_B (ev_isBool (ev_var rfl))) fun _ => et_B (ev_isBool (ev_var rfl))) (fun h => ?_) fun h3 => ex_next ?_)
    · rw [Bool.or_self] at h
      exact ex_ret (ef_d (ev_is (ev_andV (ev_isBool (ev_var rfl)) fun _ => ev_andV (ev_isBool (ev_var rfl)) fun _ => eqx) (by rw [h]; rfl)) rfl)
    · have hi : isIntD x = true := by
        cases x with
        | none => cases h1
        | bool _ => cases h3
        | str _ => cases h2
        | int _ => rfl
        | _ => cases fl
      exact ex_ret (ef_d (ev_is (ev_andV (ev_isInt (ev_var rfl)) fun _ => eqx) (by rw [hi]; rfl)) rfl)
end DL
set_option Elab.async false
set_option linter.all false
set_option maxRecDepth 100000
set_option maxHeartbeats 4000000
/-! DK: a law's promise; the end. -/
namespace DL
open PySem PySem.Spec L2

def sp_law_alike (K : PySem.W.Frag) (A : Ad) : Sp := sp_alikeN K 8
/-- a law's own promise: any script of at most 63 ints is answered True -/
def sp_law0 (K : PySem.W.Frag) : Sp := scrSp K (fun ns ds => ds = [] ∧ ns.length ≤ 63 ∧ ∀ z ∈ ns, bitOk z) (fun _ _ s => s = .d (.bool true))
def sp_law (K : PySem.W.Frag) (A : Ad) : Sp := sp_law0 K
abbrev lawPo : Po := { nx := fun _ => Sl.d .none = .d (.bool true), rt := fun s _ => s = .d (.bool true) }
theorem ef_mix {C : Cc} {A : Ad} {ρ : List Sl} {i : Nat} {a : Addr} {ns : List Int} {te : TE} {seed : Nat} {P : Sl → List Sl → Prop} (hi : ρ[i]? = some (.ow (.scr C.K a ns))) (hl : ns.length ≤ 63) (hb : ∀ z ∈ ns, bitOk z) (he : PD C te ρ (.int (seed : Nat))) (hs : seed < 2147483647)
    (p : ∀ h, P (rnd h) ρ) : Ev C (tUser (sp_law_mix C.K A) (tCons (tVar i) (tCons te tNil))) ρ P :=
  ef_scr hi (fa_p (ea_one he) ⟨⟨hl, hb, seed, rfl, hs⟩, fun s ⟨h, e⟩ => e ▸ p h⟩)
/-- the law's promise at the law's entry -/
theorem bit_of {z : Int} (h : Builtin.Int.intBits z ≤ 1048576) : bitOk z := by
  unfold Builtin.Int.intBits at h
  unfold bitOk
  split at h
  · rename_i e
    have : z = 0 := by simpa using e
    rw [this]; exact Nat.zero_le _
  · omega
theorem law_end {K : PySem.W.Frag} {H : Hp} {a : Addr} {ns : List Int} {E : XK} (hl : ns.length ≤ 63) (hb : ∀ z ∈ ns, Builtin.Int.intBits z ≤ 1048576) (hS : SqL K H a (ns.map V.int)) : sp_law0 K [.ref a] H (fun v _ => v = .bl true) E :=
  ⟨H, a, ns, [], [], rfl, Same.refl H, hS, .nil, ⟨rfl, hl, fun z hz => bit_of (hb z hz)⟩, fun v s Hb' H' fv e t ok f => by
    rw [e] at ok
    obtain ⟨u, eu, hu⟩ := ok
    cases eu; cases hu
    rfl⟩
end DL
set_option Elab.async false
set_option linter.all false
set_option maxRecDepth 100000
set_option maxHeartbeats 4000000
/-! DM: slices. -/
namespace DL
open PySem PySem.Spec L2

abbrev R3 := V → Option Int → Option Int → Hp → VK → Prop
def rSlX (K : PySem.W.Frag) : R3 := fun x lo hi H Q => rSlL K x lo hi H Q ∨ rSlA K x lo hi H Q ∨ rSlS x lo hi H Q
theorem sl_any {X : Cx} : SlR X (rSlX X.K) := sl_list.or (sl_tupA.or sl_str)
def cutD (ds : List D) (lo hi : Option Int) : List D := (ds.drop (HT.sIx ds.length 0 lo)).take (HT.sIx ds.length ds.length hi - HT.sIx ds.length 0 lo)
theorem cut_rp {K : PySem.W.Frag} {H : Hp} {vs : List V} {ds : List D} (h : RpAll K H vs ds) (lo hi : Option Int) : RpAll K H (cutV vs lo hi) (cutD ds lo hi) := by
  unfold cutV cutD
  rw [h.length]
  exact (h.drop _).take _
def OpS (K : PySem.W.Frag) (r : R3) (x : D) (lo hi : Option Int) (s : Sl) : Prop := ∀ Hb H v (Q : VK), Same Hb H → Rp K Hb v x → Res1 K Hb H s Q → r v lo hi H Q
def PEvO (C : Cc) (to : TO) (ρ : List Sl) (o : Option Int) : Prop := ∀ σ Hb H fp, EnvW C σ ρ Hb H fp → ∀ Q : Option Int → Hp → Prop, (∀ Hb' H', Step [] Hb H Hb' H' → Q o H') → to σ H Q
def EvO (C : Cc) (to : TO) (ρ : List Sl) (P : Option Int → List Sl → Prop) : Prop := ∀ σ Hb H fp, EnvW C σ ρ Hb H fp → ∀ Q : Option Int → Hp → Prop, (∀ o ρ' Hb' H' fp', Fr (In fp) Hb H Hb' H' (In fp') → EnvW C σ ρ' Hb' H' fp' → P o ρ' → Q o H') → to σ H Q
section
variable {K : PySem.W.Frag} {ds : List D} {s : Sl} {lo hi : Option Int}
theorem os_list (l : Lsl K (cutD ds lo hi) s) : OpS K (rSlX K) (.list ds) lo hi s := fun Hb H v Q sm hx q => by
  cases hx with
  | lst h1 a1 => exact .inl ⟨_, _, rfl, .of (sm _ _ h1), fun p hp => lst_new l q sm hp (cut_rp a1 lo hi)⟩
theorem os_tup : OpS K (rSlX K) (.tuple ds) lo hi (.d (.tuple (cutD ds lo hi))) := fun Hb H v Q sm hx q => by
  cases hx with
  | tup h1 a1 =>
    refine .inr (.inl ⟨_, _, rfl, same_sqt sm h1, fun e => ?_, fun _ p hp => tup_new q sm hp (cut_rp a1 lo hi)⟩)
    have : cutD ds lo hi = ds := by
      unfold cutD
      rw [← a1.length, e.1, e.2, List.drop_zero, a1.length, Nat.sub_zero, List.take_length]
    rw [this] at q
    exact q.flat sm (.tup h1 a1)
theorem os_str {z : Str} (hl : z.length ≤ 10000000) : OpS K (rSlX K) (.str z) lo hi (.d (.str (cutS z lo hi))) := fun Hb H v Q sm hx q => by
  cases hx
  exact .inr (.inr ⟨z, rfl, sz hl, q.flat sm (.str _)⟩)
theorem cut_pre {k : Nat} : cutD ds none (some (k : Nat)) = ds.take k := by
  unfold cutD
  rw [HT.sIx_none, HT.sIx_nat, List.drop_zero, Nat.sub_zero]
  by_cases h : k ≤ ds.length
  · rw [Nat.min_eq_left h]
  · rw [Nat.min_eq_right (by omega), List.take_length, List.take_of_length_le (by omega)]
theorem cut_suf {k : Nat} : cutD ds (some (k : Nat)) none = ds.drop k := by
  unfold cutD
  rw [HT.sIx_none, HT.sIx_nat]
  by_cases h : k ≤ ds.length
  · rw [Nat.min_eq_left h, List.take_of_length_le (by rw [List.length_drop]; exact Nat.le_refl _)]
  · rw [Nat.min_eq_right (by omega), Nat.sub_self, List.take_zero, List.drop_of_length_le (by omega)]
theorem cut_mid {a b : Nat} : cutD ds (some (a : Nat)) (some (b : Nat)) = (ds.drop a).take (b - a) := by
  unfold cutD
  rw [HT.sIx_nat, HT.sIx_nat]
  by_cases h : a ≤ ds.length
  · rw [Nat.min_eq_left h]
    by_cases h2 : b ≤ ds.length
    · rw [Nat.min_eq_left h2]
    · rw [Nat.min_eq_right (by omega), List.take_of_length_le (by rw [List.length_drop]; omega), List.take_of_length_le (by rw [List.length_drop]; omega)]
  · rw [Nat.min_eq_right (show ds.length ≤ a by omega), List.drop_of_length_le (Nat.le_refl _), List.drop_of_length_le (show ds.length ≤ a by omega), List.take_nil, List.take_nil]
theorem cutD_len : (cutD ds lo hi).length ≤ ds.length := by
  unfold cutD
  rw [List.length_take, List.length_drop]
  omega
end
section
variable {C : Cc} {ρ : List Sl} {x : D} {s : Sl} {te t1 t2 : TE} {tl th : TO} {r : R3} {lo hi : Option Int} {P : Sl → List Sl → Prop} {PO : Option Int → List Sl → Prop} {i : Int}
theorem eo_no : PEvO C tNoPart ρ none := fun σ Hb H fp W Q q => q Hb H (Step.refl W.same)
theorem eo_part (h : PD C te ρ (.int i)) : PEvO C (tPart te) ρ (some i) := fun σ Hb H fp W Q q => h σ Hb H fp W _ fun v Hb1 H1 _ t ⟨_, e, hv⟩ _ => by
  cases e; cases hv
  exact ⟨i, rfl, q Hb1 H1 t⟩
theorem ev_sl (ha : PD C te ρ x) (hl : PEvO C tl ρ lo) (hh : PEvO C th ρ hi) (hr : OpS C.K r x lo hi s) : PEv C (tSl r te tl th) ρ s := fun σ Hb H fp W Q q =>
  ha σ Hb H fp W _ fun v Hb1 H1 _ t1 ⟨_, e1, h1⟩ _ => hl σ Hb1 H1 fp (W.step t1) _ fun Hb2 H2 t2 => hh σ Hb2 H2 fp ((W.step t1).step t2) _ fun Hb3 H3 t3 => by
    cases e1
    exact hr Hb3 H3 v Q t3.s (h1.mono (t2.b.trans t3.b)) (q.after ((t1.trans0 t2).trans0 t3))
theorem fo_p (h : PEvO C tl ρ lo) (p : PO lo ρ) : EvO C tl ρ PO := fun σ Hb H fp W Q q => h σ Hb H fp W Q fun Hb' H' t => q lo ρ Hb' H' fp (.of t) (W.step t) p
theorem fo_part (h : Ev C te ρ fun s ρ1 => ∃ i, s = .d (.int i) ∧ PO (some i) ρ1) : EvO C (tPart te) ρ PO := fun σ Hb H fp W Q q => h σ Hb H fp W _ fun v s ρ1 Hb1 H1 fp1 fv sm G ⟨i, e, p⟩ => by
  subst e
  have hv := G.data
  cases hv
  exact ⟨i, rfl, q _ ρ1 Hb1 H1 fp1 (sm.to vw_in) G.env p⟩
theorem ef_sl (h : Ev C te ρ fun s ρ1 => ∃ x, s = .d x ∧ EvO C tl ρ1 fun lo ρ2 => EvO C th ρ2 fun hi ρ3 => ∃ s', OpS C.K r x lo hi s' ∧ P s' ρ3) : Ev C (tSl r te tl th) ρ P := fun σ Hb H fp W Q q =>
  h σ Hb H fp W _ fun v s ρ1 Hb1 H1 fp1 fv sm G ⟨x, e, h2⟩ => by
    subst e
    refine h2 σ Hb1 H1 fp1 G.env _ fun lo ρ2 Hb2 H2 fp2 sm2 W2 h3 => h3 σ Hb2 H2 fp2 W2 _ fun hi ρ3 Hb3 H3 fp3 sm3 W3 ⟨s', hr, p⟩ => ?_
    exact hr Hb3 H3 v Q W3.same (G.data.mono (sm2.b.trans sm3.b)) (Res1.got W3 ((sm.vtrans sm2).etrans sm3) q p)
end
end DL
set_option Elab.async false
set_option linter.all false
set_option maxRecDepth 100000
set_option maxHeartbeats 4000000
/-! DN: deed_at, fitted, shows; the law's _law_at. -/
namespace DL
open PySem PySem.Spec L2

/-! ### deed_at, _law_at -/
def t_deed_at (K : PySem.W.Frag) (A : Ad) : TS :=
  (tRet (tIf (tTest (tOp rLtA (tVar 1) (tCB (rLenA K) (tCons (tVar 0) tNil)))) (tOp (rIx K) (tVar 0) (tVar 1)) (tC (.ref A.aREST))))

def sp_deed_at (K : PySem.W.Frag) (A : Ad) : Sp := datSp K fun ds x => ∃ (l : List Deed) (i : Nat), ds = [encP l, .int (i : Nat)] ∧ x = (deedAt l i).enc
theorem rd_deed_at {C : Cc} {A : Ad} (hR : RestOk C.K A) (l : List Deed) (i : Nat) : Ex C (t_deed_at C.K A) [.d (encP l), .d (.int (i : Nat))] (retD (deedAt l i).enc) := by
  refine ex_ret (ef_d (ev_if (et_test (ev_op (ev_var rfl) (ev_call (ea_one (ev_var rfl)) (on_lenL (ds := encs l))) o2_ltI)) (fun h => ?_) (fun h => ?_)) rfl)
  · rw [encs_len] at h
    have h : (i : Int) < (l.length : Int) := of_decide_eq_true h
    exact ev_op (ev_var rfl) (ev_var rfl) (o2_ixL (encs_atI (by omega)))
  · rw [encs_len] at h
    have h : ¬ (i : Int) < (l.length : Int) := of_decide_eq_false h
    rw [deedAt_out (by omega)]
    exact ev_const hR
def t_law_at (K : PySem.W.Frag) (A : Ad) : TS :=
  (tRet (tOp (rIx K) (tOp (rAddA K) (tSl (rSlX K) (tVar 0) (tPart (tVar 1)) (tPart (tOp (rAddA K) (tVar 1) (tC (.int 1))))) (tLst (tCons (tTup (tCons (tC (.str "rest")) tNil)) tNil))) (tC (.int 0))))

def sp_law_at (K : PySem.W.Frag) (A : Ad) : Sp := datSp K fun ds x => ∃ (l : List Deed) (i : Nat), ds = [encP l, .int (i : Nat)] ∧ l.length ≤ 100000 ∧ x = (deedAt l i).enc
theorem encs_drop (l : List Deed) (n : Nat) : (encs l).drop n = encs (l.drop n) := by unfold encs; rw [List.map_drop]
theorem encs_take (l : List Deed) (n : Nat) : (encs l).take n = encs (l.take n) := by unfold encs; rw [List.map_take]
theorem encs_app (l r : List Deed) : encs l ++ encs r = encs (l ++ r) := by unfold encs; rw [List.map_append]
theorem rd_law_at {C : Cc} {A : Ad} {l : List Deed} {i : Nat} (hl : l.length ≤ 100000) : Ex C (t_law_at C.K A) [.d (encP l), .d (.int (i : Nat))] (retD (deedAt l i).enc) := by
  have e1 : PD C (tOp (rAddA C.K) (tVar 1) (tC (.int 1))) [.d (encP l), .d (.int (i : Nat))] (.int ((i + 1 : Nat) : Int)) := ev_is (ev_op (ev_var rfl) ev_int o2_addI) (by congr 1)
  have e2 : cutD (encs l) (some (i : Nat)) (some ((i + 1 : Nat) : Int)) ++ [Deed.rest.enc] = encs ((l.drop i).take 1 ++ [.rest]) := by
    rw [cut_mid, encs_drop, encs_take]
    have : i + 1 - i = 1 := by omega
    rw [this, ← encs_app]
    rfl
  refine ex_ret (ef_d (ev_op (ev_op (ev_sl (ev_var rfl) (eo_part (ev_var rfl)) (eo_part e1) (os_list (ds := encs l) .dat)) (ev_lst (ea_one (ev_tup (ea_one ev_str)))) (o2_addL ?_ (s := .d (.list (encs ((l.drop i).take 1 ++ [.rest])))) (by rw [← e2]; exact .dat))) ev_int (o2_ixL (atI_nat (j := 0) ?_))) rfl)
  · have := cutD_len (ds := encs l) (lo := some (i : Nat)) (hi := some ((i + 1 : Nat) : Int))
    rw [encs_len] at this
    show _ + 1 ≤ 10000000
    omega
  · by_cases h : i < l.length
    · rw [deedAt_eq h, List.drop_eq_getElem_cons h]
      rfl
    · rw [deedAt_out (by omega), List.drop_of_length_le (by omega)]
      rfl

/-! ### fitted -/
def t_fitted (K : PySem.W.Frag) (A : Ad) : TS :=
  (tSeq (tDrop (tUser (sp_need_both K A) (tCons (tC (.int 4)) (tCons (tVar 0) (tCons (tVar 1) (tCons (tC (.int 20)) tNil))))))
    (tSeq (tAsg (tLst tNil) (gName 2))
    (tSeq (tAsg (tLst tNil) (gName 3))
    (tSeq (tFor (iEnum K (tCons (tVar 1) tNil)) (gTup K 2 (gCons (gName 4) (gCons (gName 5) gNil))) (tSeq (tWhile (tB (tUser (sp_do_clash K A) (tCons (tUser (sp_deed_at K A) (tCons (tVar 0) (tCons (tCB (rLenA K) (tCons (tVar 2) tNil)) tNil))) (tCons (tVar 5) tNil)))) (tSeq (tDrop (tBM K "list" rAppend (tVar 3) (tCons (tTup (tCons (tCB (rLenA K) (tCons (tVar 2) tNil)) (tCons (tVar 4) tNil))) tNil)))
    (tDrop (tBM K "list" rAppend (tVar 2) (tCons (tC (.ref A.aREST)) tNil)))))
    (tDrop (tBM K "list" rAppend (tVar 2) (tCons (tVar 5) tNil)))))
    (tRet (tTup (tCons (tVar 2) (tCons (tVar 3) tNil))))))))

/-- how many rests a deed waits from a place on -/
def waits (l : List Deed) (d : Deed) : Nat → Nat → Nat
  | 0, _ => 0
  | f + 1, p => if (deedAt l p).clash d = true then waits l d f (p + 1) + 1 else 0
theorem rest_clash (d : Deed) : Deed.rest.clash d = false := rfl
theorem waits_spec (l : List Deed) (d : Deed) : ∀ (f p : Nat), l.length ≤ p + f → (∀ j, j < waits l d f p → (deedAt l (p + j)).clash d = true) ∧ (deedAt l (p + waits l d f p)).clash d = false ∧ waits l d f p ≤ f
  | 0, p, h => ⟨fun j hj => absurd hj (Nat.not_lt_zero j), by rw [deedAt_out (by omega)]; rfl, Nat.le_refl _⟩
  | f + 1, p, h => by
    unfold waits
    by_cases hc : (deedAt l p).clash d = true
    · rw [if_pos hc]
      obtain ⟨h1, h2, h3⟩ := waits_spec l d f (p + 1) (by omega)
      refine ⟨fun j hj => ?_, ?_, by omega⟩
      · cases j with
        | zero => exact hc
        | succ j =>
          have := h1 j (by omega)
          rwa [Nat.add_assoc, Nat.add_comm 1 j] at this
      · rw [Nat.add_assoc, Nat.add_comm 1] at h2
        exact h2
    · rw [if_neg hc]
      exact ⟨fun j hj => absurd hj (Nat.not_lt_zero j), by simpa using hc, Nat.zero_le _⟩
def waitAt (l : List Deed) (d : Deed) (p : Nat) : Nat := waits l d (l.length - p) p
theorem waitAt_lt {l : List Deed} {d : Deed} {p j : Nat} (h : j < waitAt l d p) : (deedAt l (p + j)).clash d = true := (waits_spec l d _ p (by omega)).1 j h
theorem waitAt_no (l : List Deed) (d : Deed) (p : Nat) : (deedAt l (p + waitAt l d p)).clash d = false := (waits_spec l d _ p (by omega)).2.1
theorem waitAt_le (l : List Deed) (d : Deed) (p : Nat) : waitAt l d p ≤ l.length - p := (waits_spec l d _ p (by omega)).2.2
/-- the tuples of one deed's rests -/
def whys (p n w : Nat) : List (Int × Int) := (List.range w).map fun j => (((p + j : Nat) : Int), (n : Int))
structure Fit where
  f : List Deed
  r : List (Int × Int)
  n : Nat
def fitStep (l : List Deed) (s : Fit) (d : Deed) : Fit := ⟨s.f ++ List.replicate (waitAt l d s.f.length) .rest ++ [d], s.r ++ whys s.f.length s.n (waitAt l d s.f.length), s.n + 1⟩
def fitTo (l r : List Deed) (i : Nat) : Fit := (r.take i).foldl (fitStep l) ⟨[], [], 0⟩
def fitOf (l r : List Deed) : Fit := r.foldl (fitStep l) ⟨[], [], 0⟩
theorem fitTo_all (l r : List Deed) : fitTo l r r.length = fitOf l r := by unfold fitTo fitOf; rw [List.take_length]
theorem fitTo_succ {l r : List Deed} {i : Nat} (h : i < r.length) : fitTo l r (i + 1) = fitStep l (fitTo l r i) r[i] := by
  unfold fitTo
  rw [List.take_succ_eq_append_getElem h, List.foldl_append]
  rfl
theorem fitTo_n {l r : List Deed} : ∀ {i : Nat}, i ≤ r.length → (fitTo l r i).n = i
  | 0, _ => rfl
  | i + 1, h => by rw [fitTo_succ (by omega)]; show (fitTo l r i).n + 1 = i + 1; rw [fitTo_n (by omega)]
theorem whys_len (p n w : Nat) : (whys p n w).length = w := by unfold whys; rw [List.length_map, List.length_range]
theorem fitTo_len {l r : List Deed} : ∀ {i : Nat}, i ≤ r.length → (fitTo l r i).f.length = i + (fitTo l r i).r.length ∧ (fitTo l r i).f.length ≤ i + l.length
  | 0, _ => ⟨rfl, Nat.zero_le _⟩
  | i + 1, h => by
    obtain ⟨h1, h2⟩ := fitTo_len (l := l) (r := r) (i := i) (by omega)
    have hw := waitAt_le l r[i] (fitTo l r i).f.length
    rw [fitTo_succ (by omega)]
    unfold fitStep
    simp only [List.length_append, List.length_replicate, List.length_singleton, whys_len]
    omega
def encR (rs : List (Int × Int)) : List D := rs.map fun q => .tuple [.int q.1, .int q.2]
theorem encR_len (rs : List (Int × Int)) : (encR rs).length = rs.length := List.length_map _
theorem encR_app (a b : List (Int × Int)) : encR a ++ encR b = encR (a ++ b) := by unfold encR; rw [List.map_append]
def sp_fitted (K : PySem.W.Frag) (A : Ad) : Sp := datSp K fun ds x => ∃ l r : List Deed, ds = [encP l, encP r] ∧ GoodP 4 l ∧ GoodP 4 r ∧ l.length ≤ 20 ∧ r.length ≤ 20 ∧ x = .tuple [encP (fitOf l r).f, .list (encR (fitOf l r).r)]
theorem ev_lenO {C : Cc} {ρ : List Sl} {i : Nat} {xs : List D} (h : ρ[i]? = some (own C.K xs)) : PD C (tCB (rLenA C.K) (tCons (tVar i) tNil)) ρ (.int (xs.length : Nat)) := vv_call (va_cons (vv_var h) va_nil) on_lenL
theorem rep_succ (n : Nat) (d : Deed) : List.replicate n d ++ [d] = List.replicate (n + 1) d := by rw [List.replicate_succ']
theorem whys_succ (p n w : Nat) : whys p n (w + 1) = whys p n w ++ [(((p + w : Nat) : Int), (n : Int))] := by unfold whys; rw [List.range_succ, List.map_append]; rfl
/-- the walk of fitted, up to its end -/
theorem rd_fitted_to {C : Cc} {A : Ad} {l r : List Deed} {P : Po} (hl : GoodP 4 l) (hr : GoodP 4 r) (h1 : l.length ≤ 20) (h2 : r.length ≤ 20) (hR : RestOk C.K A)
    (fin : ∀ s4 s5, Ex C (tRet (tTup (tCons (tVar 2) (tCons (tVar 3) tNil)))) [.d (encP l), .d (encP r), own C.K (encs (fitOf l r).f), own C.K (encR (fitOf l r).r), s4, s5] P) :
    Ex C (t_fitted C.K A) [.d (encP l), .d (encP r), .no, .no, .no, .no] P := by
  refine ex_seq (ex_drop (ef_d (ev_dat (x := .none) (ea_cons (ev_int (i := ((4 : Nat) : Int))) (ea_cons (ev_var rfl) (ea_two (ev_var rfl) (ev_int (i := ((20 : Nat) : Int)))))) ⟨4, 20, l, r, rfl, hl, hr, h1, h2, rfl⟩) ?_))
  refine ex_seq (ex_set (s := own C.K []) (ev_lstO ea_nil) ?_)
  refine ex_seq (ex_set (s := own C.K []) (ev_lstO ea_nil) ?_)
  refine ex_seq (ex_for (ei_p (pi_enu (ds := encs r) (ea_one (ev_var rfl))) ⟨fun i ρ => ∃ s4 s5, ρ = [.d (encP l), .d (encP r), own C.K (encs (fitTo l r i).f), own C.K (encR (fitTo l r i).r), s4, s5], ⟨_, _, rfl⟩, fun i ρ hi ⟨s4, s5, e⟩ => ?_, fun ρ ⟨s4, s5, e⟩ => ?_⟩))
  · subst e
    rw [encs_len] at hi
    rw [encs_at hi]
    obtain ⟨g1, g2⟩ := fitTo_len (l := l) (r := r) (i := i) (by omega)
    have gn := fitTo_n (l := l) (r := r) (i := i) (by omega)
    have gs := fitTo_succ (l := l) hi
    refine eg_tup rfl (egs_cons (eg_name (egs_cons (eg_name (egs_nil ?_)))))
    generalize hF : fitTo l r i = S at *
    have hW := waitAt_le l r[i] S.f.length
    -- the rests
    refine ex_seq (ex_while (fun m ρ => ∃ j, m + j = waitAt l r[i] S.f.length ∧ ρ = [.d (encP l), .d (encP r), own C.K (encs (S.f ++ List.replicate j .rest)), own C.K (encR (S.r ++ whys S.f.length i j)), .d (.int (i : Nat)), .d r[i].enc])
      ⟨waitAt l r[i] S.f.length, 0, rfl, by rw [List.replicate_zero, List.append_nil]; show _ = [_, _, _, own C.K (encR (S.r ++ [])), _, _]; rw [List.append_nil]; rfl⟩ fun m ρ ⟨j, hj, e⟩ => ?_)
    subst e
    have hlen : ((encs (S.f ++ List.replicate j Deed.rest)).length : Int) = ((S.f.length + j : Nat) : Int) := by rw [encs_len, List.length_append, List.length_replicate]
    have evl : ∀ {ρ : List Sl}, ρ[2]? = some (own C.K (encs (S.f ++ List.replicate j Deed.rest))) → PD C (tCB (rLenA C.K) (tCons (tVar 2) tNil)) ρ (.int ((S.f.length + j : Nat) : Int)) := fun h => ev_is (ev_lenO h) (by rw [hlen])
    refine ft_p (b := (deedAt l (S.f.length + j)).clash r[i]) (et_B (ev_dat (ea_two (ev_dat (ea_two (ev_var rfl) (evl rfl)) ⟨l, _, rfl, rfl⟩) (ev_var rfl)) ⟨_, _, rfl, rfl⟩)) ?_
    by_cases hlt : j < waitAt l r[i] S.f.length
    · rw [waitAt_lt hlt, if_pos rfl]
      refine ex_seq (ex_append (xs := encR (S.r ++ whys S.f.length i j)) rfl (ef_d (ev_tup (ea_two (evl rfl) (ev_var rfl))) ⟨_, _, rfl, rfl, ?_, ?_⟩))
      · rw [encR_len, List.length_append, whys_len]; omega
      refine ex_append (xs := encs (S.f ++ List.replicate j .rest)) rfl (ef_d (ev_const hR) ⟨_, _, rfl, rfl, ?_, m - 1, by omega, j + 1, by omega, ?_⟩)
      · rw [encs_len, List.length_append, List.length_replicate]; omega
      · have q1 : encs (S.f ++ List.replicate j Deed.rest) ++ [Deed.rest.enc] = encs (S.f ++ List.replicate (j + 1) Deed.rest) := by
          rw [← rep_succ, ← List.append_assoc, ← encs_app (S.f ++ _)]
          rfl
        have q2 : encR (S.r ++ whys S.f.length i j) ++ [.tuple [.int ((S.f.length + j : Nat) : Int), .int (i : Nat)]] = encR (S.r ++ whys S.f.length i (j + 1)) := by
          rw [whys_succ, ← List.append_assoc, ← encR_app (S.r ++ _)]
          rfl
        rw [← q1, ← q2]
        rfl
    · have ej : j = waitAt l r[i] S.f.length := by omega
      have hno := waitAt_no l r[i] S.f.length
      rw [← ej] at hno
      rw [hno, if_neg Bool.false_ne_true]
      refine ex_append (xs := encs (S.f ++ List.replicate j .rest)) rfl (ef_d (ev_var rfl) ⟨_, _, rfl, rfl, ?_, .d (.int (i : Nat)), .d r[i].enc, ?_⟩)
      · rw [encs_len, List.length_append, List.length_replicate]; omega
      · have q1 : encs (S.f ++ List.replicate j Deed.rest) ++ [r[i].enc] = encs (S.f ++ List.replicate j Deed.rest ++ [r[i]]) := by
          rw [← encs_app (S.f ++ _)]
          rfl
        rw [gs, q1]
        unfold fitStep
        rw [← ej, gn]
        rfl
  · subst e
    rw [encs_len, fitTo_all]
    exact fin _ _
theorem rd_fitted {C : Cc} {A : Ad} {l r : List Deed} (hM : C.M = []) (hl : GoodP 4 l) (hr : GoodP 4 r) (h1 : l.length ≤ 20) (h2 : r.length ≤ 20) (hR : RestOk C.K A) :
    Ex C (t_fitted C.K A) [.d (encP l), .d (encP r), .no, .no, .no, .no] (retD (.tuple [encP (fitOf l r).f, .list (encR (fitOf l r).r)])) :=
  rd_fitted_to hl hr h1 h2 hR fun s4 s5 => ex_ret (ef_tup (fa_cons (ef_freeze hM rfl ⟨_, rfl, fa_cons (ef_freeze hM rfl ⟨_, rfl, fa_nil ⟨Nat.le_of_ble_eq_true rfl, rfl⟩⟩)⟩)))

/-! ### shows -/
def t_shows (K : PySem.W.Frag) (A : Ad) : TS :=
  (tSeq (tDrop (tUser (sp_need_both K A) (tCons (tC (.int 4)) (tCons (tVar 0) (tCons (tVar 1) (tCons (tC (.int 20)) tNil))))))
    (tSeq (tAsg (tC (.int 0)) (gName 3))
    (tSeq (tFor (iEnum K (tCons (tVar 2) tNil)) (gTup K 2 (gCons (gName 4) (gCons (gTup K 2 (gCons (gName 5) (gCons (gName 6) gNil))) gNil))) (tSeq (tIfS (tOr (tNot (tTest (tChain rLeA rLtA (tVar 3) (tVar 6) (tCB (rLenA K) (tCons (tVar 1) tNil))))) (tTest (tOp (rNeD K) (tVar 5) (tOp (rAddA K) (tVar 6) (tVar 4))))) (tRet (tC (.bl false))) tNext)
    (tSeq (tIfS (tNot (tB (tUser (sp_do_clash K A) (tCons (tUser (sp_deed_at K A) (tCons (tVar 0) (tCons (tVar 5) tNil))) (tCons (tOp (rIx K) (tVar 1) (tVar 6)) tNil))))) (tRet (tC (.bl false))) tNext)
    (tAsg (tVar 6) (gName 3)))))
    (tRet (tC (.bl true))))))

/-- what shows says of the rest of a reason -/
def showsFrom (l r : List Deed) (k : Nat) (last : Int) : List (Int × Int) → Bool
  | [] => true
  | q :: t => if last ≤ q.2 ∧ q.2 < (r.length : Int) ∧ q.1 = q.2 + (k : Int) then (if (deedAt l q.1.toNat).clash (deedAt r q.2.toNat) = true then showsFrom l r (k + 1) q.2 t else false) else false
def showsB (l r : List Deed) (rs : List (Int × Int)) : Bool := showsFrom l r 0 0 rs
def sp_shows (K : PySem.W.Frag) (A : Ad) : Sp := datSp K fun ds x => ∃ (l r : List Deed) (rs : List (Int × Int)), ds = [encP l, encP r, .list (encR rs)] ∧ GoodP 4 l ∧ GoodP 4 r ∧ l.length ≤ 20 ∧ r.length ≤ 20 ∧ x = .bool (showsB l r rs)
theorem encR_at {rs : List (Int × Int)} {i : Nat} (h : i < rs.length) : itemOf (encR rs) i = .tuple [.int rs[i].1, .int rs[i].2] := itemOf_some (by
  unfold encR
  rw [List.getElem?_map, List.getElem?_eq_getElem h]
  rfl)
theorem encR_atI {rs : List (Int × Int)} {i : Nat} (h : i < rs.length) : atI (encR rs) (i : Nat) = some (.tuple [.int rs[i].1, .int rs[i].2]) := atI_nat (by
  unfold encR
  rw [List.getElem?_map, List.getElem?_eq_getElem h]
  rfl)
theorem rd_shows {C : Cc} {A : Ad} {l r : List Deed} {rs : List (Int × Int)} (hl : GoodP 4 l) (hr : GoodP 4 r) (h1 : l.length ≤ 20) (h2 : r.length ≤ 20) :
    Ex C (t_shows C.K A) [.d (encP l), .d (encP r), .d (.list (encR rs)), .no, .no, .no, .no] (retD (.bool (showsB l r rs))) := by
  refine ex_seq (ex_drop (ef_d (ev_dat (x := .none) (ea_cons (ev_int (i := ((4 : Nat) : Int))) (ea_cons (ev_var rfl) (ea_two (ev_var rfl) (ev_int (i := ((20 : Nat) : Int)))))) ⟨4, 20, l, r, rfl, hl, hr, h1, h2, rfl⟩) ?_))
  refine ex_seq (ex_set (s := .d (.int 0)) ev_int ?_)
  refine ex_seq (ex_for (ei_p (pi_enu (ds := encR rs) (ea_one (ev_var rfl))) ⟨fun i ρ => ∃ (last : Int) (s4 s5 s6 : Sl), 0 ≤ last ∧ showsB l r rs = showsFrom l r i last (rs.drop i) ∧ ρ = [.d (encP l), .d (encP r), .d (.list (encR rs)), .d (.int last), s4, s5, s6], ⟨0, _, _, _, Int.le_refl _, rfl, rfl⟩, fun i ρ hi ⟨last, s4, s5, s6, h0, es, e⟩ => ?_, fun ρ ⟨last, s4, s5, s6, h0, es, e⟩ => ?_⟩))
  · subst e
    rw [encR_len] at hi
    rw [encR_at hi]
    rw [List.drop_eq_getElem_cons hi] at es
    refine eg_tup rfl (egs_cons (eg_name (egs_cons (eg_tup rfl (egs_cons (eg_name (egs_cons (eg_name (egs_nil (egs_nil ?_)))))) ))))
    generalize hq : rs[i] = q at es
    unfold showsFrom at es
    refine ex_seq (ex_ifp (b := !decide (last ≤ q.2 ∧ q.2 < (r.length : Int) ∧ q.1 = q.2 + (i : Int))) (et_is (et_or (et_not (et_test (ev_chain (ev_var rfl) (ev_var rfl) o2_leI fun _ => ⟨ev_call (ea_one (ev_var rfl)) (on_lenL (ds := encs r)), o2_ltI⟩))) fun _ => et_test (ev_neI (ev_var rfl) (ev_op (ev_var rfl) (ev_var rfl) o2_addI))) ?_) (fun h => ?_) fun h => ex_next ?_)
    · rw [encs_len]
      by_cases c1 : last ≤ q.2 <;> by_cases c2 : q.2 < (r.length : Int) <;> by_cases c3 : q.1 = q.2 + (i : Int) <;> simp [c1, c2, c3]
    · have h : ¬ (last ≤ q.2 ∧ q.2 < (r.length : Int) ∧ q.1 = q.2 + (i : Int)) := fun z => by rw [decide_eq_true z] at h; cases h
      rw [if_neg h] at es
      exact ex_ret (ef_d ev_bl (by rw [es]))
    have h : last ≤ q.2 ∧ q.2 < (r.length : Int) ∧ q.1 = q.2 + (i : Int) := of_decide_eq_true (by cases hd : decide (last ≤ q.2 ∧ q.2 < (r.length : Int) ∧ q.1 = q.2 + (i : Int)) with
      | true => rfl
      | false => rw [hd] at h; cases h)
    rw [if_pos h] at es
    have e1 : q.1 = ((q.1.toNat : Nat) : Int) := by omega
    have e2 : q.2 = ((q.2.toNat : Nat) : Int) := by omega
    refine ex_seq (ex_ifp (b := !(deedAt l q.1.toNat).clash (deedAt r q.2.toNat)) (et_not (et_B (ev_dat (ea_two (ev_dat (ea_two (ev_var rfl) (ev_is (ev_var rfl) (by rw [← e1]))) ⟨l, q.1.toNat, rfl, rfl⟩) (ev_op (ev_var rfl) (ev_var rfl) (o2_ixL (by rw [e2]; exact encs_atI (by omega))))) ⟨_, _, rfl, rfl⟩))) (fun h => ?_) fun h => ex_next ?_)
    · have h : (deedAt l q.1.toNat).clash (deedAt r q.2.toNat) = false := by simpa using h
      rw [h, if_neg Bool.false_ne_true] at es
      exact ex_ret (ef_d ev_bl (by rw [es]))
    have h' : (deedAt l q.1.toNat).clash (deedAt r q.2.toNat) = true := by simpa using h
    rw [h', if_pos rfl] at es
    exact ex_set (s := .d (.int q.2)) (ev_var rfl) ⟨q.2, _, _, _, by omega, es, rfl⟩
  · subst e
    rw [encR_len, List.drop_length] at es
    exact ex_ret (ef_d ev_bl (by rw [es]; rfl))
end DL
set_option Elab.async false
set_option linter.all false
set_option maxRecDepth 100000
set_option maxHeartbeats 4000000
/-! DO: the law k07's own defs. -/
namespace DL
open PySem PySem.Spec L2

/-! ### reasons -/
theorem encR_take (rs : List (Int × Int)) (k : Nat) : (encR rs).take k = encR (rs.take k) := by unfold encR; rw [List.map_take]
theorem encR_drop (rs : List (Int × Int)) (k : Nat) : (encR rs).drop k = encR (rs.drop k) := by unfold encR; rw [List.map_drop]
theorem alk_encR {n : Nat} {rs : List (Int × Int)} (h : rs.length ≤ 1000000) : alk (n + 2) (.list (encR rs)) := .list (by rw [encR_len]; exact h) fun x hx => by
  obtain ⟨q, _, rfl⟩ := List.mem_map.mp hx
  exact .tuple (show 2 ≤ 1000000 by decide) fun y hy => by
    rcases List.mem_cons.mp hy with e | hy
    · rw [e]; exact .int
    · rw [List.mem_singleton.mp hy]; exact .int
/-- a draw whose bound draws -/
theorem ef_nextE {C : Cc} {ρ : List Sl} {A : Ad} {te : TE} {i : Nat} {h : Addr} {P : Sl → List Sl → Prop} (hi : ρ[i]? = some (rnd h)) (he : Ev C te ρ fun s ρ1 => ∃ n : Nat, s = .d (.int (n : Nat)) ∧ ρ1[i]? = some (rnd h) ∧ 0 < n ∧ n < 1000000000 ∧ ∀ r : Nat, r < n → P (.d (.int (r : Nat))) ρ1) :
    Ev C (tUser (sp_law_next C.K A) (tCons (tVar i) (tCons te tNil))) ρ P :=
  ef_draw hi (fa_cons (ef_mono he fun s ρ1 ⟨n, es, h1, h0, h2, p⟩ => ⟨_, es, fa_nil ⟨h1, ⟨n, rfl, h0, h2⟩, fun d ⟨n', r, e, hr, ed⟩ => by
    obtain ⟨e1, _⟩ := int_inj e
    subst e1; subst ed
    exact p r hr⟩⟩))

/-! ### _law_shows -/
def t_law_shows (K : PySem.W.Frag) (A : Ad) : TS :=
  (tSeq (tFor (iRng1 (tCons (tCB (rLenA K) (tCons (tVar 2) tNil)) tNil)) (gName 3) (tSeq (tAsg (tOp (rIx K) (tVar 2) (tVar 3)) (gTup K 2 (gCons (gName 4) (gCons (gName 5) gNil))))
    (tSeq (tIfS (tOr (tNot (tTest (tChain rLeA rLtA (tC (.int 0)) (tVar 5) (tCB (rLenA K) (tCons (tVar 1) tNil))))) (tAnd (tTest (tOp rGtA (tVar 3) (tC (.int 0)))) (tTest (tOp rLtA (tVar 5) (tOp (rIx K) (tOp (rIx K) (tVar 2) (tOp rSubA (tVar 3) (tC (.int 1)))) (tC (.int 1))))))) (tRet (tC (.bl false))) tNext)
    (tIfS (tOr (tTest (tOp (rNeD K) (tOp rSubA (tVar 4) (tVar 5)) (tVar 3))) (tNot (tB (tUser (sp_law_meet K A) (tCons (tUser (sp_law_at K A) (tCons (tVar 0) (tCons (tVar 4) tNil))) (tCons (tOp (rIx K) (tVar 1) (tVar 5)) tNil)))))) (tRet (tC (.bl false))) tNext))))
    (tRet (tC (.bl true))))

def sp_law_shows (K : PySem.W.Frag) (A : Ad) : Sp := datSp K fun ds x => ∃ (l r : List Deed) (rs : List (Int × Int)), ds = [encP l, encP r, .list (encR rs)] ∧ l.length ≤ 100000 ∧ rs.length ≤ 1000000 ∧ x = .bool (showsB l r rs)
def lastOf (rs : List (Int × Int)) (i : Nat) : Int := if i = 0 then 0 else (rs.getD (i - 1) (0, 0)).2
theorem not_dec {p : Prop} [Decidable p] (h : (!decide p) = true) : ¬ p := fun z => by rw [decide_eq_true z] at h; cases h
theorem rd_law_shows {C : Cc} {A : Ad} {l r : List Deed} {rs : List (Int × Int)} (h1 : l.length ≤ 100000) (h2 : rs.length ≤ 1000000) :
    Ex C (t_law_shows C.K A) [.d (encP l), .d (encP r), .d (.list (encR rs)), .no, .no, .no] (retD (.bool (showsB l r rs))) := by
  have hn : ((encR rs).length : Int).toNat = rs.length := by rw [encR_len, Int.toNat_natCast]
  refine ex_seq (ex_for (ei_p (pi_r1 (j := ((encR rs).length : Nat)) (ea_one (ev_call (ea_one (ev_var rfl)) (on_lenL (ds := encR rs)))) (by rw [encR_len]; omega)) ⟨fun i ρ => ∃ (s3 s4 s5 : Sl), 0 ≤ lastOf rs i ∧ showsB l r rs = showsFrom l r i (lastOf rs i) (rs.drop i) ∧ ρ = [.d (encP l), .d (encP r), .d (.list (encR rs)), s3, s4, s5], ⟨_, _, _, Int.le_refl _, rfl, rfl⟩, fun i ρ hi ⟨s3, s4, s5, h0, es, e⟩ => ?_, fun ρ ⟨s3, s4, s5, h0, es, e⟩ => ?_⟩))
  · subst e
    rw [hn] at hi
    rw [List.drop_eq_getElem_cons hi] at es
    refine eg_name ?_
    refine ex_seq (ex_asgG (ef_d (ev_op (ev_var rfl) (ev_var rfl) (o2_ixL (encR_atI hi))) ⟨_, rfl, eg_tup rfl (egs_cons (eg_name (egs_cons (eg_name (egs_nil ?_)))))⟩))
    have el : lastOf rs (i + 1) = rs[i].2 := by
      unfold lastOf
      rw [if_neg (by omega), List.getD_eq_getElem?_getD, Nat.add_sub_cancel, List.getElem?_eq_getElem hi]
      rfl
    unfold showsFrom at es
    generalize hq : rs[i] = q at *
    refine ex_seq (ex_ifp (b := !(decide (0 ≤ q.2) && decide (q.2 < (r.length : Int))) || (decide ((0 : Int) < (i : Int)) && decide (q.2 < lastOf rs i))) (et_or (et_not (et_test (ev_chain ev_int (ev_var rfl) o2_leI fun _ => ⟨ev_is (ev_call (ea_one (ev_var rfl)) (on_lenL (ds := encs r))) (by rw [encs_len]), o2_ltI⟩))) fun _ => et_and (et_test (ev_op (ev_var rfl) ev_int o2_gtI)) fun hp => et_test (ev_op (ev_var rfl) (ev_op (x := .tuple [.int (rs.getD (i - 1) (0, 0)).1, .int (rs.getD (i - 1) (0, 0)).2]) (ev_op (ev_var rfl) (ev_op (ev_var rfl) ev_int o2_subI) (o2_ixL ?_)) ev_int (o2_ixT (atI_nat (j := 1) ?_))) o2_ltI)) (fun h => ?_) fun h => ex_next ?_)
    · have hp : (0 : Int) < (i : Int) := of_decide_eq_true hp
      have e1 : (i : Int) - 1 = ((i - 1 : Nat) : Int) := by omega
      rw [e1, encR_atI (by omega), List.getD_eq_getElem?_getD, List.getElem?_eq_getElem (by omega)]
      rfl
    · have hp : (0 : Int) < (i : Int) := of_decide_eq_true hp
      unfold lastOf
      rw [if_neg (by omega)]
      rfl
    · have h : ¬ (lastOf rs i ≤ q.2 ∧ q.2 < (r.length : Int) ∧ q.1 = q.2 + (i : Int)) := fun ⟨z1, z2, z3⟩ => by
        rw [decide_eq_true (show 0 ≤ q.2 by omega), decide_eq_true z2, decide_eq_false (show ¬ q.2 < lastOf rs i by omega), Bool.and_false] at h
        cases h
      rw [if_neg h] at es
      exact ex_ret (ef_d ev_bl (by rw [es]))
    have hb : (0 ≤ q.2 ∧ q.2 < (r.length : Int)) ∧ lastOf rs i ≤ q.2 := by
      rw [Bool.or_eq_false_iff] at h
      have ha : (decide (0 ≤ q.2) && decide (q.2 < (r.length : Int))) = true := by simpa using h.1
      rw [Bool.and_eq_true, decide_eq_true_iff, decide_eq_true_iff] at ha
      refine ⟨ha, ?_⟩
      by_cases hi0 : i = 0
      · unfold lastOf; rw [if_pos hi0]; exact ha.1
      · have := h.2
        rw [decide_eq_true (show (0 : Int) < (i : Int) by omega), Bool.true_and] at this
        have := of_decide_eq_false this
        omega
    have e2 : q.2 = ((q.2.toNat : Nat) : Int) := by omega
    refine ex_ifp (b := !(decide (q.1 - q.2 = (i : Int)) && (deedAt l q.1.toNat).clash (deedAt r q.2.toNat))) (et_is (et_or (et_test (ev_neI (ev_op (ev_var rfl) (ev_var rfl) o2_subI) (ev_var rfl))) fun hc => et_not (et_B (ev_dat (x := .bool ((deedAt l q.1.toNat).clash (deedAt r q.2.toNat))) (ea_two (ev_dat (x := (deedAt l q.1.toNat).enc) (ea_two (ev_var rfl) (ev_var rfl)) ⟨l, q.1.toNat, ?_, h1, rfl⟩) (ev_op (ev_var rfl) (ev_var rfl) (o2_ixL (by rw [e2]; exact encs_atI (by omega))))) ⟨_, _, rfl, rfl⟩))) ?_) (fun h => ?_) fun h => ex_next ?_
    · have hc : q.1 - q.2 = (i : Int) := by
        have hc : (q.1 - q.2 == (i : Int)) = true := by simpa using hc
        exact eq_of_beq hc
      have : q.1 = ((q.1.toNat : Nat) : Int) := by omega
      rw [← this]
    · by_cases c : q.1 - q.2 = (i : Int)
      · rw [c, beq_self_eq_true, decide_eq_true rfl, Bool.true_and]; rfl
      · rw [decide_eq_false c, beq_eq_false_iff_ne.mpr c]; rfl
    · refine ex_ret (ef_d ev_bl ?_)
      rw [es]
      by_cases c : q.1 - q.2 = (i : Int)
      · rw [decide_eq_true c, Bool.true_and] at h
        have h : (deedAt l q.1.toNat).clash (deedAt r q.2.toNat) = false := by simpa using h
        rw [if_pos ⟨hb.2, hb.1.2, by omega⟩, h, if_neg Bool.false_ne_true]
      · rw [if_neg fun ⟨_, _, z⟩ => c (by omega)]
    · by_cases c : q.1 - q.2 = (i : Int)
      · rw [decide_eq_true c, Bool.true_and] at h
        have h : (deedAt l q.1.toNat).clash (deedAt r q.2.toNat) = true := by simpa using h
        rw [if_pos ⟨hb.2, hb.1.2, by omega⟩, h, if_pos rfl] at es
        exact ⟨_, _, _, by rw [el]; exact hb.1.1, by rw [el]; exact es, rfl⟩
      · rw [decide_eq_false c] at h; cases h
  · subst e
    rw [hn, List.drop_length] at es
    exact ex_ret (ef_d ev_bl (by rw [es]; rfl))

/-! ### what shows so many is no longer -/
theorem fitTo_mono {l r : List Deed} : ∀ {i j : Nat}, i ≤ j → j ≤ r.length → (fitTo l r i).r.length ≤ (fitTo l r j).r.length
  | i, 0, h, _ => by rw [Nat.le_zero.mp h]; exact Nat.le_refl _
  | i, j + 1, h, hj => by
    by_cases e : i = j + 1
    · rw [e]; exact Nat.le_refl _
    · refine Nat.le_trans (fitTo_mono (show i ≤ j by omega) (by omega)) ?_
      rw [fitTo_succ (show j < r.length by omega)]
      unfold fitStep
      rw [List.length_append]
      exact Nat.le_add_right _ _
theorem fitTo_no {l r : List Deed} {i : Nat} (h : i < r.length) : (deedAt l (i + (fitTo l r (i + 1)).r.length)).clash (deedAt r i) = false := by
  have h1 := (fitTo_len (l := l) (r := r) (i := i) (by omega)).1
  have h2 : (fitTo l r (i + 1)).r.length = (fitTo l r i).r.length + waitAt l r[i] (fitTo l r i).f.length := by
    rw [fitTo_succ h]
    unfold fitStep
    rw [List.length_append, whys_len]
  rw [h2, ← Nat.add_assoc, ← h1, deedAt_eq h]
  exact waitAt_no _ _ _
theorem shows_le_from {l r : List Deed} : ∀ {rs : List (Int × Int)} {k : Nat} {last : Int}, showsFrom l r k last rs = true → (k = 0 ∨ (last.toNat < r.length ∧ k ≤ (fitTo l r (last.toNat + 1)).r.length)) → 0 ≤ last → k + rs.length ≤ (fitOf l r).r.length
  | [], k, last, _, h, _ => by
    rw [← fitTo_all]
    rcases h with h | ⟨h1, h2⟩
    · rw [h]; exact Nat.zero_le _
    · exact Nat.le_trans h2 (fitTo_mono (by omega) (Nat.le_refl _))
  | q :: t, k, last, hs, h, h0 => by
    unfold showsFrom at hs
    by_cases c : last ≤ q.2 ∧ q.2 < (r.length : Int) ∧ q.1 = q.2 + (k : Int)
    · rw [if_pos c] at hs
      by_cases cl : (deedAt l q.1.toNat).clash (deedAt r q.2.toNat) = true
      · rw [if_pos cl] at hs
        have hn : q.2.toNat < r.length := by omega
        have eb : q.1.toNat = q.2.toNat + k := by omega
        have hk : k ≤ (fitTo l r (q.2.toNat + 1)).r.length := by
          rcases h with h | ⟨h1, h2⟩
          · rw [h]; exact Nat.zero_le _
          · exact Nat.le_trans h2 (fitTo_mono (by omega) (by omega))
        have hk2 : k ≠ (fitTo l r (q.2.toNat + 1)).r.length := fun e => by
          rw [eb, e, fitTo_no hn] at cl
          cases cl
        have := shows_le_from hs (.inr ⟨hn, by omega⟩) (by omega)
        rw [List.length_cons]
        omega
      · rw [if_neg cl] at hs; cases hs
    · rw [if_neg c] at hs; cases hs
theorem shows_le {l r : List Deed} {rs : List (Int × Int)} (h : showsB l r rs = true) : rs.length ≤ (fitOf l r).r.length := by
  have := shows_le_from h (.inl rfl) (Int.le_refl _)
  omega
theorem fit_le (l r : List Deed) : (fitOf l r).r.length ≤ l.length := by
  have := fitTo_len (l := l) (r := r) (i := r.length) (Nat.le_refl _)
  rw [fitTo_all] at this
  omega

/-! ### _law_any -/
def t_law_any (K : PySem.W.Frag) (A : Ad) : TS :=
  (tSeq (tAsg (tLst tNil) (gName 3))
    (tSeq (tFor (iRng1 (tCons (tCB (rLenA K) (tCons (tVar 2) tNil)) tNil)) (gName 4) (tWhile (tAnd (tB (tUser (sp_law_meet K A) (tCons (tUser (sp_law_at K A) (tCons (tVar 1) (tCons (tOp (rAddA K) (tVar 4) (tCB (rLenA K) (tCons (tVar 3) tNil))) tNil))) (tCons (tOp (rIx K) (tVar 2) (tVar 4)) tNil)))) (tTest (tOp rGtA (tUser (sp_law_next K A) (tCons (tVar 0) (tCons (tC (.int 4)) tNil))) (tC (.int 0))))) (tDrop (tBM K "list" rAppend (tVar 3) (tCons (tTup (tCons (tOp (rAddA K) (tVar 4) (tCB (rLenA K) (tCons (tVar 3) tNil))) (tCons (tVar 4) tNil))) tNil)))))
    (tRet (tVar 3))))

def sp_law_any (K : PySem.W.Frag) (A : Ad) : Sp := drawSp K (fun ds => ∃ l r : List Deed, ds = [encP l, encP r] ∧ l.length ≤ 100000 ∧ r.length ≤ 100000) (fun ds x => ∃ (l r : List Deed) (rs : List (Int × Int)), ds = [encP l, encP r] ∧ rs.length ≤ l.length ∧ x = .list (encR rs))
theorem rd_law_any {C : Cc} {A : Ad} {h : Addr} {l r : List Deed} (h1 : l.length ≤ 100000) (h2 : r.length ≤ 100000) : Ex C (t_law_any C.K A) [rnd h, .d (encP l), .d (encP r), .no, .no]
    { nx := fun _ => False, rt := fun s ρ' => ∃ x, ∃ _ : Unit, s = .d x ∧ (∃ (l' r' : List Deed) (rs : List (Int × Int)), [encP l, encP r] = [encP l', encP r'] ∧ rs.length ≤ l'.length ∧ x = .list (encR rs)) ∧ ρ'[0]? = some (rnd h) } := by
  have hn : ((encs r).length : Int).toNat = r.length := by rw [encs_len, Int.toNat_natCast]
  refine ex_seq (ex_set (s := own C.K []) (ev_lstO ea_nil) ?_)
  refine ex_seq (ex_for (ei_p (pi_r1 (j := ((encs r).length : Nat)) (ea_one (ev_call (ea_one (ev_var rfl)) (on_lenL (ds := encs r)))) (by rw [encs_len]; omega)) ⟨fun i ρ => ∃ (rs : List (Int × Int)) (s4 : Sl), rs.length ≤ l.length ∧ ρ = [rnd h, .d (encP l), .d (encP r), own C.K (encR rs), s4], ⟨[], _, Nat.zero_le _, rfl⟩, fun i ρ hi ⟨rs, s4, hl, e⟩ => ?_, fun ρ ⟨rs, s4, hl, e⟩ => ?_⟩))
  · subst e
    rw [hn] at hi
    refine eg_name ?_
    refine ex_while (fun m ρ => ∃ rs : List (Int × Int), m + rs.length = l.length ∧ ρ = [rnd h, .d (encP l), .d (encP r), own C.K (encR rs), .d (.int (i : Nat))]) ⟨l.length - rs.length, rs, by omega, rfl⟩ fun m ρ ⟨rs, hm, e⟩ => ?_
    subst e
    have evb : PD C (tOp (rAddA C.K) (tVar 4) (tCB (rLenA C.K) (tCons (tVar 3) tNil))) [rnd h, .d (encP l), .d (encP r), own C.K (encR rs), .d (.int (i : Nat))] (.int ((i + rs.length : Nat) : Int)) := ev_is (ev_op (ev_var rfl) (ev_lenO (xs := encR rs) rfl) o2_addI) (by rw [encR_len]; congr 1)
    refine ft_and (ft_p (b := (deedAt l (i + rs.length)).clash (deedAt r i)) (et_B (ev_dat (ea_two (ev_dat (ea_two (ev_var rfl) evb) ⟨l, i + rs.length, rfl, h1, rfl⟩) (ev_op (ev_var rfl) (ev_var rfl) (o2_ixL (encs_atI hi)))) ⟨_, _, rfl, rfl⟩)) ?_)
    by_cases c : (deedAt l (i + rs.length)).clash (deedAt r i) = true
    · rw [if_pos c]
      have hlt : i + rs.length < l.length := Nat.lt_of_not_le fun z => by rw [deedAt_out z] at c; cases c
      refine ft_test (ef_op (ef_next (n := 4) rfl ev_int (by decide) (by decide) fun k hk => ⟨_, rfl, ef_d ev_int ⟨_, .d (.bool (decide ((0 : Int) < (k : Nat)))), rfl, o2_gtI, _, rfl, ?_⟩⟩))
      by_cases hk0 : (0 : Int) < (k : Nat)
      · rw [decide_eq_true hk0, if_pos rfl]
        refine ex_append (xs := encR rs) rfl (ef_d (ev_tup (ea_two evb (ev_var rfl))) ⟨_, _, rfl, rfl, by rw [encR_len]; omega, m - 1, by omega, rs ++ [(((i + rs.length : Nat) : Int), ((i : Nat) : Int))], by rw [List.length_append, List.length_singleton]; omega, ?_⟩)
        rw [← encR_app]
        rfl
      · rw [decide_eq_false hk0, if_neg Bool.false_ne_true]
        exact ⟨rs, _, by omega, rfl⟩
    · rw [if_neg c, if_neg Bool.false_ne_true]
      exact ⟨rs, _, by omega, rfl⟩
  · subst e
    exact ex_ret (ef_frz rfl ⟨_, (), rfl, ⟨l, r, rs, rfl, hl, rfl⟩, rfl⟩)

/-! ### _law_turned -/
def t_law_turned (K : PySem.W.Frag) (A : Ad) : TS :=
  (tSeq (tAsg (tUser (sp_law_next K A) (tCons (tVar 0) (tCons (tOp (rAddA K) (tCB (rLenA K) (tCons (tVar 1) tNil)) (tC (.int 1))) tNil))) (gName 2))
    (tSeq (tAsg (tOp (rIx K) (tOp (rAddA K) (tSl (rSlX K) (tVar 1) (tPart (tVar 2)) tNoPart) (tLst (tCons (tTup (tCons (tC (.int 0)) (tCons (tC (.int 0)) tNil))) tNil))) (tC (.int 0))) (gTup K 2 (gCons (gName 3) (gCons (gName 4) gNil))))
    (tSeq (tAsg (tUser (sp_law_next K A) (tCons (tVar 0) (tCons (tC (.int 6)) tNil))) (gName 5))
    (tSeq (tAsg (tOp (rAddA K) (tC (.int 1)) (tUser (sp_law_next K A) (tCons (tVar 0) (tCons (tOp (rIx K) (tLst (tCons (tC (.int 3)) (tCons (tOp rPowA (tC (.int 10)) (tC (.int 6))) tNil))) (tUser (sp_law_next K A) (tCons (tVar 0) (tCons (tC (.int 2)) tNil)))) tNil)))) (gName 6))
    (tSeq (tIfS (tTest (tOp (rEqD K) (tVar 5) (tC (.int 0)))) (tRet (tOp (rAddA K) (tSl (rSlX K) (tVar 1) tNoPart (tPart (tVar 2))) (tSl (rSlX K) (tVar 1) (tPart (tOp (rAddA K) (tVar 2) (tC (.int 1)))) tNoPart))) tNext)
    (tSeq (tIfS (tTest (tOp (rEqD K) (tVar 5) (tC (.int 1)))) (tRet (tOp (rAddA K) (tOp (rAddA K) (tSl (rSlX K) (tVar 1) tNoPart (tPart (tVar 2))) (tLst (tCons (tTup (tCons (tVar 3) (tCons (tVar 4) tNil))) tNil))) (tSl (rSlX K) (tVar 1) (tPart (tVar 2)) tNoPart))) tNext)
    (tSeq (tIfS (tTest (tOp (rEqD K) (tVar 5) (tC (.int 2)))) (tRet (tOp (rAddA K) (tSl (rSlX K) (tVar 1) (tPart (tVar 2)) tNoPart) (tSl (rSlX K) (tVar 1) tNoPart (tPart (tVar 2))))) tNext)
    (tSeq (tAsg (tOp (rIx K) (tLst (tCons (tTup (tCons (tOp (rAddA K) (tVar 3) (tVar 6)) (tCons (tVar 4) tNil))) (tCons (tTup (tCons (tOp rSubA (tVar 3) (tVar 6)) (tCons (tVar 4) tNil))) (tCons (tTup (tCons (tOp (rAddA K) (tVar 3) (tVar 6)) (tCons (tOp (rAddA K) (tVar 4) (tVar 6)) tNil))) tNil)))) (tOp rSubA (tVar 5) (tC (.int 3)))) (gName 7))
    (tRet (tOp (rAddA K) (tOp (rAddA K) (tSl (rSlX K) (tVar 1) tNoPart (tPart (tVar 2))) (tLst (tCons (tVar 7) tNil))) (tSl (rSlX K) (tVar 1) (tPart (tOp (rAddA K) (tVar 2) (tC (.int 1)))) tNoPart)))))))))))

def sp_law_turned (K : PySem.W.Frag) (A : Ad) : Sp := drawSp K (fun ds => ∃ rs : List (Int × Int), ds = [.list (encR rs)] ∧ rs.length ≤ 100000) (fun ds x => ∃ rs rs' : List (Int × Int), ds = [.list (encR rs)] ∧ rs'.length ≤ rs.length + 1 ∧ x = .list (encR rs'))
theorem rd_law_turned {C : Cc} {A : Ad} {h : Addr} {rs : List (Int × Int)} (hl : rs.length ≤ 100000) : Ex C (t_law_turned C.K A) [rnd h, .d (.list (encR rs)), .no, .no, .no, .no, .no, .no]
    { nx := fun _ => False, rt := fun s ρ' => ∃ x, ∃ _ : Unit, s = .d x ∧ (∃ rs1 rs' : List (Int × Int), [(.list (encR rs) : D)] = [.list (encR rs1)] ∧ rs'.length ≤ rs1.length + 1 ∧ x = .list (encR rs')) ∧ ρ'[0]? = some (rnd h) } := by
  have el : PD C (tOp (rAddA C.K) (tCB (rLenA C.K) (tCons (tVar 1) tNil)) (tC (.int 1))) [rnd h, .d (.list (encR rs)), .no, .no, .no, .no, .no, .no] (.int ((rs.length + 1 : Nat) : Int)) := ev_is (ev_op (ev_call (ea_one (ev_var rfl)) (on_lenL (ds := encR rs))) ev_int o2_addI) (by rw [encR_len]; congr 1)
  refine ex_seq (ex_asg (ef_next rfl el (by omega) (by omega) fun k hk => ?_))
  have pre : ∀ {ρ : List Sl}, ρ[1]? = some (.d (.list (encR rs))) → ρ[2]? = some (.d (.int (k : Nat))) → PD C (tSl (rSlX C.K) (tVar 1) tNoPart (tPart (tVar 2))) ρ (.list (encR (rs.take k))) := fun e1 e2 => ev_sl (ev_var e1) eo_no (eo_part (ev_var e2)) (os_list (by rw [cut_pre, encR_take]; exact .dat))
  have suf : ∀ {ρ : List Sl}, ρ[1]? = some (.d (.list (encR rs))) → ρ[2]? = some (.d (.int (k : Nat))) → PD C (tSl (rSlX C.K) (tVar 1) (tPart (tVar 2)) tNoPart) ρ (.list (encR (rs.drop k))) := fun e1 e2 => ev_sl (ev_var e1) (eo_part (ev_var e2)) eo_no (os_list (by rw [cut_suf, encR_drop]; exact .dat))
  have suf1 : ∀ {ρ : List Sl}, ρ[1]? = some (.d (.list (encR rs))) → ρ[2]? = some (.d (.int (k : Nat))) → PD C (tSl (rSlX C.K) (tVar 1) (tPart (tOp (rAddA C.K) (tVar 2) (tC (.int 1)))) tNoPart) ρ (.list (encR (rs.drop (k + 1)))) := fun e1 e2 => ev_sl (ev_var e1) (eo_part (i := ((k + 1 : Nat) : Int)) (ev_is (ev_op (ev_var e2) ev_int o2_addI) (by congr 1))) eo_no (os_list (by rw [cut_suf, encR_drop]; exact .dat))
  have lt : (rs.take k).length ≤ rs.length := by rw [List.length_take]; omega
  have ld : (rs.drop k).length ≤ rs.length := by rw [List.length_drop]; omega
  have ld1 : (rs.drop (k + 1)).length ≤ rs.length := by rw [List.length_drop]; omega
  have lsum : (rs.take k).length + (rs.drop k).length = rs.length := by rw [List.length_take, List.length_drop]; omega
  have lsum1 : (rs.take k).length + (rs.drop (k + 1)).length ≤ rs.length := by rw [List.length_take, List.length_drop]; omega
  have add : ∀ {ρ : List Sl} {ta tb : TE} {a b : List (Int × Int)}, PD C ta ρ (.list (encR a)) → PD C tb ρ (.list (encR b)) → a.length + b.length ≤ 10000000 → PD C (tOp (rAddA C.K) ta tb) ρ (.list (encR (a ++ b))) := fun ha hb hl => ev_op ha hb (o2_addL (by rw [encR_len, encR_len]; exact hl) (by rw [encR_app]; exact .dat))
  -- the tuple at the place
  obtain ⟨q, hq⟩ : ∃ q : Int × Int, (encR (rs.drop k ++ [(0, 0)]))[0]? = some (.tuple [.int q.1, .int q.2]) := by
    cases rs.drop k with
    | nil => exact ⟨(0, 0), rfl⟩
    | cons q t => exact ⟨q, rfl⟩
  refine ex_seq (ex_asgG (ef_d (ev_op (add (b := [(0, 0)]) (suf rfl rfl) (ev_lst (ea_one (ev_tup (ea_two ev_int ev_int)))) (by rw [List.length_singleton]; omega)) ev_int (o2_ixL (atI_nat (j := 0) hq))) ⟨_, rfl, eg_tup rfl (egs_cons (eg_name (egs_cons (eg_name (egs_nil ?_)))))⟩))
  refine ex_seq (ex_asg (ef_next (n := 6) rfl ev_int (by decide) (by decide) fun turn hturn => ?_))
  refine ex_seq (ex_asg (ef_op (ef_d ev_int ⟨_, rfl, ef_nextE rfl (ef_op (ef_d (ev_lst (ea_two ev_int (ev_op ev_int ev_int (o2_I (g := fun i j => .int (i ^ j.toNat)) (i := 10) (j := 6) ⟨by decide, by decide, by decide⟩ fun _ => .int _)))) ⟨_, rfl, ef_next (n := 2) rfl ev_int (by decide) (by decide) fun m hm => ⟨_, .d (.int ((if m = 0 then 3 else 1000000 : Nat) : Int)), rfl, ?_, _, rfl, rfl, ?_, ?_, fun far _ => ⟨_, _, rfl, o2_addI, ?_⟩⟩⟩))⟩)))
  · have : m = 0 ∨ m = 1 := by omega
    rcases this with e | e <;> subst e
    · exact o2_ixL (atI_nat (j := 0) rfl)
    · exact o2_ixL (atI_nat (j := 1) rfl)
  · split <;> omega
  · split <;> omega
  generalize (1 : Int) + (far : Nat) = F
  have done : ∀ {ρ : List Sl} {te : TE} {a : List (Int × Int)}, PD C te ρ (.list (encR a)) → a.length ≤ rs.length + 1 → ρ[0]? = some (rnd h) → Ev C te ρ fun s ρ' => ∃ x, ∃ _ : Unit, s = .d x ∧ (∃ rs1 rs' : List (Int × Int), [(.list (encR rs) : D)] = [.list (encR rs1)] ∧ rs'.length ≤ rs1.length + 1 ∧ x = .list (encR rs')) ∧ ρ'[0]? = some (rnd h) :=
    fun hd hl h0 => (ef_d hd ⟨_, (), rfl, ⟨rs, _, rfl, hl, rfl⟩, h0⟩)
  refine ex_seq (ex_ifp (et_test (ev_eqI (ev_var rfl) ev_int)) (fun _ => ?_) fun e0 => ex_next ?_)
  · exact ex_ret (done (add (pre rfl rfl) (suf1 rfl rfl) (by omega)) (by rw [List.length_append]; omega) rfl)
  refine ex_seq (ex_ifp (et_test (ev_eqI (ev_var rfl) ev_int)) (fun _ => ?_) fun e1 => ex_next ?_)
  · exact ex_ret (done (add (add (b := [q]) (pre rfl rfl) (ev_lst (ea_one (ev_tup (ea_two (ev_var rfl) (ev_var rfl))))) (by rw [List.length_singleton]; omega)) (suf rfl rfl) (by rw [List.length_append, List.length_singleton]; omega)) (by rw [List.length_append, List.length_append, List.length_singleton]; omega) rfl)
  refine ex_seq (ex_ifp (et_test (ev_eqI (ev_var rfl) ev_int)) (fun _ => ?_) fun e2 => ex_next ?_)
  · exact ex_ret (done (add (suf rfl rfl) (pre rfl rfl) (by omega)) (by rw [List.length_append]; omega) rfl)
  have h0 : ((turn : Nat) : Int) ≠ 0 := beq_eq_false_iff_ne.mp e0
  have h1 : ((turn : Nat) : Int) ≠ 1 := beq_eq_false_iff_ne.mp e1
  have h2 : ((turn : Nat) : Int) ≠ 2 := beq_eq_false_iff_ne.mp e2
  obtain ⟨z, hz⟩ : ∃ z : Int × Int, [(.tuple [.int (q.1 + F), .int q.2] : D), .tuple [.int (q.1 - F), .int q.2], .tuple [.int (q.1 + F), .int (q.2 + F)]][turn - 3]? = some (.tuple [.int z.1, .int z.2]) := by
    have : turn - 3 = 0 ∨ turn - 3 = 1 ∨ turn - 3 = 2 := by omega
    rcases this with e | e | e <;> rw [e]
    · exact ⟨(q.1 + F, q.2), rfl⟩
    · exact ⟨(q.1 - F, q.2), rfl⟩
    · exact ⟨(q.1 + F, q.2 + F), rfl⟩
  refine ex_seq (ex_set (s := .d (.tuple [.int z.1, .int z.2])) (ev_op (ev_lst (ea_cons (ev_tup (ea_two (ev_op (ev_var rfl) (ev_var rfl) o2_addI) (ev_var rfl))) (ea_two (ev_tup (ea_two (ev_op (ev_var rfl) (ev_var rfl) o2_subI) (ev_var rfl))) (ev_tup (ea_two (ev_op (ev_var rfl) (ev_var rfl) o2_addI) (ev_op (ev_var rfl) (ev_var rfl) o2_addI)))))) (ev_is (y := .int ((turn - 3 : Nat) : Int)) (ev_op (ev_var rfl) ev_int o2_subI) (by congr 1; omega)) (o2_ixL (atI_nat hz))) ?_)
  exact ex_ret (done (add (add (b := [z]) (pre rfl rfl) (ev_lst (ea_one (ev_var rfl))) (by rw [List.length_singleton]; omega)) (suf1 rfl rfl) (by rw [List.length_append, List.length_singleton]; omega)) (by rw [List.length_append, List.length_append, List.length_singleton]; omega) rfl)
end DL
set_option Elab.async false
set_option linter.all false
set_option maxRecDepth 100000
set_option maxHeartbeats 4000000
/-! DP: lists within owned objects: what is reached by a path; two lists in a tuple. -/
namespace DL
open PySem PySem.Spec L2

/-! ### two lists in a tuple, and what follows them -/
def Res.pair (K : PySem.W.Frag) (xs ys rest : List D) : Res where
  holds := fun Hb H v fp => ∃ t a b vs us rs, v = .ref t ∧ fp = [t, a, b] ∧ t ≠ a ∧ t ≠ b ∧ a ≠ b ∧ H t = some (.tup (.ref a :: .ref b :: rs)) ∧ H a = some (.lst vs) ∧ H b = some (.lst us) ∧ RpAll K Hb vs xs ∧ RpAll K Hb us ys ∧ RpAll K Hb rs rest
  mono := fun ⟨t, a, b, vs, us, rs, e, ef, n1, n2, n3, ht, ha, hb, h1, h2, h3⟩ s k => ⟨t, a, b, vs, us, rs, e, ef, n1, n2, n3,
    (k t (by rw [ef]; exact List.mem_cons_self)).trans ht, (k a (by rw [ef]; exact List.mem_cons_of_mem _ List.mem_cons_self)).trans ha, (k b (by rw [ef]; exact List.mem_cons_of_mem _ (List.mem_cons_of_mem _ List.mem_cons_self))).trans hb, h1.mono s, h2.mono s, h3.mono s⟩
abbrev prs (K : PySem.W.Frag) (xs ys rest : List D) : Sl := .ow (.pair K xs ys rest)
/-- .. owned, or frozen -/
inductive Psl (K : PySem.W.Frag) (xs ys rest : List D) : Sl → Prop
  | dat : Psl K xs ys rest (.d (.tuple (.list xs :: .list ys :: rest)))
  | own : Psl K xs ys rest (prs K xs ys rest)

theorem Fr.n_add {F F' F'' : Addr → Prop} {Hb H Hb' H' : Hp} (a : Fr F Hb H Hb' H' F') (h : ∀ x, F'' x → F x ∨ H x = none) : Fr F Hb H Hb' H' F'' := ⟨a.b, a.k, a.f, h⟩
/-! ### a list that is reached from slot i -/
structure LRef (C : Cc) (te : TE) (ρ : List Sl) (i : Nat) (xs : List D) (up : List D → Res) : Prop where
  run : ∀ σ Hb H fp, EnvW C σ ρ Hb H fp → ∃ v a, σ[i]? = some (some v) ∧ a ∈ fp i ∧ (∀ Hb' H', Step [] Hb H Hb' H' → ∃ vs, H' a = some (.lst vs) ∧ RpAll C.K Hb' vs xs ∧ ∀ vs2 ys, RpAll C.K Hb' vs2 ys → (up ys).holds Hb' (upd H' a (.lst vs2)) v (fp i)) ∧
    ∀ Q : VK, (∀ Hb' H', Step [] Hb H Hb' H' → Q (.ref a) H') → te σ H Q
section
variable {C : Cc} {ρ : List Sl} {te to ti : TE} {tA : TA} {i j : Nat} {xs ys rest ds : List D} {up : List D → Res} {x : D} {s : Sl} {P : Sl → List Sl → Prop} {Po : Po}
theorem EnvW.put {σ : L2.St} {Hb H : Hp} {fp : Nat → List Addr} {r : Res} {v : V} {a : Addr} {o : HO} (W : EnvW C σ ρ Hb H fp) (hv : σ[i]? = some (some v)) (ha : a ∈ fp i) (h : r.holds Hb (upd H a o) v (fp i)) :
    EnvW C σ (ρ.set i (.ow r)) Hb (upd H a o) (fun j => if j = i then fp i else fp j) ∧ Fr (In fp) Hb H Hb (upd H a o) (In fun j => if j = i then fp i else fp j) := by
  obtain ⟨f1, f2, f3⟩ := W.fr i a ha
  have t : Step (fp i) Hb H Hb (upd H a o) := Step.wr W.same f1 ha
  refine ⟨W.write (s := .ow r) (fpi := fp i) t (fun b hb => hb) (List.getElem?_eq_some_iff.mp hv).1 (fun v' e' => by
    rw [hv] at e'; cases e'
    exact ⟨_, rfl, h⟩) fun b hb => .inl hb, ⟨Same.refl _, fun b u hx e => t.k b u (fun z => hx ⟨i, z⟩) e, fun _ _ _ => rfl, fun b ⟨j, hj⟩ => ?_⟩⟩
  have hj : b ∈ (if j = i then fp i else fp j) := hj
  by_cases e : j = i
  · rw [if_pos e] at hj; exact .inl ⟨i, hj⟩
  · rw [if_neg e] at hj; exact .inl ⟨j, hj⟩
/-! what is asked of it -/
theorem lr_own (hi : ρ[i]? = some (own C.K xs)) : LRef C (tVar i) ρ i xs (Res.lst C.K) := ⟨fun σ Hb H fp W => by
  obtain ⟨v, ev, a, vs, rfl, ef, ha, hv⟩ := W.owns hi
  refine ⟨.ref a, a, ev, by rw [ef]; exact List.mem_singleton.mpr rfl, fun Hb' H' t => ⟨vs, t.same _ _ ha, hv.mono t.b, fun vs2 ys h2 => ⟨a, vs2, rfl, ef, upd_same, h2⟩⟩, fun Q q => ⟨_, ev, q _ _ (Step.refl W.same)⟩⟩⟩
theorem vv_ref (L : LRef C te ρ i xs up) : VEv C te ρ (.list xs) := fun σ Hb H fp W Q q => by
  obtain ⟨v, a, ev, ha, h, k⟩ := L.run σ Hb H fp W
  refine k Q fun Hb' H' t => ?_
  obtain ⟨vs, hl, hr, _⟩ := h Hb' H' t
  exact q _ Hb' H' t (.lst hl (hr.mono t.s))
/-- a new tuple of the items -/
theorem ev_tupOf (L : LRef C te ρ i xs up) : PD C (tCB (rTupleA C.K) (tCons te tNil)) ρ (.tuple xs) := fun σ Hb H fp W Q q => by
  obtain ⟨v, a, ev, ha, h, k⟩ := L.run σ Hb H fp W
  refine k _ fun Hb' H' t => ?_
  obtain ⟨vs, hl, hr, _⟩ := h Hb' H' t
  have q' := q.after t
  exact ⟨_, _, rfl, .inl ⟨.of hl, fun p hp => tup_new q' t.s hp hr⟩⟩
theorem ev_listOf (L : LRef C te ρ i xs up) (l : Lsl C.K xs s) : PEv C (tCB (rListA C.K) (tCons te tNil)) ρ s := fun σ Hb H fp W Q q => by
  obtain ⟨v, a, ev, ha, h, k⟩ := L.run σ Hb H fp W
  refine k _ fun Hb' H' t => ?_
  obtain ⟨vs, hl, hr, _⟩ := h Hb' H' t
  have q' := q.after t
  exact ⟨_, _, rfl, .inl (.of hl), fun p hp => lst_new l q' t.s hp hr⟩
/-- an item -/
theorem ev_ixOf {n : Int} {z : D} (L : LRef C te ρ i xs up) (ht : PD C ti ρ (.int n)) (hz : atI xs n = some z) : PD C (tOp (rIx C.K) te ti) ρ z := fun σ Hb H fp W Q q => by
  obtain ⟨v, a, ev, ha, h, k⟩ := L.run σ Hb H fp W
  refine k _ fun Hb' H' t => ?_
  refine ht σ Hb' H' fp (W.step t) _ fun w Hb2 H2 fv2 t2 ⟨_, e2, h2⟩ _ => ?_
  cases e2; cases h2
  obtain ⟨vs, hl, hr, _⟩ := h Hb2 H2 (t.trans0 t2)
  obtain ⟨u, hu, ru⟩ := atI_rp hr hz
  exact .inl ⟨a, _, n, u, rfl, rfl, .of hl, hu, q.data (t.trans0 t2) ru⟩
/-! changes -/
theorem ex_app (L : LRef C to ρ i xs up) (he : PD C te ρ x) (hl : xs.length < 10000000) (p : Po.nx (ρ.set i (.ow (up (xs ++ [x]))))) : Ex C (tDrop (tBM C.K "list" rAppend to (tCons te tNil))) ρ Po := fun σ Hb H fp E W q => by
  obtain ⟨v, a, ev, ha, h, k⟩ := L.run σ Hb H fp W
  refine k _ fun Hb' H' t => ?_
  obtain ⟨vs, hl1, _, _⟩ := h Hb' H' t
  refine ⟨.inl ⟨rfl, vs, .of hl1⟩, he σ Hb' H' fp (W.step t) _ fun w Hb2 H2 fv2 t2 ⟨_, e2, h2⟩ _ => ?_⟩
  cases e2
  obtain ⟨us, hl2, hr2, hu⟩ := h Hb2 H2 (t.trans0 t2)
  refine ⟨a, us, w, rfl, rfl, hl2, by rw [hr2.length]; exact szl hl, ?_⟩
  obtain ⟨W3, fr⟩ := ((W.step t).step t2).put ev ha (hu _ _ (hr2.append (.one h2)))
  exact q.nx σ _ Hb2 _ _ (((Fr.of t).etrans (.of t2)).etrans fr) W3 p
theorem ex_ext (L : LRef C to ρ i xs up) (he : PD C te ρ (.list ys)) (hl : xs.length + ys.length ≤ 10000000) (p : Po.nx (ρ.set i (.ow (up (xs ++ ys))))) : Ex C (tDrop (tBM C.K "list" rExtend to (tCons te tNil))) ρ Po := fun σ Hb H fp E W q => by
  obtain ⟨v, a, ev, ha, h, k⟩ := L.run σ Hb H fp W
  refine k _ fun Hb' H' t => ?_
  obtain ⟨vs, hl1, _, _⟩ := h Hb' H' t
  refine ⟨.inl ⟨rfl, vs, .of hl1⟩, he σ Hb' H' fp (W.step t) _ fun w Hb2 H2 fv2 t2 ⟨_, e2, h2⟩ _ => ?_⟩
  cases e2
  obtain ⟨us, hl2, hr2, hu⟩ := h Hb2 H2 (t.trans0 t2)
  cases h2 with
  | @lst b zs _ hs hz =>
    refine ⟨a, b, us, zs, rfl, rfl, hl2, t2.s _ _ hs, by rw [hr2.length, hz.length]; exact sz hl, ?_⟩
    obtain ⟨W3, fr⟩ := ((W.step t).step t2).put ev ha (hu _ _ (hr2.append hz))
    exact q.nx σ _ Hb2 _ _ (((Fr.of t).etrans (.of t2)).etrans fr) W3 p
theorem ex_clr (L : LRef C to ρ i xs up) (p : Po.nx (ρ.set i (.ow (up [])))) : Ex C (tDrop (tBM0 C.K "list" rClear to)) ρ Po := fun σ Hb H fp E W q => by
  obtain ⟨v, a, ev, ha, h, k⟩ := L.run σ Hb H fp W
  refine k _ fun Hb' H' t => ?_
  obtain ⟨vs, hl1, _, hu⟩ := h Hb' H' t
  refine ⟨.inl ⟨rfl, vs, .of hl1⟩, a, vs, rfl, rfl, hl1, ?_⟩
  obtain ⟨W3, fr⟩ := (W.step t).put ev ha (hu [] [] .nil)
  exact q.nx σ _ Hb' _ _ ((Fr.of t).etrans fr) W3 p
theorem ex_six {n : Int} {k : Nat} (L : LRef C to ρ i xs up) (he : PD C te ρ x) (ht : PD C ti ρ (.int n)) (hk : ixN xs.length n = some k) (p : Po.nx (ρ.set i (.ow (up (xs.set k x))))) : Ex C (tAsg te (gSub to ti rSetL)) ρ Po := fun σ Hb H fp E W q =>
  he σ Hb H fp W _ fun w Hb1 H1 fv1 t1 ⟨_, e1, h1⟩ _ => by
    cases e1
    have W1 := W.step t1
    obtain ⟨v, a, ev, ha, h, kk⟩ := L.run σ Hb1 H1 fp W1
    refine kk _ fun Hb' H' t => ?_
    refine ht σ Hb' H' fp (W1.step t) _ fun w2 Hb2 H2 fv2 t2 ⟨_, e2, h2⟩ _ => ?_
    cases e2; cases h2
    obtain ⟨us, hl2, hr2, hu⟩ := h Hb2 H2 (t.trans0 t2)
    refine ⟨a, us, n, k, rfl, rfl, hl2, by rw [hr2.length]; exact hk, ?_⟩
    obtain ⟨W3, fr⟩ := ((W1.step t).step t2).put ev ha (hu _ _ (RpAll.set ((h1.mono t.b).mono t2.b) k hr2))
    exact q.nx σ _ Hb2 _ _ ((((Fr.of t1).etrans (.of t)).etrans (.of t2)).etrans fr) W3 p
/-! two lists of a pair -/
theorem lr_pair0 (hi : ρ[i]? = some (prs C.K xs ys rest)) (ht : PD C ti ρ (.int 0)) : LRef C (tOp (rIx C.K) (tVar i) ti) ρ i xs (fun zs => .pair C.K zs ys rest) := ⟨fun σ Hb H fp W => by
  obtain ⟨v, ev, t, a, b, vs, us, rs, rfl, ef, n1, n2, n3, h1, h2, h3, r1, r2, r3⟩ := W.owns hi
  refine ⟨.ref t, a, ev, by rw [ef]; exact List.mem_cons_of_mem _ List.mem_cons_self, fun Hb' H' s => ⟨vs, s.same _ _ h2, r1.mono s.b, fun vs2 ys2 g => ⟨t, a, b, vs2, us, rs, rfl, ef, n1, n2, n3, by rw [upd_ne n1]; exact s.same _ _ h1, upd_same, by rw [upd_ne n3.symm]; exact s.same _ _ h3, g, r2.mono s.b, r3.mono s.b⟩⟩, fun Q q => ⟨_, ev, ht σ Hb H fp W _ fun w Hb2 H2 _ t2 ⟨_, e2, g2⟩ _ => ?_⟩⟩
  cases e2; cases g2
  exact .inr (.inl ⟨t, _, 0, .ref a, rfl, rfl, .of (t2.same _ _ h1), atI_nat (j := 0) rfl, q _ _ t2⟩)⟩
theorem lr_pair1 (hi : ρ[i]? = some (prs C.K xs ys rest)) (ht : PD C ti ρ (.int 1)) : LRef C (tOp (rIx C.K) (tVar i) ti) ρ i ys (fun zs => .pair C.K xs zs rest) := ⟨fun σ Hb H fp W => by
  obtain ⟨v, ev, t, a, b, vs, us, rs, rfl, ef, n1, n2, n3, h1, h2, h3, r1, r2, r3⟩ := W.owns hi
  refine ⟨.ref t, b, ev, by rw [ef]; exact List.mem_cons_of_mem _ (List.mem_cons_of_mem _ List.mem_cons_self), fun Hb' H' s => ⟨us, s.same _ _ h3, r2.mono s.b, fun vs2 ys2 g => ⟨t, a, b, vs, vs2, rs, rfl, ef, n1, n2, n3, by rw [upd_ne n2]; exact s.same _ _ h1, by rw [upd_ne n3]; exact s.same _ _ h2, upd_same, r1.mono s.b, g, r3.mono s.b⟩⟩, fun Q q => ⟨_, ev, ht σ Hb H fp W _ fun w Hb2 H2 _ t2 ⟨_, e2, g2⟩ _ => ?_⟩⟩
  cases e2; cases g2
  exact .inr (.inl ⟨t, _, 1, .ref b, rfl, rfl, .of (t2.same _ _ h1), atI_nat (j := 1) rfl, q _ _ t2⟩)⟩
theorem vv_pair (hi : ρ[i]? = some (prs C.K xs ys rest)) : VEv C (tVar i) ρ (.tuple (.list xs :: .list ys :: rest)) := fun σ Hb H fp W Q q => by
  obtain ⟨v, ev, t, a, b, vs, us, rs, rfl, ef, n1, n2, n3, h1, h2, h3, r1, r2, r3⟩ := W.owns hi
  exact ⟨_, ev, q _ _ _ (Step.refl W.same) (.tup (.of h1) (.cons (.lst h2 (r1.mono W.same)) (.cons (.lst h3 (r2.mono W.same)) (r3.mono W.same))))⟩
/-- ([], []) -/
theorem ev_pairNew : PEv C (tTup (tCons (tLst tNil) (tCons (tLst tNil) tNil))) ρ (prs C.K [] [] []) := fun σ Hb H fp W Q q => by
  refine ⟨Nat.zero_le _, fun a ha => ⟨Nat.zero_le _, fun b hb => ⟨by show 2 ≤ sizeLine; exact sz (by decide), fun t ht => ?_⟩⟩⟩
  have s1 : Step [] Hb H Hb (upd H a (.lst [])) := Step.newO W.same ha
  have s2 : Step [] Hb (upd H a (.lst [])) Hb (upd (upd H a (.lst [])) b (.lst [])) := Step.newO s1.s hb
  have s3 : Step [] Hb (upd (upd H a (.lst [])) b (.lst [])) Hb (upd (upd (upd H a (.lst [])) b (.lst [])) t (.tup [.ref a, .ref b])) := Step.newO s2.s ht
  have nab : a ≠ b := fun e => by rw [e, upd_same] at hb; cases hb
  have ntb : t ≠ b := fun e => by rw [e, upd_same] at ht; cases ht
  rw [upd_ne ntb] at ht
  have nta : t ≠ a := fun e => by rw [e, upd_same] at ht; cases ht
  rw [upd_ne nta] at ht
  rw [upd_ne nab.symm] at hb
  have no : ∀ x, H x = none → Hb x = none := fun x hx => by
    cases e : Hb x with
    | none => rfl
    | some o => rw [W.same x o e] at hx; cases hx
  have ea : upd (upd (upd H a (.lst [])) b (.lst [])) t (.tup [.ref a, .ref b]) a = some (.lst []) := by rw [upd_ne nta.symm, upd_ne nab, upd_same]
  have eb : upd (upd (upd H a (.lst [])) b (.lst [])) t (.tup [.ref a, .ref b]) b = some (.lst []) := by rw [upd_ne ntb.symm, upd_same]
  refine q (.ref t) Hb _ [t, a, b] (s1.trans0 (s2.trans0 s3)) ⟨_, rfl, t, a, b, [], [], [], rfl, rfl, nta, ntb, nab, upd_same, ea, eb, .nil, .nil, .nil⟩ fun x hx => ?_
  rcases List.mem_cons.mp hx with e | hx
  · rw [e]; exact ⟨no t ht, by rw [upd_same]; exact fun z => (nomatch z), ht⟩
  · rcases List.mem_cons.mp hx with e | hx
    · rw [e]; exact ⟨no a ha, by rw [ea]; exact fun z => (nomatch z), ha⟩
    · rw [List.mem_singleton.mp hx]; exact ⟨no b hb, by rw [eb]; exact fun z => (nomatch z), hb⟩

/-! ### two lists, handed on in a tuple -/
structure LRef2 (C : Cc) (t0 t1 : TE) (ρ : List Sl) (i j : Nat) (xs ys : List D) : Prop where
  run : ∀ σ Hb H fp, EnvW C σ ρ Hb H fp → ∃ a b, a ≠ b ∧ a ∈ fp i ∧ b ∈ fp j ∧ (∀ Hb' H', Step [] Hb H Hb' H' → ∃ vs us, H' a = some (.lst vs) ∧ H' b = some (.lst us) ∧ RpAll C.K Hb' vs xs ∧ RpAll C.K Hb' us ys) ∧
    (∀ Q : VK, (∀ Hb' H', Step [] Hb H Hb' H' → Q (.ref a) H') → t0 σ H Q) ∧ ∀ Hb1 H1, Step [] Hb H Hb1 H1 → ∀ Q : VK, (∀ Hb' H', Step [] Hb1 H1 Hb' H' → Q (.ref b) H') → t1 σ H1 Q
theorem lr2_own (hi : ρ[i]? = some (own C.K xs)) (hj : ρ[j]? = some (own C.K ys)) (hn : i ≠ j := by decide) : LRef2 C (tVar i) (tVar j) ρ i j xs ys := ⟨fun σ Hb H fp W => by
  obtain ⟨v, ev, a, vs, rfl, ef, ha, hv⟩ := W.owns hi
  obtain ⟨v, ev2, b, us, rfl, ef2, hb, hu⟩ := W.owns hj
  have ma : a ∈ fp i := by rw [ef]; exact List.mem_singleton.mpr rfl
  have mb : b ∈ fp j := by rw [ef2]; exact List.mem_singleton.mpr rfl
  exact ⟨a, b, fun e => hn (W.dj i j a ma (e ▸ mb)), ma, mb, fun Hb' H' t => ⟨vs, us, t.same _ _ ha, t.same _ _ hb, hv.mono t.b, hu.mono t.b⟩, fun Q q => ⟨_, ev, q _ _ (Step.refl W.same)⟩, fun Hb1 H1 t Q q => ⟨_, ev2, q _ _ (Step.refl t.s)⟩⟩⟩
theorem lr2_pair {t0 t1 : TE} (hi : ρ[i]? = some (prs C.K xs ys rest)) (h0 : PD C t0 ρ (.int 0)) (h1 : PD C t1 ρ (.int 1)) : LRef2 C (tOp (rIx C.K) (tVar i) t0) (tOp (rIx C.K) (tVar i) t1) ρ i i xs ys := ⟨fun σ Hb H fp W => by
  obtain ⟨v, ev, t, a, b, vs, us, rs, rfl, ef, n1, n2, n3, g1, g2, g3, r1, r2, r3⟩ := W.owns hi
  refine ⟨a, b, n3, by rw [ef]; exact List.mem_cons_of_mem _ List.mem_cons_self, by rw [ef]; exact List.mem_cons_of_mem _ (List.mem_cons_of_mem _ List.mem_cons_self), fun Hb' H' s => ⟨vs, us, s.same _ _ g2, s.same _ _ g3, r1.mono s.b, r2.mono s.b⟩, fun Q q => ⟨_, ev, h0 σ Hb H fp W _ fun w Hb2 H2 _ t2 ⟨_, e2, k2⟩ _ => ?_⟩, fun Hb1 H1 s Q q => ⟨_, ev, h1 σ Hb1 H1 fp (W.step s) _ fun w Hb2 H2 _ t2 ⟨_, e2, k2⟩ _ => ?_⟩⟩
  · cases e2; cases k2
    exact .inr (.inl ⟨t, _, 0, .ref a, rfl, rfl, .of (t2.same _ _ g1), atI_nat (j := 0) rfl, q _ _ t2⟩)
  · cases e2; cases k2
    exact .inr (.inl ⟨t, _, 1, .ref b, rfl, rfl, .of (t2.same _ _ (s.same _ _ g1)), atI_nat (j := 1) rfl, q _ _ t2⟩)⟩
theorem ef_pair2 {t0 t1 : TE} (L : LRef2 C t0 t1 ρ i j xs ys) (hr : PEvA C tA ρ rest) (ps : Psl C.K xs ys rest s) (hl : rest.length ≤ 1000) (p : P s ((ρ.set i .no).set j .no)) (i0 : i ≠ 0 := by decide) (j0 : j ≠ 0 := by decide) : Ev C (tTup (tCons t0 (tCons t1 tA))) ρ P := fun σ Hb H fp W Q q => by
  obtain ⟨a, b, nab, ma, mb, h, k0, k1⟩ := L.run σ Hb H fp W
  refine k0 _ fun Hb1 H1 s1 => ?_
  refine k1 Hb1 H1 s1 _ fun Hb2 H2 s2 => ?_
  have s12 := s1.trans0 s2
  refine hr σ Hb2 H2 fp (W.step s12) _ fun rs Hb3 H3 s3 hrs => ?_
  have s := s12.trans0 s3
  have W3 := W.step s
  obtain ⟨vs, us, ha, hb, r1, r2⟩ := h Hb3 H3 s
  refine ⟨by show rs.length + 1 + 1 ≤ sizeLine; rw [hrs.length]; exact sz (by omega), fun t ht => ?_⟩
  obtain ⟨fa1, fa2, fa3⟩ := W3.fr i a ma
  obtain ⟨fb1, fb2, fb3⟩ := W3.fr j b mb
  have ca : C.H a = none := fa3.resolve_left fun z => i0 z.2
  have cb : C.H b = none := fb3.resolve_left fun z => j0 z.2
  have nta : t ≠ a := fun e => by rw [e] at ht; exact fa2 ht
  have ntb : t ≠ b := fun e => by rw [e] at ht; exact fb2 ht
  have W4 := (W3.dropAt i).dropAt j
  have na : ¬ In (fun k => if k = j then [] else (fun k => if k = i then [] else fp k) k) a := fun ⟨k, hk⟩ => by
    have hk : a ∈ (if k = j then [] else if k = i then [] else fp k) := hk
    by_cases e : k = j
    · rw [if_pos e] at hk; cases hk
    · rw [if_neg e] at hk
      by_cases e' : k = i
      · rw [if_pos e'] at hk; cases hk
      · rw [if_neg e'] at hk; exact e' (W.dj k i a hk ma)
  have nb : ¬ In (fun k => if k = j then [] else (fun k => if k = i then [] else fp k) k) b := fun ⟨k, hk⟩ => by
    have hk : b ∈ (if k = j then [] else if k = i then [] else fp k) := hk
    by_cases e : k = j
    · rw [if_pos e] at hk; cases hk
    · rw [if_neg e] at hk
      by_cases e' : k = i
      · rw [if_pos e'] at hk; cases hk
      · rw [if_neg e'] at hk; exact e (W.dj k j b hk mb)
  have sub : ∀ x, In (fun k => if k = j then [] else (fun k => if k = i then [] else fp k) k) x → In fp x := fun x hx => in_drop x (in_drop x hx)
  generalize hfp : (fun k => if k = j then [] else (fun k => if k = i then [] else fp k) k) = fp4 at W4 na nb sub
  have F0 : Fr (In fp) Hb H Hb3 H3 (In fp) := .of s
  have inf : ∀ x, x = a ∨ x = b → In fp x := fun x hx => hx.elim (fun e => ⟨i, e ▸ ma⟩) fun e => ⟨j, e ▸ mb⟩
  cases ps with
  | own =>
    have st : Step [] Hb3 H3 Hb3 (upd H3 t (.tup (.ref a :: .ref b :: rs))) := Step.newO s.s ht
    have W5 := W4.step st
    obtain ⟨c1, c2, c3⟩ := W4.old ht
    have e1 : upd H3 t (.tup (.ref a :: .ref b :: rs)) a = some (.lst vs) := by rw [upd_ne nta.symm]; exact ha
    have e2 : upd H3 t (.tup (.ref a :: .ref b :: rs)) b = some (.lst us) := by rw [upd_ne ntb.symm]; exact hb
    refine q (.ref t) _ _ Hb3 _ fp4 [t, a, b] ((F0.etrans (.of (F := In fp) st)).n_add ?_) ⟨W5, (show SlOk C.K _ _ (some (.ref t)) [t, a, b] (prs C.K xs ys rest) from ⟨_, rfl, t, a, b, vs, us, rs, rfl, rfl, nta, ntb, nab, upd_same, e1, e2, r1, r2, hrs⟩), fun x hx => ?_⟩ p
    · exact fun x hx => by
        rcases hx with hx | hx
        · rcases List.mem_cons.mp hx with e | hx
          · right
            rw [e]
            cases z : H t with
            | none => rfl
            | some o => rw [s.same _ _ z] at ht; cases ht
          · left
            rcases List.mem_cons.mp hx with e | hx
            · exact inf x (.inl e)
            · exact inf x (.inr (List.mem_singleton.mp hx))
        · exact .inl (sub x hx)
    · rcases List.mem_cons.mp hx with e | hx
      · rw [e]; exact ⟨c2, by rw [upd_same]; exact fun z => (nomatch z), c1, fun k hk => c3 ⟨k, hk⟩⟩
      · rcases List.mem_cons.mp hx with e | hx
        · rw [e]; exact ⟨fa1, by rw [e1]; exact fun z => (nomatch z), ca, fun k hk => na ⟨k, hk⟩⟩
        · rw [List.mem_singleton.mp hx]; exact ⟨fb1, by rw [e2]; exact fun z => (nomatch z), cb, fun k hk => nb ⟨k, hk⟩⟩
  | dat =>
    have W5 := W4.freeze fa1 na ca ha
    have fb1' : upd Hb3 a (.lst vs) b = none := by rw [upd_ne nab.symm]; exact fb1
    have W6 := W5.freeze fb1' nb cb hb
    have sb1 : Same Hb3 (upd Hb3 a (.lst vs)) := fun x u e => by rw [upd_ne (ne_of_none e fa1)]; exact e
    have sb2 : Same (upd Hb3 a (.lst vs)) (upd (upd Hb3 a (.lst vs)) b (.lst us)) := fun x u e => by rw [upd_ne (ne_of_none e fb1')]; exact e
    have sb := sb1.trans sb2
    have st : Step [] (upd (upd Hb3 a (.lst vs)) b (.lst us)) H3 (upd (upd (upd Hb3 a (.lst vs)) b (.lst us)) t (.tup (.ref a :: .ref b :: rs))) (upd H3 t (.tup (.ref a :: .ref b :: rs))) := Step.newF W6.same ht
    have fz : Fr (In fp) Hb H (upd (upd Hb3 a (.lst vs)) b (.lst us)) H3 (In fp) := F0.etrans ⟨sb, fun _ _ _ e => e, fun x hx e => by
      rw [upd_ne (fun z => hx (inf x (.inr z))), upd_ne (fun z => hx (inf x (.inl z)))], fun x hx => .inl hx⟩
    refine q (.ref t) _ _ _ _ fp4 [] ((fz.etrans (.of (F := In fp) st)).to fun x hx => hx.elim (fun z => nomatch z) (sub x)) ⟨W6.step st, (show SlOk C.K _ _ (some (.ref t)) [] (.d (.tuple (.list xs :: .list ys :: rest))) from ⟨_, rfl, ?_⟩), fun _ z => nomatch z⟩ p
    refine .tup (.of upd_same) (.cons (.lst (xs := vs) ?_ ?_) (.cons (.lst (xs := us) ?_ ?_) ?_))
    · rw [upd_ne nta.symm, upd_ne nab, upd_same]
    · exact (r1.mono sb).mono st.b
    · rw [upd_ne ntb.symm, upd_same]
    · exact (r2.mono sb).mono st.b
    · exact (hrs.mono sb).mono st.b
end
end DL
set_option Elab.async false
set_option linter.all false
set_option maxRecDepth 100000
set_option maxHeartbeats 4000000
/-! DQ: the bench. -/
namespace DL
open PySem PySem.Spec PyProof.Rows L2

/-! ### a bench: a memory's list, two lists of what is seen -/
structure BN where
  mem : List Nat
  s0 : List Nat
  s1 : List Nat
/-- what of the text the class must have -/
structure BenchOk (K : PySem.W.Frag) (A : Ad) : Prop where
  cl : Cls K A.aBench
  nm : NoAttr K A.aBench "memory"
  ns : NoAttr K A.aBench "seen"
def bF (m t : V) : List (Str × V) := [("memory", m), ("seen", t)]
theorem lk_here {k : Str} {v : V} {r : List (Str × V)} : List.lookup k ((k, v) :: r) = some v := by
  have e : (k == k) = true := beq_self_eq_true k
  simp only [List.lookup, e]
theorem lk_past {k g : Str} {v : V} {r : List (Str × V)} (h : (k == g) = false) : List.lookup k ((g, v) :: r) = List.lookup k r := by
  simp only [List.lookup, h]
theorem put_past {f g : Str} {v x : V} {r : List (Str × V)} (h : ¬ g = f) : putF f v ((g, x) :: r) = (g, x) :: putF f v r := if_neg h
theorem bF_mem (m t : V) : (bF m t).lookup ("memory" : Str) = some m := lk_here
theorem bF_seen (m t : V) : (bF m t).lookup ("seen" : Str) = some t := (lk_past (by decide +kernel)).trans lk_here
theorem bF_do (m t : V) : (bF m t).lookup ("do" : Str) = none := (lk_past (by decide +kernel)).trans ((lk_past (by decide +kernel)).trans rfl)
theorem bF_some (m t : V) : (bF m t).lookup ("do_some" : Str) = none := (lk_past (by decide +kernel)).trans ((lk_past (by decide +kernel)).trans rfl)
theorem bF_beat (m t : V) : (bF m t).lookup ("beat" : Str) = none := (lk_past (by decide +kernel)).trans ((lk_past (by decide +kernel)).trans rfl)
/-- the object o with its lists; what its lists hold is data -/
def Res.bench (K : PySem.W.Frag) (Cb o : Addr) (mem s0 s1 : List D) : Res where
  holds := fun Hb H v fp => ∃ dx m t a b ms vs us, v = .ref o ∧ fp = [o, m, t, a, b] ∧ [o, m, t, a, b].Nodup ∧ H o = some (.ins Cb dx (bF (.ref m) (.ref t))) ∧ H m = some (.lst ms) ∧ H t = some (.tup [.ref a, .ref b]) ∧ H a = some (.lst vs) ∧ H b = some (.lst us) ∧ RpAll K Hb ms mem ∧ RpAll K Hb vs s0 ∧ RpAll K Hb us s1
  mono := fun ⟨dx, m, t, a, b, ms, vs, us, e, ef, nd, h1, h2, h3, h4, h5, r1, r2, r3⟩ s k => ⟨dx, m, t, a, b, ms, vs, us, e, ef, nd,
    (k _ (by rw [ef]; simp)).trans h1, (k _ (by rw [ef]; simp)).trans h2, (k _ (by rw [ef]; simp)).trans h3, (k _ (by rw [ef]; simp)).trans h4, (k _ (by rw [ef]; simp)).trans h5, r1.mono s, r2.mono s, r3.mono s⟩
/-- .. new, without attributes -/
def Res.raw (Cb o : Addr) : Res where
  holds := fun Hb H v fp => ∃ dx, v = .ref o ∧ fp = [o] ∧ H o = some (.ins Cb dx [])
  mono := fun ⟨dx, e, ef, h1⟩ s k => ⟨dx, e, ef, (k _ (by rw [ef]; simp)).trans h1⟩
/-- .. with its memory alone -/
def Res.raw1 (K : PySem.W.Frag) (Cb o : Addr) (mem : List D) : Res where
  holds := fun Hb H v fp => ∃ dx m ms, v = .ref o ∧ fp = [o, m] ∧ o ≠ m ∧ H o = some (.ins Cb dx [("memory", .ref m)]) ∧ H m = some (.lst ms) ∧ RpAll K Hb ms mem
  mono := fun ⟨dx, m, ms, e, ef, n, h1, h2, r⟩ s k => ⟨dx, m, ms, e, ef, n, (k _ (by rw [ef]; simp)).trans h1, (k _ (by rw [ef]; simp)).trans h2, r.mono s⟩
def encN' (ns : List Nat) : List D := encN ns
def benchR (K : PySem.W.Frag) (A : Ad) (o : Addr) (b : BN) : Res := .bench K A.aBench o (encN b.mem) (encN b.s0) (encN b.s1)
def makeR (K : PySem.W.Frag) (A : Ad) (o : Addr) : Option BN → Res
  | none => .raw A.aBench o
  | some b => benchR K A o b
theorem bench_ref {K : PySem.W.Frag} {A : Ad} : ∀ (h : Addr) (b : BN) (Hb H : Hp) (v : V) (fp : List Addr), (benchR K A h b).holds Hb H v fp → v = .ref h := fun h b Hb H v fp ⟨_, _, _, _, _, _, _, _, e, _⟩ => e
theorem make_ref {K : PySem.W.Frag} {A : Ad} : ∀ (h : Addr) (b : Option BN) (Hb H : Hp) (v : V) (fp : List Addr), (makeR K A h b).holds Hb H v fp → v = .ref h
  | h, none, Hb, H, v, fp, ⟨_, e, _⟩ => e
  | h, some b, Hb, H, v, fp, z => bench_ref h b Hb H v fp z
theorem nodup5 {o m t a b : Addr} (h : [o, m, t, a, b].Nodup) : o ≠ m ∧ o ≠ t ∧ o ≠ a ∧ o ≠ b ∧ m ≠ t ∧ m ≠ a ∧ m ≠ b ∧ t ≠ a ∧ t ≠ b ∧ a ≠ b := by
  simp only [List.nodup_cons, List.mem_cons, List.not_mem_nil, not_or] at h
  obtain ⟨⟨h1, h2, h3, h4, _⟩, ⟨h5, h6, h7, _⟩, ⟨h8, h9, _⟩, ⟨h10, _⟩, _⟩ := h
  exact ⟨h1, h2, h3, h4, h5, h6, h7, h8, h9, h10⟩
section
variable {C : Cc} {A : Ad} {ρ : List Sl} {te to ti tv : TE} {tA : TA} {i : Nat} {o Cb : Addr} {mem s0 s1 rest : List D} {x : D} {s : Sl} {P : Sl → List Sl → Prop} {Po : Po}
/-! paths -/
theorem lr_mem (B : BenchOk C.K A) (hi : ρ[i]? = some (.ow (.bench C.K A.aBench o mem s0 s1))) : LRef C (tFld C.K (tVar i) "memory") ρ i mem (fun z => .bench C.K A.aBench o z s0 s1) := ⟨fun σ Hb H fp W => by
  obtain ⟨v, ev, dx, m, t, a, b, ms, vs, us, rfl, ef, nd, h1, h2, h3, h4, h5, r1, r2, r3⟩ := W.owns hi
  obtain ⟨n1, n2, n3, n4, n5, n6, n7, n8, n9, n10⟩ := nodup5 nd
  refine ⟨.ref o, m, ev, by rw [ef]; simp, fun Hb' H' k => ⟨ms, k.same _ _ h2, r1.mono k.b, fun vs2 ys g => ⟨dx, m, t, a, b, vs2, vs, us, rfl, ef, nd, by rw [upd_ne n1]; exact k.same _ _ h1, upd_same, by rw [upd_ne n5.symm]; exact k.same _ _ h3, by rw [upd_ne n6.symm]; exact k.same _ _ h4, by rw [upd_ne n7.symm]; exact k.same _ _ h5, g, r2.mono k.b, r3.mono k.b⟩⟩, fun Q q => ⟨_, ev, o, _, dx, _, _, rfl, h1, B.cl, B.nm, bF_mem _ _, q _ _ (Step.refl W.same)⟩⟩⟩
theorem lr_seen0 (B : BenchOk C.K A) (hi : ρ[i]? = some (.ow (.bench C.K A.aBench o mem s0 s1))) (ht : PD C ti ρ (.int 0)) : LRef C (tOp (rIx C.K) (tFld C.K (tVar i) "seen") ti) ρ i s0 (fun z => .bench C.K A.aBench o mem z s1) := ⟨fun σ Hb H fp W => by
  obtain ⟨v, ev, dx, m, t, a, b, ms, vs, us, rfl, ef, nd, h1, h2, h3, h4, h5, r1, r2, r3⟩ := W.owns hi
  obtain ⟨n1, n2, n3, n4, n5, n6, n7, n8, n9, n10⟩ := nodup5 nd
  refine ⟨.ref o, a, ev, by rw [ef]; simp, fun Hb' H' k => ⟨vs, k.same _ _ h4, r2.mono k.b, fun vs2 ys g => ⟨dx, m, t, a, b, ms, vs2, us, rfl, ef, nd, by rw [upd_ne n3]; exact k.same _ _ h1, by rw [upd_ne n6]; exact k.same _ _ h2, by rw [upd_ne n8]; exact k.same _ _ h3, upd_same, by rw [upd_ne n10.symm]; exact k.same _ _ h5, r1.mono k.b, g, r3.mono k.b⟩⟩, fun Q q => ⟨_, ev, o, _, dx, _, _, rfl, h1, B.cl, B.ns, bF_seen _ _, ht σ Hb H fp W _ fun w Hb2 H2 _ t2 ⟨_, e2, g2⟩ _ => ?_⟩⟩
  cases e2; cases g2
  exact .inr (.inl ⟨t, _, 0, .ref a, rfl, rfl, .of (t2.same _ _ h3), atI_nat (j := 0) rfl, q _ _ t2⟩)⟩
theorem lr_seen1 (B : BenchOk C.K A) (hi : ρ[i]? = some (.ow (.bench C.K A.aBench o mem s0 s1))) (ht : PD C ti ρ (.int 1)) : LRef C (tOp (rIx C.K) (tFld C.K (tVar i) "seen") ti) ρ i s1 (fun z => .bench C.K A.aBench o mem s0 z) := ⟨fun σ Hb H fp W => by
  obtain ⟨v, ev, dx, m, t, a, b, ms, vs, us, rfl, ef, nd, h1, h2, h3, h4, h5, r1, r2, r3⟩ := W.owns hi
  obtain ⟨n1, n2, n3, n4, n5, n6, n7, n8, n9, n10⟩ := nodup5 nd
  refine ⟨.ref o, b, ev, by rw [ef]; simp, fun Hb' H' k => ⟨us, k.same _ _ h5, r3.mono k.b, fun vs2 ys g => ⟨dx, m, t, a, b, ms, vs, vs2, rfl, ef, nd, by rw [upd_ne n4]; exact k.same _ _ h1, by rw [upd_ne n7]; exact k.same _ _ h2, by rw [upd_ne n9]; exact k.same _ _ h3, by rw [upd_ne n10]; exact k.same _ _ h4, upd_same, r1.mono k.b, r2.mono k.b, g⟩⟩, fun Q q => ⟨_, ev, o, _, dx, _, _, rfl, h1, B.cl, B.ns, bF_seen _ _, ht σ Hb H fp W _ fun w Hb2 H2 _ t2 ⟨_, e2, g2⟩ _ => ?_⟩⟩
  cases e2; cases g2
  exact .inr (.inl ⟨t, _, 1, .ref b, rfl, rfl, .of (t2.same _ _ h3), atI_nat (j := 1) rfl, q _ _ t2⟩)⟩
theorem lr2_bench {t0 t1 : TE} (B : BenchOk C.K A) (hi : ρ[i]? = some (.ow (.bench C.K A.aBench o mem s0 s1))) (g0 : PD C t0 ρ (.int 0)) (g1 : PD C t1 ρ (.int 1)) :
    LRef2 C (tOp (rIx C.K) (tFld C.K (tVar i) "seen") t0) (tOp (rIx C.K) (tFld C.K (tVar i) "seen") t1) ρ i i s0 s1 := ⟨fun σ Hb H fp W => by
  obtain ⟨v, ev, dx, m, t, a, b, ms, vs, us, rfl, ef, nd, h1, h2, h3, h4, h5, r1, r2, r3⟩ := W.owns hi
  obtain ⟨n1, n2, n3, n4, n5, n6, n7, n8, n9, n10⟩ := nodup5 nd
  refine ⟨a, b, n10, by rw [ef]; simp, by rw [ef]; simp, fun Hb' H' s => ⟨vs, us, s.same _ _ h4, s.same _ _ h5, r2.mono s.b, r3.mono s.b⟩, fun Q q => ⟨_, ev, o, _, dx, _, _, rfl, h1, B.cl, B.ns, bF_seen _ _, g0 σ Hb H fp W _ fun w Hb2 H2 _ t2 ⟨_, e2, k2⟩ _ => ?_⟩, fun Hb1 H1 s Q q => ⟨_, ev, o, _, dx, _, _, rfl, s.same _ _ h1, B.cl, B.ns, bF_seen _ _, g1 σ Hb1 H1 fp (W.step s) _ fun w Hb2 H2 _ t2 ⟨_, e2, k2⟩ _ => ?_⟩⟩
  · cases e2; cases k2
    exact .inr (.inl ⟨t, _, 0, .ref a, rfl, rfl, .of (t2.same _ _ h3), atI_nat (j := 0) rfl, q _ _ t2⟩)
  · cases e2; cases k2
    exact .inr (.inl ⟨t, _, 1, .ref b, rfl, rfl, .of (t2.same _ _ (s.same _ _ h3)), atI_nat (j := 1) rfl, q _ _ t2⟩)⟩
/-! its making -/
theorem ex_init1 (B : BenchOk C.K A) (hi : ρ[i]? = some (.ow (.raw A.aBench o))) (hv : PEv C tv ρ (own C.K mem)) (p : Po.nx (ρ.set i (.ow (.raw1 C.K A.aBench o mem)))) : Ex C (sFld C.K (tVar i) tv "memory") ρ Po := fun σ Hb H fp E W q =>
  hv σ Hb H fp W _ fun w Hb1 H1 fv t1 ⟨_, e1, m, ms, em, ef1, hm, hr⟩ hf => by
    cases e1; subst em; subst ef1
    have W1 := W.step t1
    obtain ⟨v, ev, dx, rfl, ef, h1⟩ := W1.owns hi
    obtain ⟨m1, m2, m3⟩ := hf m (List.mem_singleton.mpr rfl)
    have mo : o ∈ fp i := by rw [ef]; exact List.mem_singleton.mpr rfl
    obtain ⟨f1, f2, f3⟩ := W1.fr i o mo
    have nom : o ≠ m := fun e => (W.fr i o mo).2.1 (by rw [e]; exact m3)
    refine ⟨_, ev, o, _, dx, [], rfl, h1, B.cl, B.nm, Nat.zero_lt_succ _, ?_⟩
    have t : Step (fp i) Hb1 H1 Hb1 (upd H1 o (.ins A.aBench dx (putF "memory" (.ref m) []))) := Step.wr W1.same f1 mo
    have t2 : Step (fp i) Hb H Hb1 (upd H1 o (.ins A.aBench dx (putF "memory" (.ref m) []))) := (Step.trans (M := fp i) ⟨t1.b, t1.s, fun a u _ e => t1.same a u e, t1.f, t1.t⟩ t fun _ h => .inl h)
    have W2 := W.write (s := .ow (.raw1 C.K A.aBench o mem)) (fpi := [o, m]) t2 (fun b hb => hb) (List.getElem?_eq_some_iff.mp ev).1 (fun v' e' => by
      rw [ev] at e'; cases e'
      exact ⟨_, rfl, dx, m, ms, rfl, rfl, nom, upd_same, by rw [upd_ne nom.symm]; exact hm, hr⟩) fun b hb => by
        rcases List.mem_cons.mp hb with e | hb
        · rw [e]; exact .inl mo
        · rw [List.mem_singleton.mp hb]
          exact .inr ⟨m3, m1, by rw [upd_ne nom.symm]; exact m2⟩
    refine q.nx σ _ Hb1 _ _ ⟨t2.b, fun a u hx e => t2.k a u (fun z => hx ⟨i, z⟩) e, fun a _ e => t2.f a e, fun a ⟨j, hj⟩ => ?_⟩ W2 p
    have hj : a ∈ (if j = i then [o, m] else fp j) := hj
    by_cases e : j = i
    · rw [if_pos e] at hj
      rcases List.mem_cons.mp hj with e | hj
      · rw [e]; exact .inl ⟨i, mo⟩
      · rw [List.mem_singleton.mp hj]; exact .inr m3
    · rw [if_neg e] at hj; exact .inl ⟨j, hj⟩
theorem ex_init2 (B : BenchOk C.K A) (hi : ρ[i]? = some (.ow (.raw1 C.K A.aBench o mem))) (hv : PEv C tv ρ (prs C.K s0 s1 [])) (p : Po.nx (ρ.set i (.ow (.bench C.K A.aBench o mem s0 s1)))) : Ex C (sFld C.K (tVar i) tv "seen") ρ Po := fun σ Hb H fp E W q =>
  hv σ Hb H fp W _ fun w Hb1 H1 fv t1 ⟨_, e1, t, a, b, vs, us, rs, em, ef1, nta, ntb, nab, ht, ha, hb, r1, r2, r3⟩ hf => by
    cases e1; subst em; subst ef1
    cases r3
    have W1 := W.step t1
    obtain ⟨v, ev, dx, m, ms, rfl, ef, nom, h1, h2, hr⟩ := W1.owns hi
    obtain ⟨x1, x2, x3⟩ := hf t (by simp)
    obtain ⟨y1, y2, y3⟩ := hf a (by simp)
    obtain ⟨z1, z2, z3⟩ := hf b (by simp)
    have mo : o ∈ fp i := by rw [ef]; simp
    have mm : m ∈ fp i := by rw [ef]; simp
    obtain ⟨f1, f2, f3⟩ := W1.fr i o mo
    have old : ∀ c, c ∈ fp i → ∀ d, H d = none → c ≠ d := fun c hc d hd e => (W.fr i c hc).2.1 (by rw [e]; exact hd)
    refine ⟨_, ev, o, _, dx, _, rfl, h1, B.cl, B.ns, by show 1 < 1000; decide, ?_⟩
    have ep : putF "seen" (.ref t) [(("memory" : Str), V.ref m)] = bF (.ref m) (.ref t) := (put_past (by decide +kernel)).trans rfl
    rw [ep]
    have t3 : Step (fp i) Hb1 H1 Hb1 (upd H1 o (.ins A.aBench dx (bF (.ref m) (.ref t)))) := Step.wr W1.same f1 mo
    have t2 : Step (fp i) Hb H Hb1 (upd H1 o (.ins A.aBench dx (bF (.ref m) (.ref t)))) := (Step.trans (M := fp i) ⟨t1.b, t1.s, fun a u _ e => t1.same a u e, t1.f, t1.t⟩ t3 fun _ h => .inl h)
    have nd : [o, m, t, a, b].Nodup := by
      simp only [List.nodup_cons, List.mem_cons, List.not_mem_nil, not_or]
      exact ⟨⟨nom, old o mo t x3, old o mo a y3, old o mo b z3, fun z => z⟩, ⟨old m mm t x3, old m mm a y3, old m mm b z3, fun z => z⟩, ⟨nta, ntb, fun z => z⟩, ⟨nab, fun z => z⟩, fun z => z, List.nodup_nil⟩
    have W2 := W.write (s := .ow (.bench C.K A.aBench o mem s0 s1)) (fpi := [o, m, t, a, b]) t2 (fun b hb => hb) (List.getElem?_eq_some_iff.mp ev).1 (fun v' e' => by
      rw [ev] at e'; cases e'
      exact ⟨_, rfl, dx, m, t, a, b, ms, vs, us, rfl, rfl, nd, upd_same, by rw [upd_ne nom.symm]; exact h2, by rw [upd_ne (old o mo t x3).symm]; exact ht, by rw [upd_ne (old o mo a y3).symm]; exact ha, by rw [upd_ne (old o mo b z3).symm]; exact hb, hr, r1, r2⟩) fun c hc => by
        simp only [List.mem_cons, List.not_mem_nil, or_false] at hc
        rcases hc with e | e | e | e | e
        · rw [e]; exact .inl mo
        · rw [e]; exact .inl mm
        · rw [e]; exact .inr ⟨x3, x1, by rw [upd_ne (old o mo t x3).symm]; exact x2⟩
        · rw [e]; exact .inr ⟨y3, y1, by rw [upd_ne (old o mo a y3).symm]; exact y2⟩
        · rw [e]; exact .inr ⟨z3, z1, by rw [upd_ne (old o mo b z3).symm]; exact z2⟩
    refine q.nx σ _ Hb1 _ _ ⟨t2.b, fun a u hx e => t2.k a u (fun z => hx ⟨i, z⟩) e, fun a _ e => t2.f a e, fun c ⟨j, hj⟩ => ?_⟩ W2 p
    have hj : c ∈ (if j = i then [o, m, t, a, b] else fp j) := hj
    by_cases e : j = i
    · rw [if_pos e] at hj
      simp only [List.mem_cons, List.not_mem_nil, or_false] at hj
      rcases hj with e | e | e | e | e
      · rw [e]; exact .inl ⟨i, mo⟩
      · rw [e]; exact .inl ⟨i, mm⟩
      · rw [e]; exact .inr x3
      · rw [e]; exact .inr y3
      · rw [e]; exact .inr z3
    · rw [if_neg e] at hj; exact .inl ⟨j, hj⟩
/-- a promise whose end the caller may choose of those it keeps -/
def relSp {β : Type} (K : PySem.W.Frag) (R : Addr → β → Res) (rel : β → List D → (β → D → Prop) → Prop) : Sp := fun vs H Q E => ∃ S : β → D → Prop, effSp K R (fun b ds => rel b ds S) (fun _ _ b' d => S b' d) vs H Q E
theorem fnok_ex {α : Type} {P : Program} {w : World} {K : PySem.W.Frag} {mg : Str → Option Value} {base : Heap} {CX : CXT} {k : Nat} {f : Addr} {fd : FuncData} {ps : List Str} {sp : α → Sp} (h : ∀ a, FnOk P w K mg base CX k f fd ps (sp a)) : FnOk P w K mg base CX k f fd ps (fun vs H Q E => ∃ a, sp a vs H Q E) :=
  ⟨fun vs H Q E ⟨a, z⟩ => (h a).len vs H Q E z, fun A outer s H args us vs Q E hr he hb hv ⟨a, z⟩ => (h a).run A outer s H args us vs Q E hr he hb hv z⟩
theorem fn_rel {β : Type} {R : Addr → β → Res} {x qual : Str} {st : Stmt} {f : Addr} {fd : FuncData} {N ps : List Str} {k : Nat} {rel : β → List D → (β → D → Prop) → Prop} {P : Program} {w : World} {K : PySem.W.Frag} {mg : Str → Option Value} {base : Heap} (F : Fun K x qual st f fd) (Sc : FnScope N ps (defScope st)) (hlen : ∀ b ds S, rel b ds S → ds.length + 1 = ps.length) (t : TS)
    (term : ∀ (cdv : Value) (A : Around) (outer : List Env) (s : Shared) (H : Hp) (E : XK), Room k (A.deeper (envOfC qual (defScope st) s.heap.objs.size f cdv)) → PSs (cxOf CX0 P w K mg base N qual (defScope st) f cdv A outer s H E).nox (defBody st) t)
    (hR : ∀ h b Hb H v fp, (R h b).holds Hb H v fp → v = .ref h)
    (read : ∀ (C : Cc) h b ds S, C.K = K → rel b ds S → Ex C t (.ow (R h b) :: (ds.map .d ++ List.replicate (N.length - (ds.length + 1)) .no))
      { nx := fun ρ' => ∃ b', S b' .none ∧ ρ'[0]? = some (.ow (R h b')), rt := fun s ρ' => ∃ d b', s = .d d ∧ S b' d ∧ ρ'[0]? = some (.ow (R h b')) }) : FnOk P w K mg base CX0 (k + 1) f fd ps (relSp K R rel) :=
  fnok_ex fun S => fn_eff F Sc (fun b ds h => hlen b ds S h) t term hR fun C h b ds e p => read C h b ds S e p
/-- C(..) -/
theorem ef_make {β : Type} {R : Addr → Option β → Res} {rel : Option β → List D → (Option β → D → Prop) → Prop} (hR : ∀ h b Hb H v fp, (R h b).holds Hb H v fp → v = .ref h) (h0 : ∀ o dx Hb H, H o = some (.ins Cb dx []) → (R o none).holds Hb H (.ref o) [o])
    (ha : EvA C tA ρ fun ds ρ1 => ∃ S, rel none ds S ∧ ∀ o b' d, S b' d → d = .none ∧ P (.ow (R o b')) ρ1) : Ev C (tMake Cb (relSp C.K R rel) [] E0 tA) ρ P := fun σ Hb H fp W Q q =>
  ha σ Hb H fp W _ fun vs ds ρ1 Hb1 H1 fp1 sm W1 hvs ⟨S, p1, k⟩ o dx no nd ndo => by
    have t1 : Step [] Hb1 H1 Hb1 (upd H1 dx (.own o)) := Step.newO W1.same nd
    have no' : upd H1 dx (.own o) o = none := by rw [upd_ne ndo.symm]; exact no
    have t2 : Step [] Hb1 (upd H1 dx (.own o)) Hb1 (upd (upd H1 dx (.own o)) o (.ins Cb dx [])) := Step.newO t1.s no'
    have t12 := t1.trans0 t2
    have W2 := W1.step t12
    obtain ⟨c1, c2, c3⟩ := (W1.step t1).old no'
    refine ⟨S, Hb1, o, vs, [o], none, ds, by rw [List.append_nil], t12.s, h0 o dx _ _ upd_same, fun a ha => by rw [List.mem_singleton.mp ha]; exact ⟨c2, by rw [upd_same]; exact fun z => nomatch z⟩, hvs, p1, fun w d b' Hb' H' fp' hp t ho hf hw => ?_⟩
    obtain ⟨ed, hP⟩ := k o b' d hp
    subst ed
    cases hw
    refine ⟨rfl, ?_⟩
    have t3 : Step [] Hb1 H1 Hb' H' := Step.trans t12 t fun x hx => .inr (by rw [List.mem_singleton.mp hx]; exact no)
    have fr0 : ∀ a ∈ fp', H1 a = none ∧ Hb' a = none ∧ H' a ≠ none := fun a ha => by
      have hh := hf a ha
      rcases hh with z | ⟨z1, z2, z3⟩
      · rw [List.mem_singleton.mp z]
        refine ⟨no, ?_, ?_⟩
        · rw [t.f o (by rw [upd_same]; exact fun z => nomatch z)]; exact c2
        · exact t.t o (by rw [upd_same]; exact fun z => nomatch z)
      · refine ⟨?_, z2, z3⟩
        cases e : H1 a with
        | none => rfl
        | some u => rw [t12.same _ _ e] at z1; cases z1
    exact q (.ref o) (.ow (R o b')) ρ1 Hb' H' fp1 fp' ((sm.etrans (.of (F := In fp1) t3)).n_add fun x hx => by
        rcases hx with hx | hx
        · cases e : H x with
          | none => exact .inr rfl
          | some u =>
            by_cases hF : In fp x
            · exact .inl hF
            · have := (fr0 x hx).1
              rw [sm.k x u hF e] at this; cases this
        · exact sm.n x hx)
      (Got.of' W1 t3 (show SlOk C.K Hb' H' (some (.ref o)) fp' (.ow (R o b')) from ⟨_, rfl, ho⟩) fr0) hP
/-- o.m(..), o at slot i -/
theorem ef_meth {β : Type} {R : Addr → β → Res} {rel : β → List D → (β → D → Prop) → Prop} {h : Addr} {b : β} {m : Str} (hi : ρ[i]? = some (.ow (R h b))) (hR : ∀ h b Hb H v fp, (R h b).holds Hb H v fp → v = .ref h) (hm : ∀ b Hb H v fp, (R h b).holds Hb H v fp → ∃ dx fs, H h = some (.ins Cb dx fs) ∧ fs.lookup m = none)
    (ha : EvA C tA ρ fun ds ρ1 => ∃ S b1, ρ1[i]? = some (.ow (R h b1)) ∧ rel b1 ds S ∧ ∀ d b', S b' d → P (.d d) (ρ1.set i (.ow (R h b')))) : Ev C (tMeth Cb m (relSp C.K R rel) [] E0 (tVar i) tA) ρ P := fun σ Hb H fp W Q q => by
  obtain ⟨v, ev, hv⟩ := W.owns hi
  obtain rfl := hR _ _ _ _ _ _ hv
  obtain ⟨dx, fs, e1, e2⟩ := hm _ _ _ _ _ hv
  refine ⟨_, ev, h, dx, fs, rfl, e1, e2, ha σ Hb H fp W _ fun vs ds ρ1 Hb1 H1 fp1 sm W1 hvs ⟨S, b1, h1, p1, k⟩ => ?_⟩
  obtain ⟨v1, ev1, hv1⟩ := W1.owns h1
  rw [ev] at ev1; cases ev1
  refine ⟨S, Hb1, h, vs, fp1 i, b1, ds, by rw [List.append_nil], W1.same, hv1, fun a ha => ⟨(W1.fr i a ha).1, (W1.fr i a ha).2.1⟩, hvs, p1, fun w d b' Hb' H' fp' hp t ho hf hw => ?_⟩
  have hil : i < σ.length := (List.getElem?_eq_some_iff.mp ev).1
  have W2 : EnvW C σ (ρ1.set i (.ow (R h b'))) Hb' H' (fun j => if j = i then fp' else fp1 j) := W1.write t (fun a ha => ha) hil (fun v' e' => by
    rw [ev] at e'; cases e'
    exact ⟨_, rfl, ho⟩) hf
  refine q w (.d d) _ Hb' H' _ [] ?_ ⟨W2, ⟨_, rfl, hw⟩, fun _ z => nomatch z⟩ (k d b' hp)
  have fr2 : Fr (In fp1) Hb1 H1 Hb' H' (In fun j => if j = i then fp' else fp1 j) := ⟨t.b, fun a o hn e => t.k a o (fun z => hn ⟨i, z⟩) e, fun a _ e => t.f a e, fun a ⟨j, hj⟩ => by
    have hj : a ∈ (if j = i then fp' else fp1 j) := hj
    by_cases e : j = i
    · rw [if_pos e] at hj
      rcases hf a hj with z | z
      · exact .inl ⟨i, z⟩
      · exact .inr z.1
    · rw [if_neg e] at hj; exact .inl ⟨j, hj⟩⟩
  exact (sm.etrans fr2).to fun a z => z.elim (fun z => nomatch z) id
end
end DL
set_option Elab.async false
set_option linter.all false
set_option maxRecDepth 100000
set_option maxHeartbeats 4000000
/-! DR: what the bench's methods do; need_memory, run_by, run. -/
namespace DL
open PySem PySem.Spec L2

/-! ### more words -/
section
variable {C : Cc} {ρ : List Sl} {te : TE} {tA : TA} {xs ds : List D} {P : Sl → List Sl → Prop} {Po : Po}
theorem ex_par3 {i j l : Nat} (h : EvA C tA ρ fun xs ρ1 => ∃ x y z, xs = [x, y, z] ∧ Po.nx (((ρ1.set i (.d x)).set j (.d y)).set l (.d z))) : Ex C (tPar3 i j l tA) ρ Po := fun σ Hb H fp E W q =>
  h σ Hb H fp W _ fun vs xs ρ1 Hb1 H1 fp1 sm W1 hv ⟨x, y, z, e, p⟩ => by
    subst e
    cases hv with
    | cons h1 h2 =>
      cases h2 with
      | cons h2 h3 =>
        cases h3 with
        | cons h3 h4 =>
          cases h4
          exact ⟨_, _, _, rfl, q.nx _ _ Hb1 H1 _ (sm.to fun a ha => in_sto a (in_sto a (in_sto a ha))) (((W1.sto h1 i).sto h2 j).sto h3 l) p⟩
theorem ev_rev (h : PD C te ρ (.list ds)) : PD C (tRevL C.K te) ρ (.list ds.reverse) := fun σ Hb H fp W Q q => h σ Hb H fp W _ fun v Hb1 H1 _ t1 ⟨_, e1, h1⟩ _ => by
  cases e1
  cases h1 with
  | @lst a vs _ hs ha => exact ⟨a, vs, rfl, .of (t1.s _ _ hs), fun p hp => dat_new (q.after t1) t1.s hp ha.reverse⟩
abbrev pairSp (K : PySem.W.Frag) (f : List D → List D → List D → List D → Prop) : Sp := pureSp K fun ds S => ∃ xs ys rest s, f ds xs ys rest ∧ Psl K xs ys rest s ∧ S = fun s' => s' = s
theorem ev_prs {f : List D → List D → List D → List D → Prop} {as xs ys rest : List D} {s : Sl} (ha : PEvA C tA ρ as) (h : f as xs ys rest) (l : Psl C.K xs ys rest s) : PEv C (tUser (pairSp C.K f) tA) ρ s := ev_user ha ⟨xs, ys, rest, s, h, l, rfl⟩ fun _ e => e
end

/-! ### what the methods do -/
inductive Rule where
  | old | new | left | right | wait
  deriving DecidableEq
abbrev wOld : Str := "old"
abbrev wNew : Str := "new"
abbrev wLeft : Str := "left"
abbrev wRight : Str := "right"
abbrev wWait : Str := "wait"
def Rule.word : Rule → Str
  | .old => wOld
  | .new => wNew
  | .left => wLeft
  | .right => wRight
  | .wait => wWait
theorem Rule.word_ok (u : Rule) : PyData.strOk u.word = true := by cases u <;> decide +kernel
theorem ok_old : PyData.strOk wOld = true := by decide +kernel
theorem ok_new : PyData.strOk wNew = true := by decide +kernel
theorem ok_left : PyData.strOk wLeft = true := by decide +kernel
theorem ok_right : PyData.strOk wRight = true := by decide +kernel
theorem ok_wait : PyData.strOk wWait = true := by decide +kernel
theorem Rule.is_old (u : Rule) : (u.word == wOld) = decide (u = .old) := by cases u <;> decide +kernel
theorem Rule.is_new (u : Rule) : (u.word == wNew) = decide (u = .new) := by cases u <;> decide +kernel
theorem Rule.is_left (u : Rule) : (u.word == wLeft) = decide (u = .left) := by cases u <;> decide +kernel
theorem Rule.is_right (u : Rule) : (u.word == wRight) = decide (u = .right) := by cases u <;> decide +kernel
theorem Rule.is_wait (u : Rule) : (u.word == wWait) = decide (u = .wait) := by cases u <;> decide +kernel
namespace BN
def see (b : BN) (door v : Nat) : BN := if door = 0 then { b with s0 := b.s0 ++ [v] } else { b with s1 := b.s1 ++ [v] }
def act (b : BN) (door : Nat) : Deed → BN
  | .rest => b
  | .read c => b.see door (b.mem.getD c 0)
  | .write c w => { b with mem := b.mem.set c w }
def actIf (b : BN) (w : Str) (q : Nat × Deed) : BN := if (q.2.word == w) = true then b.act q.1 q.2 else b
def acts (b : BN) (w : Str) (ps : List (Nat × Deed)) : BN := ps.foldl (fun b q => b.actIf w q) b
def beat (b : BN) (u : Rule) (one other : Deed) : BN := match u with
  | .old => (b.acts wRead [(0, one), (1, other)]).acts wWrite [(1, other), (0, one)]
  | .new => (b.acts wWrite [(1, other), (0, one)]).acts wRead [(0, one), (1, other)]
  | .right => (b.act 1 other).act 0 one
  | _ => (b.act 0 one).act 1 other
/-- bounds: how long the lists of what is seen are -/
def Low (n : Nat) (b : BN) : Prop := b.s0.length ≤ n ∧ b.s1.length ≤ n
theorem see_mem (b : BN) (door v : Nat) : (b.see door v).mem = b.mem := by unfold see; split <;> rfl
theorem act_mem (b : BN) (door : Nat) : ∀ d : Deed, (b.act door d).mem.length = b.mem.length
  | .rest => rfl
  | .read c => by show (b.see door _).mem.length = _; rw [see_mem]
  | .write c w => List.length_set
theorem see_low {n : Nat} {b : BN} (h : b.Low n) (door v : Nat) : (b.see door v).Low (n + 1) := by
  unfold Low at *
  unfold see
  split
  · simp only [List.length_append, List.length_singleton]; omega
  · simp only [List.length_append, List.length_singleton]; omega
theorem act_low {n : Nat} {b : BN} (h : b.Low n) (door : Nat) : ∀ d : Deed, (b.act door d).Low (n + 1)
  | .rest => ⟨Nat.le_trans h.1 (Nat.le_succ n), Nat.le_trans h.2 (Nat.le_succ n)⟩
  | .read c => see_low h _ _
  | .write c w => ⟨Nat.le_trans h.1 (Nat.le_succ n), Nat.le_trans h.2 (Nat.le_succ n)⟩
theorem Low.up {m n : Nat} {b : BN} (h : b.Low m) (hm : m ≤ n) : b.Low n := ⟨Nat.le_trans h.1 hm, Nat.le_trans h.2 hm⟩
theorem actIf_mem (b : BN) (w : Str) (q : Nat × Deed) : (b.actIf w q).mem.length = b.mem.length := by
  unfold actIf; split
  · exact act_mem _ _ _
  · rfl
theorem actIf_low {n : Nat} {b : BN} (h : b.Low n) (w : Str) (q : Nat × Deed) : (b.actIf w q).Low (n + 1) := by
  unfold actIf; split
  · exact act_low h _ _
  · exact h.up (Nat.le_succ n)
theorem acts_mem (w : Str) : ∀ (ps : List (Nat × Deed)) (b : BN), (b.acts w ps).mem.length = b.mem.length
  | [], b => rfl
  | q :: ps, b => by
    show ((b.actIf w q).acts w ps).mem.length = _
    rw [acts_mem w ps, actIf_mem]
theorem acts_low (w : Str) : ∀ (ps : List (Nat × Deed)) {n : Nat} {b : BN}, b.Low n → (b.acts w ps).Low (n + ps.length)
  | [], n, b, h => h
  | q :: ps, n, b, h => by
    have := acts_low w ps (actIf_low h w q)
    rw [List.length_cons]
    exact this.up (by omega)
theorem beat_mem (b : BN) (u : Rule) (one other : Deed) : (b.beat u one other).mem.length = b.mem.length := by
  cases u <;> simp only [beat, acts_mem, act_mem]
theorem beat_low {n : Nat} {b : BN} (h : b.Low n) (u : Rule) (one other : Deed) : (b.beat u one other).Low (n + 4) := by
  cases u with
  | old => exact acts_low _ _ (acts_low _ _ h)
  | new => exact acts_low _ _ (acts_low _ _ h)
  | left => exact (act_low (act_low h 0 one) 1 other).up (by omega)
  | right => exact (act_low (act_low h 1 other) 0 one).up (by omega)
  | wait => exact (act_low (act_low h 0 one) 1 other).up (by omega)
end BN
theorem encN_at {ns : List Nat} {c : Nat} (h : c < ns.length) : atI (encN ns) (c : Nat) = some (.int ((ns.getD c 0 : Nat) : Int)) := atI_nat (by
  unfold encN
  rw [List.getElem?_map, List.getD_eq_getElem?_getD, List.getElem?_eq_getElem h]
  rfl)
theorem encN_set (ns : List Nat) (c w : Nat) : (encN ns).set c (.int (w : Nat)) = encN (ns.set c w) := by
  unfold encN
  rw [List.map_set]
theorem encN_app (ns : List Nat) (c : Nat) : encN ns ++ [.int (c : Nat)] = encN (ns ++ [c]) := by
  unfold encN
  rw [List.map_append]; rfl
theorem encN_len' (ns : List Nat) : (encN ns).length = ns.length := List.length_map _
theorem ixN_nat {n c : Nat} (h : c < n) : ixN n ((c : Nat) : Int) = some c := by
  unfold ixN
  rw [if_pos (by omega), if_pos (by omega)]
  simp

abbrev benchPo (K : PySem.W.Frag) (A : Ad) (h : Addr) (b : BN) : Po := { nx := fun ρ' => ∃ b', (b' = b ∧ (PyData.none : D) = .none) ∧ ρ'[0]? = some (.ow (benchR K A h b')), rt := fun s ρ' => ∃ d b', s = .d d ∧ (b' = b ∧ d = .none) ∧ ρ'[0]? = some (.ow (benchR K A h b')) }
/-! ### __init__ -/
def t_Bench_init (K : PySem.W.Frag) (A : Ad) : TS :=
  (tSeq (sFld K (tVar 0) (tCB (rListA K) (tCons (tVar 1) tNil)) "memory")
    (sFld K (tVar 0) (tTup (tCons (tLst tNil) (tCons (tLst tNil) tNil))) "seen"))
def sp_Bench_init (K : PySem.W.Frag) (A : Ad) : Sp := relSp (β := Option BN) K (makeR K A) fun b ds S => b = none ∧ ∃ mem : List Nat, ds = [.tuple (encN mem)] ∧ S = fun b' d => b' = some ⟨mem, [], []⟩ ∧ d = .none
theorem rd_Bench_init {C : Cc} {A : Ad} {h : Addr} {mem : List Nat} (B : BenchOk C.K A) : Ex C (t_Bench_init C.K A) [.ow (makeR C.K A h none), .d (.tuple (encN mem))]
    { nx := fun ρ' => ∃ b', (b' = some ⟨mem, [], []⟩ ∧ (PyData.none : D) = .none) ∧ ρ'[0]? = some (.ow (makeR C.K A h b')), rt := fun s ρ' => ∃ d b', s = .d d ∧ (b' = some ⟨mem, [], []⟩ ∧ d = .none) ∧ ρ'[0]? = some (.ow (makeR C.K A h b')) } := by
  refine ex_seq (ex_init1 B rfl (ev_call (ea_one (ev_var rfl)) (on_listT .own)) ?_)
  exact ex_init2 B rfl ev_pairNew ⟨some ⟨mem, [], []⟩, ⟨rfl, rfl⟩, rfl⟩
theorem ef_bench {C : Cc} {A : Ad} {ρ : List Sl} {te : TE} {mem : List Nat} {P : Sl → List Sl → Prop} (he : PD C te ρ (.tuple (encN mem))) (p : ∀ o, P (.ow (benchR C.K A o ⟨mem, [], []⟩)) ρ) : Ev C (tMake A.aBench (sp_Bench_init C.K A) [] E0 (tCons te tNil)) ρ P :=
  ef_make make_ref (fun o dx Hb H e => ⟨dx, rfl, rfl, e⟩) (fa_p (ea_one he) ⟨_, ⟨rfl, mem, rfl, rfl⟩, fun o b' d ⟨e1, e2⟩ => by
    subst e1
    exact ⟨e2, p o⟩⟩)

/-! ### do -/
def t_Bench_do (K : PySem.W.Frag) (A : Ad) : TS :=
  (tSeq (tIfS (tTest (tOp (rEqD K) (tOp (rIx K) (tVar 2) (tC (.int 0))) (tC (.str "read")))) (tDrop (tBM K "list" rAppend (tOp (rIx K) (tFld K (tVar 0) "seen") (tVar 1)) (tCons (tOp (rIx K) (tFld K (tVar 0) "memory") (tOp (rIx K) (tVar 2) (tC (.int 1)))) tNil))) tNext)
    (tIfS (tTest (tOp (rEqD K) (tOp (rIx K) (tVar 2) (tC (.int 0))) (tC (.str "write")))) (tAsg (tOp (rIx K) (tVar 2) (tC (.int 2))) (gSub (tFld K (tVar 0) "memory") (tOp (rIx K) (tVar 2) (tC (.int 1))) rSetL)) tNext))
def lowN : Nat := 1000000
def sp_Bench_do (K : PySem.W.Frag) (A : Ad) : Sp := relSp (β := BN) K (benchR K A) fun b ds S => ∃ (door : Nat) (d : Deed), ds = [.int (door : Nat), d.enc] ∧ door < 2 ∧ d.Good b.mem.length ∧ b.Low lowN ∧ S = fun b' x => b' = b.act door d ∧ x = .none
theorem rd_Bench_do {C : Cc} {A : Ad} {h : Addr} {b : BN} {door : Nat} {d : Deed} (B : BenchOk C.K A) (hd : door < 2) (hg : d.Good b.mem.length) (hl : b.Low lowN) : Ex C (t_Bench_do C.K A) [.ow (benchR C.K A h b), .d (.int (door : Nat)), .d d.enc]
    (benchPo C.K A h (b.act door d)) := by
  have hl0 : (encN b.s0).length < 10000000 := by rw [encN_len']; have := hl.1; unfold lowN at this; omega
  have hl1 : (encN b.s1).length < 10000000 := by rw [encN_len']; have := hl.2; unfold lowN at this; omega
  cases d with
  | rest =>
    refine ex_seq (ex_ifp (et_test (ev_eqRead (d := .rest) (ev_var rfl))) (fun z => nomatch z) fun _ => ex_next ?_)
    exact ex_ifp (et_test (ev_eqWrite (d := .rest) (ev_var rfl))) (fun z => nomatch z) fun _ => ex_next ⟨_, ⟨rfl, rfl⟩, rfl⟩
  | read c =>
    have hg : c < b.mem.length := hg
    refine ex_seq (ex_ifp (et_test (ev_eqRead (d := .read c) (ev_var rfl))) (fun _ => ?_) fun z => nomatch z)
    have two : door = 0 ∨ door = 1 := by omega
    rcases two with e | e <;> subst e
    · refine ex_app (lr_seen0 B (s0 := encN b.s0) rfl (ev_var rfl)) (ev_ixOf (lr_mem B (mem := encN b.mem) rfl) (ev_c1 (d := .read c) (ev_var rfl) rfl) (encN_at hg)) hl0 ?_
      refine ex_ifp (et_test (ev_eqWrite (d := .read c) (ev_var rfl))) (fun z => nomatch z) fun _ => ex_next ⟨_, ⟨rfl, rfl⟩, ?_⟩
      rw [encN_app]; rfl
    · refine ex_app (lr_seen1 B (s1 := encN b.s1) rfl (ev_var rfl)) (ev_ixOf (lr_mem B (mem := encN b.mem) rfl) (ev_c1 (d := .read c) (ev_var rfl) rfl) (encN_at hg)) hl1 ?_
      refine ex_ifp (et_test (ev_eqWrite (d := .read c) (ev_var rfl))) (fun z => nomatch z) fun _ => ex_next ⟨_, ⟨rfl, rfl⟩, ?_⟩
      rw [encN_app]; rfl
  | write c w =>
    have hg : c < b.mem.length ∧ w < 3 := hg
    refine ex_seq (ex_ifp (et_test (ev_eqRead (d := .write c w) (ev_var rfl))) (fun z => nomatch z) fun _ => ex_next ?_)
    refine ex_ifp (et_test (ev_eqWrite (d := .write c w) (ev_var rfl))) (fun _ => ?_) fun z => nomatch z
    refine ex_six (lr_mem B (mem := encN b.mem) rfl) (ev_w2 (c := c) (w := w) (ev_var rfl)) (ev_c1 (d := .write c w) (ev_var rfl) rfl) (by rw [encN_len']; exact ixN_nat hg.1) ⟨_, ⟨rfl, rfl⟩, ?_⟩
    show _ = some (Sl.ow (Res.bench C.K A.aBench h (encN (b.mem.set c w)) (encN b.s0) (encN b.s1)))
    rw [← encN_set]; rfl

/-! ### do_some -/
def t_Bench_do_some (K : PySem.W.Frag) (A : Ad) : TS :=
  (tFor (iList K (tVar 2)) (gTup K 2 (gCons (gName 3) (gCons (gName 4) gNil))) (tIfS (tTest (tOp (rEqD K) (tOp (rIx K) (tVar 4) (tC (.int 0))) (tVar 1))) (tDrop (tMeth A.aBench "do" (sp_Bench_do K A) [] E0 (tVar 0) (tCons (tVar 3) (tCons (tVar 4) tNil)))) tNext))
def encQ (ps : List (Nat × Deed)) : List D := ps.map fun q => .tuple [.int (q.1 : Nat), q.2.enc]
def GoodQ (cells : Nat) (ps : List (Nat × Deed)) : Prop := ∀ q ∈ ps, q.1 < 2 ∧ q.2.Good cells
def sp_Bench_do_some (K : PySem.W.Frag) (A : Ad) : Sp := relSp (β := BN) K (benchR K A) fun b ds S => ∃ (w : Str) (ps : List (Nat × Deed)) (n : Nat), ds = [.str w, .list (encQ ps)] ∧ PyData.strOk w = true ∧ GoodQ b.mem.length ps ∧ b.Low n ∧ n + ps.length ≤ lowN ∧ S = fun b' x => b' = b.acts w ps ∧ x = .none
theorem ef_do {C : Cc} {A : Ad} {ρ : List Sl} {i : Nat} {h : Addr} {b : BN} {ta tb : TE} {door : Nat} {d : Deed} {P : Sl → List Sl → Prop} (hi : ρ[i]? = some (.ow (benchR C.K A h b))) (ha : PD C ta ρ (.int (door : Nat))) (hb : PD C tb ρ d.enc) (hd : door < 2) (hg : d.Good b.mem.length) (hl : b.Low lowN)
    (p : P (.d .none) (ρ.set i (.ow (benchR C.K A h (b.act door d))))) : Ev C (tMeth A.aBench "do" (sp_Bench_do C.K A) [] E0 (tVar i) (tCons ta (tCons tb tNil))) ρ P :=
  ef_meth hi bench_ref (fun b Hb H v fp ⟨dx, m, t, a, b', ms, vs, us, e, ef, nd, h1, _⟩ => ⟨dx, _, h1, bF_do _ _⟩) (fa_p (ea_two ha hb) ⟨_, b, hi, ⟨door, d, rfl, hd, hg, hl, rfl⟩, fun x b' ⟨eb, ex⟩ => by
    subst eb; subst ex
    exact p⟩)
theorem encQ_at {ps : List (Nat × Deed)} {i : Nat} (h : i < ps.length) : itemOf (encQ ps) i = .tuple [.int (ps[i].1 : Nat), ps[i].2.enc] := itemOf_some (by
  unfold encQ
  rw [List.getElem?_map, List.getElem?_eq_getElem h]
  rfl)
theorem encQ_len (ps : List (Nat × Deed)) : (encQ ps).length = ps.length := List.length_map _
theorem acts_take {w : Str} {ps : List (Nat × Deed)} {i : Nat} {b : BN} (h : i < ps.length) : b.acts w (ps.take (i + 1)) = (b.acts w (ps.take i)).actIf w ps[i] := by
  unfold BN.acts
  rw [List.take_succ_eq_append_getElem h, List.foldl_append]
  rfl
theorem rd_Bench_do_some {C : Cc} {A : Ad} {h : Addr} {b : BN} {w : Str} {ps : List (Nat × Deed)} {n : Nat} (hw : PyData.strOk w = true) (hg : GoodQ b.mem.length ps) (hl : b.Low n) (hn : n + ps.length ≤ lowN) : Ex C (t_Bench_do_some C.K A) [.ow (benchR C.K A h b), .d (.str w), .d (.list (encQ ps)), .no, .no]
    (benchPo C.K A h (b.acts w ps)) := by
  refine ex_for (ei_p (pi_l (ds := encQ ps) (ev_var rfl)) ⟨fun i ρ => ∃ s3 s4, ρ = [.ow (benchR C.K A h (b.acts w (ps.take i))), .d (.str w), .d (.list (encQ ps)), s3, s4], ⟨_, _, rfl⟩, fun i ρ hi ⟨s3, s4, e⟩ => ?_, fun ρ ⟨s3, s4, e⟩ => ?_⟩)
  · subst e
    rw [encQ_len] at hi
    rw [encQ_at hi]
    obtain ⟨g1, g2⟩ := hg _ (List.getElem_mem hi)
    have et := acts_take (w := w) (b := b) hi
    refine eg_tup rfl (egs_cons (eg_name (egs_cons (eg_name (egs_nil ?_)))))
    refine ex_ifp (b := (ps[i].2.word == w)) (et_test (ev_is (ev_op (ev_w0 (d := ps[i].2) (ev_var rfl)) (ev_var rfl) (o2_eq (sh_str (Deed.word_ok _)) (sh_str hw))) (by rw [eqv_str]))) (fun c => ?_) fun c => ex_next ?_
    · refine ex_drop (ef_do rfl (ev_var rfl) (ev_var rfl) g1 (by rw [BN.acts_mem]; exact g2) ((BN.acts_low w _ hl).up (by rw [List.length_take]; omega)) ⟨.d (.int (ps[i].1 : Nat)), .d ps[i].2.enc, ?_⟩)
      rw [et]
      unfold BN.actIf
      rw [if_pos c]
      rfl
    · refine ⟨.d (.int (ps[i].1 : Nat)), .d ps[i].2.enc, ?_⟩
      rw [et]
      unfold BN.actIf
      rw [if_neg (by rw [c]; exact Bool.false_ne_true)]
      rfl
  · subst e
    rw [encQ_len, List.take_length]
    exact ⟨_, ⟨rfl, rfl⟩, rfl⟩
end DL
set_option Elab.async false
set_option linter.all false
set_option maxRecDepth 100000
set_option maxHeartbeats 4000000
/-! DS: beat, need_memory, run_by, run. -/
namespace DL
open PySem PySem.Spec L2

section
variable {C : Cc} {A : Ad} {ρ : List Sl} {i : Nat} {h : Addr} {b : BN} {ta tb tc : TE} {P : Sl → List Sl → Prop}
theorem ef_some {w : Str} {ps : List (Nat × Deed)} {n : Nat} (hi : ρ[i]? = some (.ow (benchR C.K A h b))) (ha : PD C ta ρ (.str w)) (hb : PD C tb ρ (.list (encQ ps))) (hw : PyData.strOk w = true) (hg : GoodQ b.mem.length ps) (hl : b.Low n) (hn : n + ps.length ≤ lowN)
    (p : P (.d .none) (ρ.set i (.ow (benchR C.K A h (b.acts w ps))))) : Ev C (tMeth A.aBench "do_some" (sp_Bench_do_some C.K A) [] E0 (tVar i) (tCons ta (tCons tb tNil))) ρ P :=
  ef_meth hi bench_ref (fun b Hb H v fp ⟨dx, m, t, a, b', ms, vs, us, e, ef, nd, h1, _⟩ => ⟨dx, _, h1, bF_some _ _⟩) (fa_p (ea_two ha hb) ⟨_, b, hi, ⟨w, ps, n, rfl, hw, hg, hl, hn, rfl⟩, fun x b' ⟨eb, ex⟩ => by
    subst eb; subst ex
    exact p⟩)
end
/-! ### beat -/
def t_Bench_beat (K : PySem.W.Frag) (A : Ad) : TS :=
  (tIfS (tTest (tOp (rEqD K) (tVar 1) (tC (.str "old")))) (tSeq (tDrop (tMeth A.aBench "do_some" (sp_Bench_do_some K A) [] E0 (tVar 0) (tCons (tC (.str "read")) (tCons (tLst (tCons (tTup (tCons (tC (.int 0)) (tCons (tVar 2) tNil))) (tCons (tTup (tCons (tC (.int 1)) (tCons (tVar 3) tNil))) tNil))) tNil))))
    (tDrop (tMeth A.aBench "do_some" (sp_Bench_do_some K A) [] E0 (tVar 0) (tCons (tC (.str "write")) (tCons (tLst (tCons (tTup (tCons (tC (.int 1)) (tCons (tVar 3) tNil))) (tCons (tTup (tCons (tC (.int 0)) (tCons (tVar 2) tNil))) tNil))) tNil))))) (tIfS (tTest (tOp (rEqD K) (tVar 1) (tC (.str "new")))) (tSeq (tDrop (tMeth A.aBench "do_some" (sp_Bench_do_some K A) [] E0 (tVar 0) (tCons (tC (.str "write")) (tCons (tLst (tCons (tTup (tCons (tC (.int 1)) (tCons (tVar 3) tNil))) (tCons (tTup (tCons (tC (.int 0)) (tCons (tVar 2) tNil))) tNil))) tNil))))
    (tDrop (tMeth A.aBench "do_some" (sp_Bench_do_some K A) [] E0 (tVar 0) (tCons (tC (.str "read")) (tCons (tLst (tCons (tTup (tCons (tC (.int 0)) (tCons (tVar 2) tNil))) (tCons (tTup (tCons (tC (.int 1)) (tCons (tVar 3) tNil))) tNil))) tNil))))) (tSeq (tAsg (tLst (tCons (tTup (tCons (tC (.int 0)) (tCons (tVar 2) tNil))) (tCons (tTup (tCons (tC (.int 1)) (tCons (tVar 3) tNil))) tNil))) (gName 4))
    (tFor (iList K (tIf (tTest (tOp (rEqD K) (tVar 1) (tC (.str "right")))) (tRevL K (tVar 4)) (tVar 4))) (gTup K 2 (gCons (gName 5) (gCons (gName 6) gNil))) (tDrop (tMeth A.aBench "do" (sp_Bench_do K A) [] E0 (tVar 0) (tCons (tVar 5) (tCons (tVar 6) tNil))))))))
def sp_Bench_beat (K : PySem.W.Frag) (A : Ad) : Sp := relSp (β := BN) K (benchR K A) fun b ds S => ∃ (u : Rule) (one other : Deed) (n : Nat), ds = [.str u.word, one.enc, other.enc] ∧ one.Good b.mem.length ∧ other.Good b.mem.length ∧ b.Low n ∧ n + 4 ≤ lowN ∧ S = fun b' x => b' = b.beat u one other ∧ x = .none
theorem ef_beat {C : Cc} {A : Ad} {ρ : List Sl} {i : Nat} {h : Addr} {b : BN} {ta tb tc : TE} {P : Sl → List Sl → Prop} {u : Rule} {one other : Deed} {n : Nat} (hi : ρ[i]? = some (.ow (benchR C.K A h b))) (ha : PD C ta ρ (.str u.word)) (hb : PD C tb ρ one.enc) (hc : PD C tc ρ other.enc) (g1 : one.Good b.mem.length) (g2 : other.Good b.mem.length) (hl : b.Low n) (hn : n + 4 ≤ lowN)
    (p : P (.d .none) (ρ.set i (.ow (benchR C.K A h (b.beat u one other))))) : Ev C (tMeth A.aBench "beat" (sp_Bench_beat C.K A) [] E0 (tVar i) (tCons ta (tCons tb (tCons tc tNil)))) ρ P :=
  ef_meth hi bench_ref (fun b Hb H v fp ⟨dx, m, t, a, b', ms, vs, us, e, ef, nd, h1, _⟩ => ⟨dx, _, h1, bF_beat _ _⟩) (fa_p (ea_cons ha (ea_two hb hc)) ⟨_, b, hi, ⟨u, one, other, n, rfl, g1, g2, hl, hn, rfl⟩, fun x b' ⟨eb, ex⟩ => by
    subst eb; subst ex
    exact p⟩)
theorem goodQ2 {cells : Nat} {i j : Nat} {a b : Deed} (hi : i < 2) (hj : j < 2) (ha : a.Good cells) (hb : b.Good cells) : GoodQ cells [(i, a), (j, b)] := fun q hq => by
  rcases List.mem_cons.mp hq with e | hq
  · rw [e]; exact ⟨hi, ha⟩
  · rw [List.mem_singleton.mp hq]; exact ⟨hj, hb⟩
theorem ev_q01 {C : Cc} {ρ : List Sl} {i j : Nat} {a b : Deed} (hi : ρ[i]? = some (.d a.enc)) (hj : ρ[j]? = some (.d b.enc)) : PD C (tLst (tCons (tTup (tCons (tC (.int 0)) (tCons (tVar i) tNil))) (tCons (tTup (tCons (tC (.int 1)) (tCons (tVar j) tNil))) tNil))) ρ (.list (encQ [(0, a), (1, b)])) :=
  ev_lst (ea_two (ev_tup (ea_two (ev_int (i := ((0 : Nat) : Int))) (ev_var hi))) (ev_tup (ea_two (ev_int (i := ((1 : Nat) : Int))) (ev_var hj))))
theorem ev_q10 {C : Cc} {ρ : List Sl} {i j : Nat} {a b : Deed} (hi : ρ[i]? = some (.d a.enc)) (hj : ρ[j]? = some (.d b.enc)) : PD C (tLst (tCons (tTup (tCons (tC (.int 1)) (tCons (tVar j) tNil))) (tCons (tTup (tCons (tC (.int 0)) (tCons (tVar i) tNil))) tNil))) ρ (.list (encQ [(1, b), (0, a)])) :=
  ev_lst (ea_two (ev_tup (ea_two (ev_int (i := ((1 : Nat) : Int))) (ev_var hj))) (ev_tup (ea_two (ev_int (i := ((0 : Nat) : Int))) (ev_var hi))))
theorem ev_eqW {C : Cc} {ρ : List Sl} {te : TE} {a w : Str} (h : PD C te ρ (.str a)) (ha : PyData.strOk a = true) (hw : PyData.strOk w = true) : PD C (tOp (rEqD C.K) te (tC (.str w))) ρ (.bool (a == w)) := ev_is (ev_op h ev_str (o2_eq (sh_str ha) (sh_str hw))) (by rw [eqv_str])
def BN.goes (b : BN) (ps : List (Nat × Deed)) : BN := ps.foldl (fun b q => b.act q.1 q.2) b
theorem goes_take {ps : List (Nat × Deed)} {i : Nat} {b : BN} (h : i < ps.length) : b.goes (ps.take (i + 1)) = (b.goes (ps.take i)).act ps[i].1 ps[i].2 := by
  unfold BN.goes
  rw [List.take_succ_eq_append_getElem h, List.foldl_append]
  rfl
theorem BN.goes_mem : ∀ (ps : List (Nat × Deed)) (b : BN), (b.goes ps).mem.length = b.mem.length
  | [], b => rfl
  | q :: ps, b => by
    show ((b.act q.1 q.2).goes ps).mem.length = _
    rw [goes_mem ps, BN.act_mem]
theorem BN.goes_low : ∀ (ps : List (Nat × Deed)) {n : Nat} {b : BN}, b.Low n → (b.goes ps).Low (n + ps.length)
  | [], n, b, h => h
  | q :: ps, n, b, h => by
    have := goes_low ps (BN.act_low h q.1 q.2)
    rw [List.length_cons]
    exact this.up (by omega)
theorem rd_Bench_beat {C : Cc} {A : Ad} {h : Addr} {b : BN} {u : Rule} {one other : Deed} {n : Nat} (g1 : one.Good b.mem.length) (g2 : other.Good b.mem.length) (hl : b.Low n) (hn : n + 4 ≤ lowN) : Ex C (t_Bench_beat C.K A) [.ow (benchR C.K A h b), .d (.str u.word), .d one.enc, .d other.enc, .no, .no, .no]
    (benchPo C.K A h (b.beat u one other)) := by
  have lw : lowN = 1000000 := rfl
  refine ex_ifp (et_test (ev_is (ev_eqW (ev_var rfl) u.word_ok ok_old) (by rw [u.is_old]))) (fun e => ?_) fun e => ?_
  · have e := of_decide_eq_true e
    subst e
    refine ex_seq (ex_drop (ef_some rfl ev_str (ev_q01 rfl rfl) ok_read (goodQ2 (by decide) (by decide) g1 g2) hl (by show n + 2 ≤ _; omega) ?_))
    exact ex_drop (ef_some rfl ev_str (ev_q10 rfl rfl) ok_write (by rw [BN.acts_mem]; exact goodQ2 (by decide) (by decide) g2 g1) (BN.acts_low _ _ hl) (by show n + 2 + 2 ≤ _; omega) ⟨_, ⟨rfl, rfl⟩, rfl⟩)
  have e0 : u ≠ .old := of_decide_eq_false e
  refine ex_ifp (et_test (ev_is (ev_eqW (ev_var rfl) u.word_ok ok_new) (by rw [u.is_new]))) (fun e => ?_) fun e => ?_
  · have e := of_decide_eq_true e
    subst e
    refine ex_seq (ex_drop (ef_some rfl ev_str (ev_q10 rfl rfl) ok_write (goodQ2 (by decide) (by decide) g2 g1) hl (by show n + 2 ≤ _; omega) ?_))
    exact ex_drop (ef_some rfl ev_str (ev_q01 rfl rfl) ok_read (by rw [BN.acts_mem]; exact goodQ2 (by decide) (by decide) g1 g2) (BN.acts_low _ _ hl) (by show n + 2 + 2 ≤ _; omega) ⟨_, ⟨rfl, rfl⟩, rfl⟩)
  have e1 : u ≠ .new := of_decide_eq_false e
  refine ex_seq (ex_set (ev_q01 rfl rfl) ?_)
  have main : ∀ (ps : List (Nat × Deed)), ps.length = 2 → GoodQ b.mem.length ps → b.goes ps = b.beat u one other → PD C (tIf (tTest (tOp (rEqD C.K) (tVar 1) (tC (.str "right")))) (tRevL C.K (tVar 4)) (tVar 4)) [.ow (benchR C.K A h b), .d (.str u.word), .d one.enc, .d other.enc, .d (.list (encQ [(0, one), (1, other)])), .no, .no] (.list (encQ ps)) →
      Ex C (tFor (iList C.K (tIf (tTest (tOp (rEqD C.K) (tVar 1) (tC (.str "right")))) (tRevL C.K (tVar 4)) (tVar 4))) (gTup C.K 2 (gCons (gName 5) (gCons (gName 6) gNil))) (tDrop (tMeth A.aBench "do" (sp_Bench_do C.K A) [] E0 (tVar 0) (tCons (tVar 5) (tCons (tVar 6) tNil))))) [.ow (benchR C.K A h b), .d (.str u.word), .d one.enc, .d other.enc, .d (.list (encQ [(0, one), (1, other)])), .no, .no] (benchPo C.K A h (b.beat u one other)) := fun ps hp hg eb he => by
    refine ex_for (ei_p (pi_l (ds := encQ ps) he) ⟨fun i ρ => ∃ s5 s6, ρ = [.ow (benchR C.K A h (b.goes (ps.take i))), .d (.str u.word), .d one.enc, .d other.enc, .d (.list (encQ [(0, one), (1, other)])), s5, s6], ⟨_, _, rfl⟩, fun i ρ hi ⟨s5, s6, e⟩ => ?_, fun ρ ⟨s5, s6, e⟩ => ?_⟩)
    · subst e
      rw [encQ_len] at hi
      rw [encQ_at hi]
      obtain ⟨k1, k2⟩ := hg _ (List.getElem_mem hi)
      refine eg_tup rfl (egs_cons (eg_name (egs_cons (eg_name (egs_nil ?_)))))
      refine ex_drop (ef_do rfl (ev_var rfl) (ev_var rfl) k1 (by rw [BN.goes_mem]; exact k2) ((BN.goes_low _ hl).up (by rw [List.length_take]; omega)) ⟨.d (.int (ps[i].1 : Nat)), .d ps[i].2.enc, ?_⟩)
      rw [goes_take hi]
      rfl
    · subst e
      rw [encQ_len, List.take_length, eb]
      exact ⟨_, ⟨rfl, rfl⟩, rfl⟩
  by_cases er : u = .right
  · refine main [(1, other), (0, one)] rfl (goodQ2 (by decide) (by decide) g2 g1) (by subst er; rfl) (ev_if (b := true) (et_is (et_test (ev_eqW (ev_var rfl) u.word_ok ok_right)) (by rw [u.is_right, decide_eq_true er])) (fun _ => ev_is (ev_rev (ds := encQ [(0, one), (1, other)]) (ev_var rfl)) rfl) fun z => nomatch z)
  · refine main [(0, one), (1, other)] rfl (goodQ2 (by decide) (by decide) g1 g2) (by cases u with
      | old => exact absurd rfl e0
      | new => exact absurd rfl e1
      | right => exact absurd rfl er
      | left => rfl
      | wait => rfl) (ev_if (b := false) (et_is (et_test (ev_eqW (ev_var rfl) u.word_ok ok_right)) (by rw [u.is_right, decide_eq_false er])) (fun z => nomatch z) fun _ => ev_var rfl)

/-! ### need_cells, need_memory -/
def t_need_cells (K : PySem.W.Frag) (A : Ad) : TS :=
  (tIfS (tNot (tTest (tChain rLeA rLeA (tC (.int 1)) (tVar 0) (tC (.int 4))))) tNever tNext)
def sp_need_cells (K : PySem.W.Frag) (A : Ad) : Sp := datSp K fun ds r => ∃ n : Nat, ds = [.int (n : Nat)] ∧ 1 ≤ n ∧ n ≤ 4 ∧ r = .none
theorem rd_need_cells {C : Cc} {A : Ad} {n : Nat} (h1 : 1 ≤ n) (h2 : n ≤ 4) : Ex C (t_need_cells C.K A) [.d (.int (n : Nat))] (retD .none) := by
  refine ex_ifp (b := false) (et_is (et_not (et_test (ev_chain ev_int (ev_var rfl) o2_leI fun _ => ⟨ev_int, o2_leI⟩))) ?_) (fun h => nomatch h) fun _ => ex_next rfl
  rw [decide_eq_true (by omega), decide_eq_true (by omega)]; rfl
def t_need_memory (K : PySem.W.Frag) (A : Ad) : TS :=
  (tSeq (tDrop (tUser (sp_need_cells K A) (tCons (tCB (rLenA K) (tCons (tVar 0) tNil)) tNil)))
    (tIfS (tTest (tOp (rNeD K) (tLc (iTup K (tVar 0)) (gName 1) (tTest (tOp (rNInA K) (tVar 1) (tC (.ref A.aWORTHS)))) (tVar 1) [1]) (tLst tNil))) tNever tNext))
def MemOk (mem : List Nat) : Prop := 1 ≤ mem.length ∧ mem.length ≤ 4 ∧ ∀ w ∈ mem, w < 3
def sp_need_memory (K : PySem.W.Frag) (A : Ad) : Sp := datSp K fun ds r => ∃ mem : List Nat, ds = [.tuple (encN mem)] ∧ MemOk mem ∧ r = .none
theorem encN_item {ns : List Nat} {i : Nat} (h : i < ns.length) : itemOf (encN ns) i = .int (ns[i] : Nat) := itemOf_some (by
  unfold encN
  rw [List.getElem?_map, List.getElem?_eq_getElem h]
  rfl)
theorem rd_need_memory {C : Cc} {A : Ad} {mem : List Nat} (hW : WorthsOk C.K A) (h : MemOk mem) : Ex C (t_need_memory C.K A) [.d (.tuple (encN mem)), .no] (retD .none) := by
  refine ex_seq (ex_drop (ef_d (ev_dat (x := .none) (ea_one (ev_call (ea_one (ev_var rfl)) (on_lenT (ds := encN mem)))) ⟨mem.length, by rw [encN_len'], h.1, h.2.1, rfl⟩) ?_))
  refine ex_ifp (b := false) (et_test (ev_is (ev_op (x := .list []) (y := .list []) (ev_lc (s := .d (.list [])) (fun i => [.d (.tuple (encN mem)), .d (itemOf (encN mem) i)]) (fun _ => false) (fun _ => .none) (pi_t (ds := encN mem) (ev_var rfl)) (by rw [encN_len']; have := h.2.1; omega) (fun i hi => gp_name (List.mem_singleton.mpr rfl)) (fun i hi => ?_) (fun i hi z => nomatch z) (by rw [made_none]; exact .dat)) (ev_lst ea_nil) (o2_ne rfl rfl)) rfl)) (fun z => nomatch z) fun _ => ex_next rfl
  rw [encN_len'] at hi
  have hw := h.2.2 _ (List.getElem_mem hi)
  rw [encN_item hi]
  refine et_is (et_test (ev_op (ev_var rfl) (ev_const hW) (o2_ninT rfl rfl))) ?_
  unfold inDt
  simp only [List.any_cons, List.any_nil, eqv_int]
  have : mem[i] = 0 ∨ mem[i] = 1 ∨ mem[i] = 2 := by omega
  rcases this with e | e | e <;> rw [e] <;> rfl

/-! ### run_by -/
def t_run_by (K : PySem.W.Frag) (A : Ad) : TS :=
  (tSeq (tAsg (tMake A.aBench (sp_Bench_init K A) [] E0 (tCons (tVar 1) tNil)) (gName 4))
    (tSeq (tAsg (tTup (tCons (tC (.int 0)) (tCons (tC (.int 0)) (tCons (tC (.int 0)) tNil)))) (gTup K 3 (gCons (gName 5) (gCons (gName 6) (gCons (gName 7) gNil)))))
    (tSeq (tWhile (tOr (tTest (tOp rLtA (tVar 5) (tCB (rLenA K) (tCons (tVar 2) tNil)))) (tTest (tOp rLtA (tVar 6) (tCB (rLenA K) (tCons (tVar 3) tNil))))) (tSeq (tPar 8 9 (tCons (tUser (sp_deed_at K A) (tCons (tVar 2) (tCons (tVar 5) tNil))) (tCons (tUser (sp_deed_at K A) (tCons (tVar 3) (tCons (tVar 6) tNil))) tNil)))
    (tSeq (tIfS (tAnd (tTest (tOp (rEqD K) (tVar 0) (tC (.str "wait")))) (tB (tUser (sp_do_clash K A) (tCons (tVar 8) (tCons (tVar 9) tNil))))) (tDrop (tMeth A.aBench "do" (sp_Bench_do K A) [] E0 (tVar 4) (tCons (tC (.int 0)) (tCons (tVar 8) tNil)))) (tSeq (tDrop (tMeth A.aBench "beat" (sp_Bench_beat K A) [] E0 (tVar 4) (tCons (tVar 0) (tCons (tVar 8) (tCons (tVar 9) tNil)))))
    (tAsg (tOp (rAddA K) (tVar 6) (tC (.int 1))) (gName 6))))
    (tSeq (tAsg (tOp (rAddA K) (tVar 5) (tC (.int 1))) (gName 5))
    (tAsg (tOp (rAddA K) (tVar 7) (tC (.int 1))) (gName 7))))))
    (tRet (tTup (tCons (tOp (rIx K) (tFld K (tVar 4) "seen") (tC (.int 0))) (tCons (tOp (rIx K) (tFld K (tVar 4) "seen") (tC (.int 1))) (tCons (tCB (rTupleA K) (tCons (tFld K (tVar 4) "memory") tNil)) (tCons (tVar 7) tNil)))))))))

/-- what is run, by what is left of both -/
def runF (u : Rule) : Nat → BN → List Deed → List Deed → BN × Nat
  | 0, b, _, _ => (b, 0)
  | n + 1, b, l, r => if l = [] ∧ r = [] then (b, 0) else
    if u = .wait ∧ (l.headD .rest).clash (r.headD .rest) = true then ((runF u n (b.act 0 (l.headD .rest)) l.tail r).1, (runF u n (b.act 0 (l.headD .rest)) l.tail r).2 + 1)
    else ((runF u n (b.beat u (l.headD .rest) (r.headD .rest)) l.tail r.tail).1, (runF u n (b.beat u (l.headD .rest) (r.headD .rest)) l.tail r.tail).2 + 1)
def runOf (u : Rule) (mem : List Nat) (l r : List Deed) : BN × Nat := runF u (l.length + r.length) ⟨mem, [], []⟩ l r
theorem runF_nil (u : Rule) (b : BN) : ∀ n, runF u n b [] [] = (b, 0)
  | 0 => rfl
  | n + 1 => by unfold runF; rw [if_pos ⟨rfl, rfl⟩]
theorem head_drop (l : List Deed) (i : Nat) : (l.drop i).headD .rest = deedAt l i := by
  unfold deedAt
  rw [List.headD_eq_head?_getD, List.head?_drop, List.getD_eq_getElem?_getD]
theorem deedAt_good {cells : Nat} {l : List Deed} (h : GoodP cells l) (i : Nat) : (deedAt l i).Good cells := by
  by_cases hi : i < l.length
  · rw [deedAt_eq hi]; exact h _ (List.getElem_mem hi)
  · rw [deedAt_out (by omega)]; trivial
def runRel (ds xs ys rest : List D) : Prop := ∃ (u : Rule) (mem : List Nat) (l r : List Deed), ds = [.str u.word, .tuple (encN mem), encP l, encP r] ∧ GoodP mem.length l ∧ GoodP mem.length r ∧ l.length ≤ 1000 ∧ r.length ≤ 1000 ∧
  xs = encN (runOf u mem l r).1.s0 ∧ ys = encN (runOf u mem l r).1.s1 ∧ rest = [.tuple (encN (runOf u mem l r).1.mem), .int ((runOf u mem l r).2 : Nat)]
def sp_run_by (K : PySem.W.Frag) (A : Ad) : Sp := pairSp K runRel
theorem rd_run_by {C : Cc} {A : Ad} {u : Rule} {mem : List Nat} {l r : List Deed} {s : Sl} (B : BenchOk C.K A) (hl : GoodP mem.length l) (hr : GoodP mem.length r) (l1 : l.length ≤ 1000) (r1 : r.length ≤ 1000)
    (ps : Psl C.K (encN (runOf u mem l r).1.s0) (encN (runOf u mem l r).1.s1) [.tuple (encN (runOf u mem l r).1.mem), .int ((runOf u mem l r).2 : Nat)] s) :
    Ex C (t_run_by C.K A) [.d (.str u.word), .d (.tuple (encN mem)), .d (encP l), .d (encP r), .no, .no, .no, .no, .no, .no] { nx := fun _ => (Sl.d .none) = s, rt := fun s' _ => s' = s } := by
  have lw : lowN = 1000000 := rfl
  refine ex_seq (ex_asg (ef_bench (ev_var rfl) fun o => ?_))
  refine ex_seq (ex_asgG (ef_d (ev_tup (ea_cons ev_int (ea_two ev_int ev_int))) ⟨_, rfl, eg_tup rfl (egs_cons (eg_name (egs_cons (eg_name (egs_cons (eg_name (egs_nil ?_))))))) ⟩))
  refine ex_seq (ex_while (fun m ρ => ∃ (here there beats n : Nat) (b : BN) (s8 s9 : Sl), m = (l.length - here) + (r.length - there) ∧ m ≤ n ∧ b.mem.length = mem.length ∧ b.Low (4 * beats) ∧ beats + m ≤ l.length + r.length ∧
      runOf u mem l r = ((runF u n b (l.drop here) (r.drop there)).1, (runF u n b (l.drop here) (r.drop there)).2 + beats) ∧
      ρ = [.d (.str u.word), .d (.tuple (encN mem)), .d (encP l), .d (encP r), .ow (benchR C.K A o b), .d (.int (here : Nat)), .d (.int (there : Nat)), .d (.int (beats : Nat)), s8, s9])
    ⟨l.length + r.length, 0, 0, 0, l.length + r.length, ⟨mem, [], []⟩, .no, .no, rfl, Nat.le_refl _, rfl, ⟨Nat.le_refl _, Nat.le_refl _⟩, by omega, rfl, rfl⟩ fun m ρ ⟨here, there, beats, n, b, s8, s9, em, hmn, hmem, hlow, hbeats, eF, e⟩ => ?_)
  subst e
  have evh : PEvT C (tOr (tTest (tOp rLtA (tVar 5) (tCB (rLenA C.K) (tCons (tVar 2) tNil)))) (tTest (tOp rLtA (tVar 6) (tCB (rLenA C.K) (tCons (tVar 3) tNil))))) [.d (.str u.word), .d (.tuple (encN mem)), .d (encP l), .d (encP r), .ow (benchR C.K A o b), .d (.int (here : Nat)), .d (.int (there : Nat)), .d (.int (beats : Nat)), s8, s9] (decide (here < l.length) || decide (there < r.length)) :=
    et_is (et_or (et_test (ev_op (ev_var rfl) (ev_call (ea_one (ev_var rfl)) (on_lenL (ds := encs l))) o2_ltI)) fun _ => et_test (ev_op (ev_var rfl) (ev_call (ea_one (ev_var rfl)) (on_lenL (ds := encs r))) o2_ltI)) (by
      rw [encs_len, encs_len]
      congr 1
      · rw [decide_eq_decide]; omega
      · rw [decide_eq_decide]; omega)
  refine ft_p evh ?_
  by_cases hb : here < l.length ∨ there < r.length
  · have hb' : (decide (here < l.length) || decide (there < r.length)) = true := by
      rw [Bool.or_eq_true, decide_eq_true_iff, decide_eq_true_iff]; exact hb
    rw [hb', if_pos rfl]
    obtain ⟨n, rfl⟩ : ∃ k, n = k + 1 := ⟨n - 1, by omega⟩
    have hne : ¬ (l.drop here = [] ∧ r.drop there = []) := fun ⟨z1, z2⟩ => by
      have z1 := congrArg List.length z1
      have z2 := congrArg List.length z2
      rw [List.length_drop] at z1 z2
      simp only [List.length_nil] at z1 z2
      omega
    unfold runF at eF
    rw [if_neg hne, head_drop, head_drop, List.tail_drop, List.tail_drop] at eF
    have go1 : (deedAt l here).Good b.mem.length := by rw [hmem]; exact deedAt_good hl _
    have go2 : (deedAt r there).Good b.mem.length := by rw [hmem]; exact deedAt_good hr _
    refine ex_seq (ex_par (fa_p (ea_two (ev_dat (ea_two (ev_var rfl) (ev_var rfl)) ⟨l, here, rfl, rfl⟩) (ev_dat (ea_two (ev_var rfl) (ev_var rfl)) ⟨r, there, rfl, rfl⟩)) ⟨_, _, rfl, ?_⟩))
    -- the rest of the turn
    have cont : ∀ {P : Po} {b' : BN} {there' : Nat}, P.nx [.d (.str u.word), .d (.tuple (encN mem)), .d (encP l), .d (encP r), .ow (benchR C.K A o b'), .d (.int ((here + 1 : Nat) : Int)), .d (.int (there' : Nat)), .d (.int ((beats + 1 : Nat) : Int)), .d (deedAt l here).enc, .d (deedAt r there).enc] →
        Ex C (tSeq (tAsg (tOp (rAddA C.K) (tVar 5) (tC (.int 1))) (gName 5)) (tAsg (tOp (rAddA C.K) (tVar 7) (tC (.int 1))) (gName 7))) [.d (.str u.word), .d (.tuple (encN mem)), .d (encP l), .d (encP r), .ow (benchR C.K A o b'), .d (.int (here : Nat)), .d (.int (there' : Nat)), .d (.int (beats : Nat)), .d (deedAt l here).enc, .d (deedAt r there).enc] P := fun {P b' there'} p =>
      ex_seq (ex_set (s := .d (.int ((here + 1 : Nat) : Int))) (ev_is (ev_op (ev_var rfl) ev_int o2_addI) (by congr 1)) (ex_set (s := .d (.int ((beats + 1 : Nat) : Int))) (ev_is (ev_op (ev_var rfl) ev_int o2_addI) (by congr 1)) p))
    refine ex_seq (ex_ifp (b := decide (u = .wait) && (deedAt l here).clash (deedAt r there)) (et_and (et_test (ev_is (ev_eqW (ev_var rfl) u.word_ok ok_wait) (by rw [u.is_wait]))) fun _ => et_B (ev_dat (ea_two (ev_var rfl) (ev_var rfl)) ⟨_, _, rfl, rfl⟩)) (fun c => ?_) fun c => ?_)
    · rw [Bool.and_eq_true, decide_eq_true_iff] at c
      rw [if_pos c] at eF
      have hlt : here < l.length := Nat.lt_of_not_le fun z => by
        have := c.2
        rw [deedAt_out z] at this; cases this
      refine ex_drop (ef_do rfl (ev_int (i := ((0 : Nat) : Int))) (ev_var rfl) (by decide) go1 (hlow.up (by omega)) (cont (b' := b.act 0 (deedAt l here)) (there' := there) ?_))
      refine ⟨_, ?_, here + 1, there, beats + 1, n, _, _, _, rfl, by omega, (BN.act_mem _ _ _).trans hmem, (BN.act_low hlow _ _).up (by omega), by omega, ?_, rfl⟩
      · omega
      · rw [eF]; congr 1; omega
    · have c' : ¬ (u = .wait ∧ (deedAt l here).clash (deedAt r there) = true) := fun ⟨z1, z2⟩ => by
        rw [decide_eq_true z1, z2] at c; cases c
      rw [if_neg c'] at eF
      refine ex_seq (ex_drop (ef_beat rfl (ev_var rfl) (ev_var rfl) (ev_var rfl) go1 go2 hlow (by omega) ?_))
      refine ex_set (s := .d (.int ((there + 1 : Nat) : Int))) (ev_is (ev_op (ev_var rfl) ev_int o2_addI) (by congr 1)) (cont (b' := b.beat u (deedAt l here) (deedAt r there)) (there' := there + 1) ?_)
      refine ⟨_, ?_, here + 1, there + 1, beats + 1, n, _, _, _, rfl, by omega, (BN.beat_mem _ _ _ _).trans hmem, (BN.beat_low hlow _ _ _).up (by omega), by omega, ?_, rfl⟩
      · omega
      · rw [eF]; congr 1; omega
  · have hb' : (decide (here < l.length) || decide (there < r.length)) = false := by
      rw [Bool.or_eq_false_iff, decide_eq_false_iff_not, decide_eq_false_iff_not]; exact ⟨fun z => hb (.inl z), fun z => hb (.inr z)⟩
    rw [hb', if_neg Bool.false_ne_true]
    rw [List.drop_of_length_le (by omega), List.drop_of_length_le (by omega), runF_nil] at eF
    rw [eF] at ps
    refine ex_ret (ef_pair2 (lr2_bench B (s0 := encN b.s0) (s1 := encN b.s1) (mem := encN b.mem) rfl ev_int ev_int) (ea_two (ev_tupOf (lr_mem B (mem := encN b.mem) rfl)) (ev_is (y := .int ((0 + beats : Nat) : Int)) (ev_var rfl) (by rw [Nat.zero_add]))) ps (by show 2 ≤ 1000; decide) rfl)

/-! ### run -/
def t_run (K : PySem.W.Frag) (A : Ad) : TS :=
  (tSeq (tIfS (tTest (tOp (rNInA K) (tVar 0) (tC (.ref A.aRULES)))) tNever tNext)
    (tSeq (tDrop (tUser (sp_need_memory K A) (tCons (tVar 1) tNil)))
    (tSeq (tDrop (tUser (sp_need_both K A) (tCons (tCB (rLenA K) (tCons (tVar 1) tNil)) (tCons (tVar 2) (tCons (tVar 3) (tCons (tC (.int 40)) tNil))))))
    (tRet (tUser (sp_run_by K A) (tCons (tVar 0) (tCons (tVar 1) (tCons (tVar 2) (tCons (tVar 3) tNil)))))))))
def RulesOk (K : PySem.W.Frag) (A : Ad) : Prop := ∀ H, Rp K H (.ref A.aRULES) (.tuple [.str wOld, .str wNew, .str wLeft, .str wRight, .str wWait])
def sp_run (K : PySem.W.Frag) (A : Ad) : Sp := pairSp K fun ds xs ys rest => ∃ (u : Rule) (mem : List Nat) (l r : List Deed), ds = [.str u.word, .tuple (encN mem), encP l, encP r] ∧ MemOk mem ∧ GoodP mem.length l ∧ GoodP mem.length r ∧ l.length ≤ 40 ∧ r.length ≤ 40 ∧
  xs = encN (runOf u mem l r).1.s0 ∧ ys = encN (runOf u mem l r).1.s1 ∧ rest = [.tuple (encN (runOf u mem l r).1.mem), .int ((runOf u mem l r).2 : Nat)]
theorem rule_in (u : Rule) : inDt (.str u.word) [.str wOld, .str wNew, .str wLeft, .str wRight, .str wWait] = true := by
  unfold inDt
  simp only [List.any_cons, List.any_nil, eqv_str]
  cases u <;> decide +kernel
theorem rd_run {C : Cc} {A : Ad} {u : Rule} {mem : List Nat} {l r : List Deed} {s : Sl} (hR : RulesOk C.K A) (hm : MemOk mem) (hl : GoodP mem.length l) (hr : GoodP mem.length r) (l1 : l.length ≤ 40) (r1 : r.length ≤ 40)
    (ps : Psl C.K (encN (runOf u mem l r).1.s0) (encN (runOf u mem l r).1.s1) [.tuple (encN (runOf u mem l r).1.mem), .int ((runOf u mem l r).2 : Nat)] s) :
    Ex C (t_run C.K A) [.d (.str u.word), .d (.tuple (encN mem)), .d (encP l), .d (encP r)] { nx := fun _ => (Sl.d .none) = s, rt := fun s' _ => s' = s } := by
  refine ex_seq (ex_ifp (b := false) (et_test (ev_is (ev_op (ev_var rfl) (ev_const hR) (o2_ninT rfl rfl)) (by rw [rule_in]; rfl))) (fun z => nomatch z) fun _ => ex_next ?_)
  refine ex_seq (ex_drop (ef_d (ev_dat (x := .none) (ea_one (ev_var rfl)) ⟨mem, rfl, hm, rfl⟩) ?_))
  refine ex_seq (ex_drop (ef_d (ev_dat (x := .none) (ea_cons (ev_call (ea_one (ev_var rfl)) (on_lenT (ds := encN mem))) (ea_cons (ev_var rfl) (ea_two (ev_var rfl) (ev_int (i := ((40 : Nat) : Int)))))) ⟨mem.length, 40, l, r, by rw [encN_len'], hl, hr, l1, r1, rfl⟩) ?_))
  exact ex_ret (ef_p (ev_prs (ea_cons (ev_var rfl) (ea_cons (ev_var rfl) (ea_two (ev_var rfl) (ev_var rfl)))) ⟨u, mem, l, r, rfl, hl, hr, by omega, by omega, rfl, rfl, rfl⟩ ps) rfl)
end DL
set_option Elab.async false
set_option linter.all false
set_option maxRecDepth 100000
set_option maxHeartbeats 4000000
/-! DT: sorted of a text, of texts, of any length. -/
namespace DL
open PySem PySem.Spec PyProof.Rows L2 SrtO
section
variable {prog : Program} {w : World} {A : Around} {E : Value → Shared → Prop} {s : Shared}
theorem collect_str {x : Str} {t : Tok} {Q : List Value → Shared → Prop} (hh : A.handled = none) (hn : x.cps.size ≤ sizeLine)
    (h : ∀ h' tk (acc : Array Value), (∀ b o, s.heap.get? b = some o → h'.get? b = some o) → ItemsOf (SignAt x) acc x.cps.size → Q acc.toList { s with heap := h', toks := tk }) :
    wpAny (model prog w) A (collect (.str x t)) Q E s := by
  unfold collect
  refine wpAny_bind (wpAny_runValue (codeAny_builtin entry_proto_collect' ?_))
  show wpAny _ _ (do again (.builtin "list.__iadd__" ⟨[← newList [], .str x t], []⟩)) _ _ s
  refine wpAny_bind (wpAny_newList (wpAny_pure ⟨Code.quiet_builtin _ (by decide +kernel), codeAny_builtin entry_list_iadd' ?_⟩))
  show wpAny _ _ (Builtin.List.listExtendWith (.ref s.heap.objs.size) (.str x t) (.ref s.heap.objs.size)) _ _ { s with heap := s.heap.push (seqObj "list" #[] 0) }
  refine wpAny_extend_str (A := A) (R := fun r s' => match r with
    | .ok (.ret v) => wpAny (model prog w) A (match v with
      | .ref a => do
        let o ← load a
        match o.data with
        | .seq xs _ => pure xs.toList
        | _ => unsupported "internal:collect"
      | _ => unsupported "internal:collect") Q E s'
    | .ok _ => False
    | .error e => E e s') (s := { s with heap := s.heap.push (seqObj "list" #[] 0) }) hh x t s.heap.objs.size (.ref s.heap.objs.size) 0 (Heap.get?_push_size _ rfl) (fun h' tk acc c' hk hS' hacc => ?_) hn
  show wpAny (model prog w) A (do
      let o ← load s.heap.objs.size
      match o.data with
      | .seq xs _ => pure xs.toList
      | _ => unsupported "internal:collect") Q E { s with heap := h', toks := tk }
  refine wpAny_bind (wpAny_load hS' ?_)
  show wpAny _ _ (pure acc.toList) Q E _
  exact wpAny_pure (h h' tk acc (fun b o e => hk b o (Nat.ne_of_lt (Heap.lt_size e)) (Heap.get?_push_of_some _ e)) hacc)
def sv : Value → List Nat
  | .str x _ => x.cps.toList
  | _ => []
def ltSv (v u : Value) : Bool := decide (sv v < sv u)
theorem swo_sv : Swo ltSv := by
  refine ⟨fun x y h => ?_, fun x y z h1 h2 => ?_⟩
  · exact decide_eq_false (List.lt_asymm (of_decide_eq_true h))
  · have h1 := of_decide_eq_false h1
    have h2 := of_decide_eq_false h2
    refine decide_eq_false fun h3 => ?_
    rw [List.not_lt] at h1 h2
    exact (List.not_lt.mpr (List.le_trans h1 h2)) h3
theorem strs_cmp {κs : Shared} {vs : List Value} {ss : List Str} (hS : StrsAre vs ss) : Cmp prog w A κs oneType' (fun p => p.1 ∈ vs) (lt2 ltSv) := by
  intro p q hm hm'
  obtain ⟨a, t, e⟩ := hS.all _ hm
  obtain ⟨b, u, e'⟩ := hS.all _ hm'
  show wpAny (model prog w) A (keyLt' oneType' p.1 q.1) (fun r s' => s' = κs ∧ r = ltSv p.1 q.1) (fun _ _ => False) κs
  rw [e, e', keyLt'_oneType]
  exact oneLt_str ⟨rfl, rfl⟩
theorem strs_sortable {κs : Shared} {a : Addr} {vs : List Value} {ss : List Str} (hS : StrsAre vs ss) (h2 : 2 ≤ vs.length) : SortableO prog w A κs a vs ltSv := by
  intro h' _
  refine ⟨oneType', fun Q E hq => ?_, strs_cmp hS⟩
  match vs, hS, h2 with
  | v1 :: v2 :: rest, hS, _ =>
    rw [keyKind_strs hS]
    exact wpAny_pure hq
  | [], _, h => exact absurd h (by decide)
  | [v], _, h => exact absurd h (by simp)
theorem strs_out {vs out : List Value} {ss : List Str} (hS : StrsAre vs ss) (hs : Srtd ltSv out) (hb : Stb ltSv out vs) : StrsAre out (out.map strOf) ∧ (out.map strOf).Perm ss ∧ (out.map strOf).Pairwise (fun a b => ¬ b.cps.toList < a.cps.toList) := by
  have hall : ∀ v ∈ out, ∃ x t, v = Value.str x t := fun v hv => hS.all v (hb.perm.mem_iff.mp hv)
  refine ⟨strsAre_map out hall, ?_, ?_⟩
  · have q := hb.perm.map strOf
    rw [hS.strs] at q
    exact q
  · refine List.pairwise_map.mpr ?_
    have : ∀ (l : List Value), (∀ v ∈ l, ∃ x t, v = Value.str x t) → Srtd ltSv l → l.Pairwise fun a b => ¬ (strOf b).cps.toList < (strOf a).cps.toList := fun l hl h => by
      induction l with
      | nil => exact .nil
      | cons v l ih =>
        obtain ⟨h1, h2⟩ := List.pairwise_cons.mp h
        refine .cons (fun u hu => ?_) (ih (fun z hz => hl z (List.mem_cons_of_mem _ hz)) h2)
        obtain ⟨a, t, ea⟩ := hl v List.mem_cons_self
        obtain ⟨b, t2, eb⟩ := hl u (List.mem_cons_of_mem _ hu)
        have := of_decide_eq_false (h1 u hu)
        subst ea; subst eb
        exact this
    exact this out hall hs
end
/-- sorted(x), x a text or a list of texts -/
def rSortTx (K : PySem.W.Frag) : List V → Hp → VK → Prop := fun vs H Q => ∃ (ss : List Str), ((∃ x : Str, vs = [V.str x] ∧ x.length ≤ sizeLine ∧ ss = signs x) ∨ (∃ a, vs = [V.ref a] ∧ SqL K H a (ss.map V.str))) ∧
  ∀ (ys : List Str) (p : Addr), ys.Perm ss → ys.Pairwise (fun a b => ¬ b.cps.toList < a.cps.toList) → H p = none → Q (.ref p) (upd H p (.lst (ys.map V.str)))
section
variable {X : Cx}
theorem cr_sortTx (hc : X.calm = true) : CallR X (.builtin "sorted") (rSortTx X.K) := by
  intro pins s σ H vs us Q I r h
  obtain ⟨ss, hx, q⟩ := h
  rcases hx with ⟨x, rfl, hz, rfl⟩ | ⟨a, rfl, hs⟩
  · obtain ⟨u, rfl, ru⟩ := vals1 r
    obtain ⟨t, rfl⟩ := ru
    refine Calls.call_function_entry kind_sorted plain_sorted entry_sorted (args_sorted1 _) ?_
    unfold Builtin.«sorted»
    refine wpAny_bind (m := checkCount "sorted" 1 1 _) (wpAny_pure ?_)
    refine wpAny_bind (collect_str (A := X.A.in1) (I.ok.hd hc) hz fun h' tk acc hk hacc => ?_)
    have I1 : Inv X pins σ H { s with heap := h', toks := tk } := I.kept hk
    have hS : StrsAre acc.toList (signs x) := by
      have hlen : acc.toList.length = (signs x).length := by rw [Array.length_toList, hacc.1]; simp [signs]
      refine strs_at hlen fun j v e => ?_
      obtain ⟨c, u, e1, e2⟩ := hacc.2 j v (by rw [← Array.getElem?_toList]; exact e)
      exact ⟨⟨#[c]⟩, u, by simp [signs, e1], e2⟩
    have hl : acc.toList.length ≤ sizeLine := by rw [Array.length_toList, hacc.1]; exact hz
    refine wpAny_bind (wpAny_newList ?_ hl)
    have hoL : (h'.push (seqObj "list" acc.toList.toArray 0)).get? h'.objs.size = some (seqObj "list" acc.toList.toArray 0) := Heap.get?_push_size _ rfl
    show wpAny _ _ _ _ _ { s with heap := h'.push (seqObj "list" acc.toList.toArray 0), toks := tk }
    refine wpAny_bind (wpAny_holding (wpAny_call_entry slot_list_sort ⟨_, hoL, rfl⟩ entry_list_sort (list_sort_ord (s := { s with heap := h'.push (seqObj "list" acc.toList.toArray 0), toks := tk }) swo_sv hoL hl (fun h2 => strs_sortable hS h2) fun out h1 h2 => ⟨_, rfl, ?_⟩) (args_list_sort _)))
    obtain ⟨k1, k2, k3⟩ := strs_out hS h1 h2
    obtain ⟨e', he'⟩ := PyProof.Rows.sortedHeap_at (vs := acc.toList) (out := out.toArray) hoL
    have hlen : ((out.map strOf).map V.str).length ≤ sizeLine := by
      rw [List.length_map, k2.length_eq]
      simp [signs]
      exact hz
    refine wpAny_pure ⟨_, rfl, .ref h'.objs.size, upd H h'.objs.size (.lst ((out.map strOf).map V.str)), I1.laid (t' := tk) (fun b u e => ?_) (Nat.le_refl _)
      (show ObjOk X.prog X.w _ _ _ (.lst ((out.map strOf).map V.str)) from ⟨hlen, out, e', vals_of_strs k1, he'⟩), rfl, q _ _ k2 k3 (I1.hok.fresh (Nat.le_refl _))⟩
    have hb : b < h'.objs.size := Heap.lt_size e
    rw [PyProof.Rows.sortedHeap_old (Nat.ne_of_lt hb) (by rw [size_push']; exact Nat.lt_succ_of_lt hb)]
    exact Heap.get?_push_of_some _ e
  · obtain ⟨its, rv, hl, hz⟩ := I.list hs
    rw [Vals.ref1 r]
    have hi := rv.strs
    refine SrtO.sorted_ord swo_sv hl.isList (by rw [← rv.length]; exact hz) (fun h2 h₁ a' _ _ => strs_sortable hi h2) fun out h1 h2 => ?_
    obtain ⟨k1, k2, k3⟩ := strs_out hi h1 h2
    obtain ⟨ep, he'⟩ := PyProof.Rows.sortedAll_at s.heap its out.toArray
    have hlen : ((out.map strOf).map V.str).length ≤ sizeLine := by
      rw [List.length_map, k2.length_eq]
      rw [List.length_map] at hz
      exact hz
    exact ⟨.ref _, upd H (s.heap.objs.size + 1) (.lst ((out.map strOf).map V.str)), I.laid (t' := s.toks) (fun _ _ => PyProof.Rows.sortedAll_old) (Nat.le_succ _) ⟨hlen, out, ep, vals_of_strs k1, he'⟩, rfl, q _ _ k2 k3 (I.hok.fresh (Nat.le_succ _))⟩
end
end DL
set_option Elab.async false
set_option linter.all false
set_option maxRecDepth 100000
set_option maxHeartbeats 4000000
/-! DU: texts: methods, sorted, the signs of an order; pop. -/
namespace DL
open PySem PySem.Spec PyProof.Rows L2

/-! ### methods of a text -/
abbrev r_count : V → List V → Hp → VK → Prop := fun x xs H Q => ∃ a b, x = .str a ∧ xs = [.str b] ∧ Q (.int (Txt.count a b)) H
abbrev r_split : V → List V → Hp → VK → Prop := fun x xs H Q => ∃ a b, x = .str a ∧ xs = [.str b] ∧ (b.length == 0) = false ∧ a.length + 2 ≤ sizeLine ∧ rNewStrs (Txt.split a b) H Q
section
variable {C : Cc} {ρ : List Sl} {te to : TE} {tA : TA} {xs ys : List D} {a b : Str} {s : Sl} {r : V → List V → Hp → VK → Prop} {K : PySem.W.Frag} {P : Sl → List Sl → Prop}
theorem ev_bmS (ho : PD C to ρ (.str a)) (ha : PEvA C tA ρ xs) (hr : OpM C.K r (.str a) xs s) : PEv C (tBM C.K "str" r to tA) ρ s := fun σ Hb H fp W Q q =>
  ho σ Hb H fp W _ fun v Hb1 H1 _ t1 ⟨_, e1, h1⟩ _ => by
    cases e1; cases h1
    exact ⟨rfl, ha σ Hb1 H1 fp (W.step t1) _ fun vs Hb2 H2 t2 hvs => hr Hb2 H2 _ vs Q t2.s (.str a) hvs ((q.after t1).after t2)⟩
theorem om_count : OpM K r_count (.str a) [.str b] (.d (.int (Txt.count a b))) := fun Hb H v vs Q sm hx hv q => by
  cases hx
  cases hv with
  | cons h1 h2 =>
    cases h2; cases h1
    exact ⟨a, b, rfl, rfl, q.flat sm (.int _)⟩
/-- xs.pop(e) -/
theorem ef_pop {i : Nat} (hi : ρ[i]? = some (own C.K xs)) (h : Ev C te ρ fun s ρ1 => ∃ n k ys x, s = .d (.int n) ∧ ρ1[i]? = some (own C.K ys) ∧ -(2 ^ 63) ≤ n ∧ n < 2 ^ 63 ∧ seqIndex? n ys.length = some k ∧ ys[k]? = some x ∧ P (.d x) (ρ1.set i (own C.K (ys.eraseIdx k)))) :
    Ev C (tBM C.K "list" rPopAt (tVar i) (tCons te tNil)) ρ P := fun σ Hb H fp W q Q => by
  obtain ⟨v, ev, a, vs, rfl, ef, ha, hv⟩ := W.owns hi
  refine ⟨.ref a, ev, .inl ⟨rfl, vs, .of ha⟩, h σ Hb H fp W _ fun y s ρ1 Hb1 H1 fp1 fv sm G ⟨n, k, ys, x, e, h1, l1, l2, hk, hx, p⟩ => ?_⟩
  subst e
  have W1 := G.env
  have hy := G.data
  cases hy
  obtain ⟨v1, ev1, a1, us, rfl, ef1, ha1, hv1⟩ := W1.owns h1
  rw [ev] at ev1; cases ev1
  obtain ⟨w, hw, rw_⟩ := hv1.get hx
  refine ⟨a, us, n, k, w, rfl, rfl, ha1, l1, l2, by rw [hv1.length]; exact hk, hw, ?_⟩
  have ma : a ∈ fp1 i := by rw [ef1]; exact List.mem_singleton.mpr rfl
  obtain ⟨W2, fr⟩ := W1.put (r := Res.lst C.K (ys.eraseIdx k)) (o := .lst (us.eraseIdx k)) ev ma ⟨a, us.eraseIdx k, rfl, ef1, upd_same, hv1.eraseIdx k⟩
  exact Q w (.d x) _ Hb1 _ _ [] ((sm.vtrans fr).to fun b hb => hb.elim (fun z => nomatch z) id) ⟨W2, (show SlOk C.K Hb1 _ (some w) [] (.d x) from ⟨_, rfl, rw_⟩), fun _ z => nomatch z⟩ p
end

/-! ### sorted of a text -/
def one (c : Nat) : Str := ⟨#[c]⟩
def chD (c : Nat) : D := .str (one c)
def sortC (l : List Nat) : List Nat := l.mergeSort fun a b => decide (a ≤ b)
theorem one_lt {c d : Nat} : (one c).cps.toList < (one d).cps.toList ↔ c < d := by
  show [c] < [d] ↔ c < d
  rw [List.cons_lt_cons_iff]
  constructor
  · rintro (h | ⟨_, h⟩)
    · exact h
    · exact absurd h (List.lt_irrefl [])
  · exact .inl
theorem sortC_pair (l : List Nat) : (sortC l).Pairwise (fun a b => a ≤ b) := by
  have := List.pairwise_mergeSort (le := fun (a b : Nat) => decide (a ≤ b)) (fun a b c h1 h2 => by
    have h1 := of_decide_eq_true h1
    have h2 := of_decide_eq_true h2
    exact decide_eq_true (Nat.le_trans h1 h2)) (fun a b => by
    rw [Bool.or_eq_true, decide_eq_true_iff, decide_eq_true_iff]; omega) l
  exact this.imp fun h => of_decide_eq_true h
theorem sortC_perm (l : List Nat) : (sortC l).Perm l := List.mergeSort_perm _ _
theorem sortC_eq {l m : List Nat} (h : l.Perm m) : sortC l = sortC m :=
  List.Perm.eq_of_pairwise (le := fun a b => a ≤ b) (fun a b _ _ h1 h2 => Nat.le_antisymm h1 h2) (sortC_pair l) (sortC_pair m) (((sortC_perm l).trans h).trans (sortC_perm m).symm)
theorem sorted_uniq {x : Str} {ys : List Str} (hp : ys.Perm (signs x)) (hs : ys.Pairwise fun a b => ¬ b.cps.toList < a.cps.toList) : ys = (sortC x.cps.toList).map one := by
  have es : signs x = x.cps.toList.map one := rfl
  have hp2 : ys.Perm ((sortC x.cps.toList).map one) := by
    rw [es] at hp
    exact hp.trans ((sortC_perm x.cps.toList).map one).symm
  refine List.Perm.eq_of_pairwise (le := fun a b => ¬ b.cps.toList < a.cps.toList) (fun a b ha hb h1 h2 => ?_) hs ?_ hp2
  · obtain ⟨c, _, rfl⟩ := List.mem_map.mp (hp2.mem_iff.mp ha)
    obtain ⟨d, _, rfl⟩ := List.mem_map.mp hb
    rw [one_lt] at h1 h2
    have : c = d := by omega
    rw [this]
  · refine List.pairwise_map.mpr ((sortC_pair _).imp fun {a b} h => ?_)
    rw [one_lt]
    omega
theorem chs_rp {K : PySem.W.Frag} {H : Hp} : ∀ l : List Nat, RpAll K H ((l.map one).map V.str) (l.map chD)
  | [] => .nil
  | c :: l => .cons (.str _) (chs_rp l)
theorem on_sortS {K : PySem.W.Frag} {x : Str} (hz : x.length ≤ 10000000) : OpN K (rSortTx K) [.str x] (.d (.list ((sortC x.cps.toList).map chD))) := fun Hb H vs Q sm h q => by
  cases h with
  | cons h1 h2 =>
    cases h2; cases h1
    refine ⟨signs x, .inl ⟨x, rfl, sz hz, rfl⟩, fun ys p hp hs hn => ?_⟩
    rw [sorted_uniq hp hs]
    exact dat_new q sm hn (chs_rp _)

/-! ### orders -/
def sgn (b : Bool) : Nat := if b then 114 else 108
def ordS (os : List Bool) : Str := ⟨(os.map sgn).toArray⟩
theorem ordS_nil : ("" : Str) = ordS [] := by decide +kernel
theorem lit_l : ("l" : Str) = one 108 := by decide +kernel
theorem lit_r : ("r" : Str) = one 114 := by decide +kernel
theorem ordS_app (a b : List Bool) : ordS a ++ ordS b = ordS (a ++ b) := by
  show Str.mk ((a.map sgn).toArray ++ (b.map sgn).toArray) = _
  unfold ordS
  rw [List.map_append]
  simp
theorem ordS_one (b : Bool) : one (sgn b) = ordS [b] := rfl
theorem ordS_len (a : List Bool) : (ordS a).length = a.length := by
  show (a.map sgn).toArray.size = _
  simp
theorem ordS_list (a : List Bool) : (ordS a).cps.toList = a.map sgn := by
  show (a.map sgn).toArray.toList = _
  simp
theorem fold_rep (c : Nat) : ∀ (m : Nat) (acc : Array Nat), (List.replicate m (#[c] : Array Nat)).foldl (· ++ ·) acc = acc ++ (List.replicate m c).toArray
  | 0, acc => by simp
  | m + 1, acc => by
    rw [List.replicate_succ, List.foldl_cons, fold_rep c m, List.replicate_succ]
    apply Array.toList_inj.mp
    simp
theorem mul_one (b : Bool) (m : Nat) : Txt.mul (one (sgn b)) (m : Nat) = ordS (List.replicate m b) := by
  unfold Txt.mul
  by_cases h0 : m = 0
  · subst h0
    rw [if_pos (by decide)]
    rfl
  rw [if_neg (by omega)]
  by_cases h1 : m = 1
  · subst h1
    rw [if_pos (by simp)]
    rfl
  have e1 : (((m : Nat) : Int) == 1) = false := beq_eq_false_iff_ne.mpr (by omega)
  have e2 : ((one (sgn b)).length == 0) = false := by rfl
  rw [if_neg (by rw [e1, e2]; simp)]
  have e3 : ((m : Nat) : Int).toNat = m := by omega
  show Str.mk ((List.replicate ((m : Nat) : Int).toNat (#[sgn b] : Array Nat)).foldl (· ++ ·) #[]) = _
  rw [e3, fold_rep]
  unfold ordS
  rw [List.map_replicate]
  simp
theorem mulOk_one (c : Nat) {m : Nat} (h : m ≤ 100000) : MulOk (one c) (m : Nat) := by
  refine ⟨?_, fun _ _ => ?_, fun _ _ => ?_⟩
  · rw [decide_eq_false (by omega), decide_eq_false (by omega)]; rfl
  · have e : (((one c).length : Nat) : Int) = 1 := rfl
    rw [e]
    have h1 : (1 : Int) ≤ (2 ^ 63 - 1) / ((m : Nat) : Int) := by
      refine (Int.le_ediv_iff_mul_le (by omega)).mpr ?_
      omega
    omega
  · have e : (one c).length = 1 := rfl
    have e3 : ((m : Nat) : Int).toNat = m := by omega
    rw [e, e3, Nat.one_mul]
    unfold Builtin.Str.tooLong
    exact decide_eq_false (by rw [sizeLine_eq]; omega)
theorem o2_mulS {K : PySem.W.Frag} {b : Bool} {m : Nat} (h : m ≤ 100000) : Op2 K rMulA (.str (one (sgn b))) (.int (m : Nat)) (.d (.str (ordS (List.replicate m b)))) := fun Hb H v u Q sm hx hy q => by
  cases hx; cases hy
  refine .inr (.inr ⟨_, _, rfl, rfl, mulOk_one _ h, ?_⟩)
  rw [mul_one]
  exact q.flat sm (.str _)
theorem cnt_sgn (b : Bool) : ∀ os : List Bool, cnt (sgn b) (os.map sgn) = (os.count b : Nat)
  | [] => rfl
  | o :: os => by
    rw [List.map_cons, cnt_cons, cnt_sgn b os, List.count_cons]
    cases b <;> cases o <;> simp [sgn] <;> omega
theorem count_ordS (os : List Bool) (b : Bool) : Txt.count (ordS os) (one (sgn b)) = ((os.count b : Nat) : Int) := by
  show Txt.count (ordS os) ⟨#[sgn b]⟩ = _
  rw [count_cnt, ordS_list, cnt_sgn]
theorem eq_r (b : Bool) : (one (sgn b) == ("r" : Str)) = b := by cases b <;> decide +kernel
theorem one_ok (b : Bool) : PyData.strOk (one (sgn b)) = true := by cases b <;> decide +kernel
theorem ok_r : PyData.strOk ("r" : Str) = true := by decide +kernel
theorem sign_at {os : List Bool} {i : Nat} (h : i < os.length) : signsOf (ordS os) i = .str (one (sgn os[i])) := by
  unfold signsOf
  have : (ordS os).cps.getD i 0 = sgn os[i] := by
    rw [Array.getD_eq_getD_getElem?]
    show ((os.map sgn).toArray[i]?).getD 0 = _
    simp [h]
  rw [this]; rfl
theorem ordS_at {os : List Bool} {i : Nat} (h : i < os.length) : atI (ordS os).cps.toList (i : Nat) = some (sgn os[i]) := atI_nat (by
  rw [ordS_list, List.getElem?_map, List.getElem?_eq_getElem h]; rfl)
end DL
set_option Elab.async false
set_option linter.all false
set_option maxRecDepth 100000
set_option maxHeartbeats 4000000
/-! DV: ordered; the law's _law_memory, _law_order. -/
namespace DL
open PySem PySem.Spec L2

section
variable {C : Cc} {ρ : List Sl}
theorem ev_l : PD C (tC (.str "l")) ρ (.str (one (sgn false))) := ev_is ev_str (congrArg PyData.str lit_l)
theorem ev_r : PD C (tC (.str "r")) ρ (.str (one (sgn true))) := ev_is ev_str (congrArg PyData.str lit_r)
/-- 'l' * len(a) + 'r' * len(b) -/
theorem ev_lr {i j : Nat} {l r : List Deed} (hi : ρ[i]? = some (.d (encP l))) (hj : ρ[j]? = some (.d (encP r))) (h1 : l.length ≤ 1000) (h2 : r.length ≤ 1000) :
    PD C (tOp (rAddA C.K) (tOp rMulA (tC (.str "l")) (tCB (rLenA C.K) (tCons (tVar i) tNil))) (tOp rMulA (tC (.str "r")) (tCB (rLenA C.K) (tCons (tVar j) tNil)))) ρ (.str (ordS (List.replicate l.length false ++ List.replicate r.length true))) := by
  have e1 : (encs l).length = l.length := encs_len l
  have e2 : (encs r).length = r.length := encs_len r
  refine ev_is (ev_op (ev_op ev_l (ev_call (ea_one (ev_var hi)) (on_lenL (ds := encs l))) (by rw [e1]; exact o2_mulS (by omega))) (ev_op ev_r (ev_call (ea_one (ev_var hj)) (on_lenL (ds := encs r))) (by rw [e2]; exact o2_mulS (by omega))) (o2_addS ?_)) ?_
  · rw [ordS_len, ordS_len, List.length_replicate, List.length_replicate]; omega
  · rw [ordS_app]
end

/-! ### what is done by an order -/
structure OS where
  b : BN
  i : Nat
  j : Nat
def OS.step (l r : List Deed) (s : OS) (o : Bool) : OS := if o = true then ⟨s.b.act 1 (deedAt r s.j), s.i, s.j + 1⟩ else ⟨s.b.act 0 (deedAt l s.i), s.i + 1, s.j⟩
def ordTo (mem : List Nat) (l r : List Deed) (os : List Bool) : OS := os.foldl (OS.step l r) ⟨⟨mem, [], []⟩, 0, 0⟩
def ordOf (mem : List Nat) (l r : List Deed) (os : List Bool) : BN := (ordTo mem l r os).b
def encO (b : BN) : D := .tuple [.tuple (encN b.s0), .tuple (encN b.s1), .tuple (encN b.mem)]
theorem ordTo_snoc (mem : List Nat) (l r : List Deed) (os : List Bool) (o : Bool) : ordTo mem l r (os ++ [o]) = OS.step l r (ordTo mem l r os) o := by
  unfold ordTo; rw [List.foldl_append]; rfl
theorem ordTo_take {mem : List Nat} {l r : List Deed} {os : List Bool} {k : Nat} (h : k < os.length) : ordTo mem l r (os.take (k + 1)) = OS.step l r (ordTo mem l r (os.take k)) os[k] := by
  rw [List.take_succ_eq_append_getElem h, ordTo_snoc]
theorem foldl_ij (l r : List Deed) : ∀ (os : List Bool) (s : OS), (os.foldl (OS.step l r) s).i = s.i + os.count false ∧ (os.foldl (OS.step l r) s).j = s.j + os.count true ∧ (os.foldl (OS.step l r) s).b.mem.length = s.b.mem.length ∧ ∀ n, s.b.Low n → (os.foldl (OS.step l r) s).b.Low (n + os.length)
  | [], s => ⟨rfl, rfl, rfl, fun n h => h⟩
  | o :: os, s => by
    obtain ⟨h1, h2, h3, h4⟩ := foldl_ij l r os (OS.step l r s o)
    rw [List.foldl_cons, h1, h2, h3]
    cases o with
    | true => exact ⟨by simp [OS.step], by simp [OS.step]; omega, by simp [OS.step, BN.act_mem], fun n h => (h4 (n + 1) (BN.act_low h _ _)).up (by rw [List.length_cons]; omega)⟩
    | false => exact ⟨by simp [OS.step]; omega, by simp [OS.step], by simp [OS.step, BN.act_mem], fun n h => (h4 (n + 1) (BN.act_low h _ _)).up (by rw [List.length_cons]; omega)⟩
theorem ordTo_i (mem : List Nat) (l r : List Deed) (os : List Bool) : (ordTo mem l r os).i = os.count false := by have := (foldl_ij l r os ⟨⟨mem, [], []⟩, 0, 0⟩).1; unfold ordTo; rw [this, Nat.zero_add]
theorem ordTo_j (mem : List Nat) (l r : List Deed) (os : List Bool) : (ordTo mem l r os).j = os.count true := by have := (foldl_ij l r os ⟨⟨mem, [], []⟩, 0, 0⟩).2.1; unfold ordTo; rw [this, Nat.zero_add]
theorem ordTo_mem (mem : List Nat) (l r : List Deed) (os : List Bool) : (ordTo mem l r os).b.mem.length = mem.length := (foldl_ij l r os ⟨⟨mem, [], []⟩, 0, 0⟩).2.2.1
theorem ordTo_low (mem : List Nat) (l r : List Deed) (os : List Bool) : (ordTo mem l r os).b.Low os.length := ((foldl_ij l r os ⟨⟨mem, [], []⟩, 0, 0⟩).2.2.2 0 ⟨Nat.le_refl _, Nat.le_refl _⟩).up (by omega)
/-- an order of both programs -/
def OrdOk (l r : List Deed) (os : List Bool) : Prop := os.count false = l.length ∧ os.count true = r.length
theorem count_tot (os : List Bool) : os.count false + os.count true = os.length := by
  induction os with
  | nil => rfl
  | cons o os ih => cases o <;> simp <;> omega
theorem OrdOk.len {l r : List Deed} {os : List Bool} (h : OrdOk l r os) : os.length = l.length + r.length := by rw [← count_tot, h.1, h.2]
theorem OrdOk.lt {l r : List Deed} {os : List Bool} (h : OrdOk l r os) {k : Nat} (hk : k < os.length) : (os[k] = false → (os.take k).count false < l.length) ∧ (os[k] = true → (os.take k).count true < r.length) := by
  have e : os = os.take k ++ os[k] :: os.drop (k + 1) := by rw [← List.drop_eq_getElem_cons hk, List.take_append_drop]
  have c1 := congrArg (List.count false) e
  have c2 := congrArg (List.count true) e
  rw [List.count_append, List.count_cons] at c1 c2
  rw [h.1] at c1
  rw [h.2] at c2
  constructor
  · intro hf; rw [hf] at c1; simp at c1; omega
  · intro hf; rw [hf] at c2; simp at c2; omega
/-! ### ordered_by -/
def t_ordered_by (K : PySem.W.Frag) (A : Ad) : TS :=
  (tSeq (tAsg (tMake A.aBench (sp_Bench_init K A) [] E0 (tCons (tVar 0) tNil)) (gName 4))
    (tSeq (tAsg (tLst (tCons (tC (.int 0)) (tCons (tC (.int 0)) tNil))) (gName 5))
    (tSeq (tFor (iStr (tVar 3)) (gName 6) (tSeq (tAsg (tCB (rIntA) (tCons (tOp (rEqD K) (tVar 6) (tC (.str "r"))) tNil)) (gName 7))
    (tSeq (tDrop (tMeth A.aBench "do" (sp_Bench_do K A) [] E0 (tVar 4) (tCons (tVar 7) (tCons (tOp (rIx K) (tOp (rIx K) (tTup (tCons (tVar 1) (tCons (tVar 2) tNil))) (tVar 7)) (tOp (rIx K) (tVar 5) (tVar 7))) tNil))))
    (tAsg (tOp (rAddA K) (tOp (rIx K) (tVar 5) (tVar 7)) (tC (.int 1))) (gSub (tVar 5) (tVar 7) rSetL)))))
    (tRet (tTup (tCons (tCB (rTupleA K) (tCons (tOp (rIx K) (tFld K (tVar 4) "seen") (tC (.int 0))) tNil)) (tCons (tCB (rTupleA K) (tCons (tOp (rIx K) (tFld K (tVar 4) "seen") (tC (.int 1))) tNil)) (tCons (tCB (rTupleA K) (tCons (tFld K (tVar 4) "memory") tNil)) tNil))))))))
def ordRel (ds : List D) (x : D) : Prop := ∃ (mem : List Nat) (l r : List Deed) (os : List Bool), ds = [.tuple (encN mem), encP l, encP r, .str (ordS os)] ∧ GoodP mem.length l ∧ GoodP mem.length r ∧ l.length ≤ 1000 ∧ r.length ≤ 1000 ∧ OrdOk l r os ∧ x = encO (ordOf mem l r os)
def sp_ordered_by (K : PySem.W.Frag) (A : Ad) : Sp := datSp K ordRel
theorem door_int {C : Cc} {ρ : List Sl} {te : TE} {b : Bool} (h : PD C te ρ (.str (one (sgn b)))) : PD C (tCB rIntA (tCons (tOp (rEqD C.K) te (tC (.str "r"))) tNil)) ρ (.int (if b then 1 else 0)) :=
  ev_call (ea_one (ev_is (ev_eqW h (one_ok b) ok_r) (by rw [eq_r]))) on_intB
theorem rd_ordered_by {C : Cc} {A : Ad} {mem : List Nat} {l r : List Deed} {os : List Bool} (B : BenchOk C.K A) (hl : GoodP mem.length l) (hr : GoodP mem.length r) (l1 : l.length ≤ 1000) (r1 : r.length ≤ 1000) (ho : OrdOk l r os) :
    Ex C (t_ordered_by C.K A) [.d (.tuple (encN mem)), .d (encP l), .d (encP r), .d (.str (ordS os)), .no, .no, .no, .no] (retD (encO (ordOf mem l r os))) := by
  have lw : lowN = 1000000 := rfl
  have hlen := ho.len
  refine ex_seq (ex_asg (ef_bench (ev_var rfl) fun o => ?_))
  refine ex_seq (ex_set (s := own C.K (encN [0, 0])) (ev_lstO (ea_two ev_int ev_int)) ?_)
  refine ex_seq (ex_for (ei_str (ef_d (ev_var rfl) ⟨_, rfl, ⟨fun k ρ => ∃ s6 s7, ρ = [.d (.tuple (encN mem)), .d (encP l), .d (encP r), .d (.str (ordS os)), .ow (benchR C.K A o (ordTo mem l r (os.take k)).b), own C.K (encN [(ordTo mem l r (os.take k)).i, (ordTo mem l r (os.take k)).j]), s6, s7], ⟨_, _, rfl⟩, fun k ρ hk ⟨s6, s7, e⟩ => ?_, fun ρ ⟨s6, s7, e⟩ => ?_⟩⟩)))
  · subst e
    have hk : k < os.length := by
      have : (ordS os).cps.size = os.length := ordS_len os
      omega
    rw [sign_at hk]
    have ei := ordTo_i mem l r (os.take k)
    have ej := ordTo_j mem l r (os.take k)
    have em := ordTo_mem mem l r (os.take k)
    have elow := ordTo_low mem l r (os.take k)
    have et := ordTo_take (mem := mem) (l := l) (r := r) hk
    obtain ⟨k1, k2⟩ := ho.lt hk
    have lt : (os.take k).length ≤ os.length := by rw [List.length_take]; omega
    generalize ordTo mem l r (os.take k) = S at *
    refine eg_name ?_
    refine ex_seq (ex_set (door_int (ev_var rfl)) ?_)
    cases hb : os[k] with
    | false =>
      have hi : S.i < l.length := by rw [ei]; exact k1 hb
      refine ex_seq (ex_drop (ef_do (door := 0) (d := deedAt l S.i) rfl (ev_var rfl) (ev_op (ev_op (ev_tup (ea_two (ev_var rfl) (ev_var rfl))) (ev_var rfl) (o2_ixT (atI_nat (j := 0) rfl))) (ev_ixOf (xs := encN [S.i, S.j]) (lr_own rfl) (ev_var rfl) (atI_nat (j := 0) rfl)) (o2_ixL (encs_atI hi))) (by decide) (by rw [em]; exact deedAt_good hl _) (elow.up (by omega)) ?_))
      refine ex_six (xs := encN [S.i, S.j]) (k := 0) (lr_own rfl) (ev_is (y := .int ((S.i + 1 : Nat) : Int)) (ev_op (ev_ixOf (xs := encN [S.i, S.j]) (lr_own rfl) (ev_var rfl) (atI_nat (j := 0) rfl)) ev_int o2_addI) (by congr 1)) (ev_var rfl) rfl ⟨.d (.str (one (sgn false))), .d (.int 0), ?_⟩
      rw [et, hb]; rfl
    | true =>
      have hi : S.j < r.length := by rw [ej]; exact k2 hb
      refine ex_seq (ex_drop (ef_do (door := 1) (d := deedAt r S.j) rfl (ev_var rfl) (ev_op (ev_op (ev_tup (ea_two (ev_var rfl) (ev_var rfl))) (ev_var rfl) (o2_ixT (atI_nat (j := 1) rfl))) (ev_ixOf (xs := encN [S.i, S.j]) (lr_own rfl) (ev_var rfl) (atI_nat (j := 1) rfl)) (o2_ixL (encs_atI hi))) (by decide) (by rw [em]; exact deedAt_good hr _) (elow.up (by omega)) ?_))
      refine ex_six (xs := encN [S.i, S.j]) (k := 1) (lr_own rfl) (ev_is (y := .int ((S.j + 1 : Nat) : Int)) (ev_op (ev_ixOf (xs := encN [S.i, S.j]) (lr_own rfl) (ev_var rfl) (atI_nat (j := 1) rfl)) ev_int o2_addI) (by congr 1)) (ev_var rfl) rfl ⟨.d (.str (one (sgn true))), .d (.int 1), ?_⟩
      rw [et, hb]; rfl
  · subst e
    have : (ordS os).cps.size = os.length := ordS_len os
    rw [this, List.take_length]
    exact ex_ret (ef_d (ev_tup (ea_cons (ev_tupOf (lr_seen0 B rfl ev_int)) (ea_two (ev_tupOf (lr_seen1 B rfl ev_int)) (ev_tupOf (lr_mem B rfl))))) rfl)

/-! ### ordered -/
def t_ordered (K : PySem.W.Frag) (A : Ad) : TS :=
  (tSeq (tDrop (tUser (sp_need_memory K A) (tCons (tVar 0) tNil)))
    (tSeq (tDrop (tUser (sp_need_both K A) (tCons (tCB (rLenA K) (tCons (tVar 0) tNil)) (tCons (tVar 1) (tCons (tVar 2) (tCons (tC (.int 40)) tNil))))))
    (tSeq (tIfS (tTest (tOp (rNeD K) (tCB (rSortTx K) (tCons (tVar 3) tNil)) (tCB (rSortTx K) (tCons (tOp (rAddA K) (tOp rMulA (tC (.str "l")) (tCB (rLenA K) (tCons (tVar 1) tNil))) (tOp rMulA (tC (.str "r")) (tCB (rLenA K) (tCons (tVar 2) tNil)))) tNil)))) tNever tNext)
    (tRet (tUser (sp_ordered_by K A) (tCons (tVar 0) (tCons (tVar 1) (tCons (tVar 2) (tCons (tVar 3) tNil)))))))))
def sp_ordered (K : PySem.W.Frag) (A : Ad) : Sp := datSp K fun ds x => ∃ (mem : List Nat) (l r : List Deed) (os : List Bool), ds = [.tuple (encN mem), encP l, encP r, .str (ordS os)] ∧ MemOk mem ∧ GoodP mem.length l ∧ GoodP mem.length r ∧ l.length ≤ 40 ∧ r.length ≤ 40 ∧ OrdOk l r os ∧ x = encO (ordOf mem l r os)
theorem ord_perm {l r : List Deed} {os : List Bool} (h : OrdOk l r os) : os.Perm (List.replicate l.length false ++ List.replicate r.length true) := by
  rw [List.perm_iff_count]
  intro b
  rw [List.count_append, List.count_replicate, List.count_replicate]
  cases b with
  | false => rw [h.1]; simp
  | true => rw [h.2]; simp
theorem eqv_same {d : D} (h : SeqAt.shaped d = true) : PyData.eqv d d = true := SeqAt.eqv_refl d (by
  unfold SeqAt.shaped at h
  rw [Bool.and_eq_true] at h
  exact h.1)
theorem sh_chs {l : List Nat} (h : ∀ c ∈ l, ∃ b, c = sgn b) : SeqAt.shaped (.list (l.map chD)) = true := (shN.list (n := 0) fun d hd => by
  obtain ⟨c, hc, rfl⟩ := List.mem_map.mp hd
  obtain ⟨b, rfl⟩ := h c hc
  exact .str (one_ok b)).shaped
theorem rd_ordered {C : Cc} {A : Ad} {mem : List Nat} {l r : List Deed} {os : List Bool} (hm : MemOk mem) (hl : GoodP mem.length l) (hr : GoodP mem.length r) (l1 : l.length ≤ 40) (r1 : r.length ≤ 40) (ho : OrdOk l r os) :
    Ex C (t_ordered C.K A) [.d (.tuple (encN mem)), .d (encP l), .d (encP r), .d (.str (ordS os))] (retD (encO (ordOf mem l r os))) := by
  have hlen := ho.len
  refine ex_seq (ex_drop (ef_d (ev_dat (x := .none) (ea_one (ev_var rfl)) ⟨mem, rfl, hm, rfl⟩) ?_))
  refine ex_seq (ex_drop (ef_d (ev_dat (x := .none) (ea_cons (ev_call (ea_one (ev_var rfl)) (on_lenT (ds := encN mem))) (ea_cons (ev_var rfl) (ea_two (ev_var rfl) (ev_int (i := ((40 : Nat) : Int)))))) ⟨mem.length, 40, l, r, by rw [encN_len'], hl, hr, l1, r1, rfl⟩) ?_))
  have es : sortC (ordS os).cps.toList = sortC (ordS (List.replicate l.length false ++ List.replicate r.length true)).cps.toList := by
    rw [ordS_list, ordS_list]
    exact sortC_eq ((ord_perm ho).map sgn)
  have hsh : SeqAt.shaped (.list ((sortC (ordS os).cps.toList).map chD)) = true := sh_chs fun c hc => by
    have hc := (sortC_perm _).mem_iff.mp hc
    rw [ordS_list] at hc
    obtain ⟨b, _, rfl⟩ := List.mem_map.mp hc
    exact ⟨b, rfl⟩
  refine ex_seq (ex_ifp (b := false) (et_test (ev_is (ev_op (ev_call (ea_one (ev_var rfl)) (on_sortS (by rw [ordS_len]; omega))) (ev_call (ea_one (ev_lr rfl rfl (by omega) (by omega))) (on_sortS (by rw [ordS_len, List.length_append, List.length_replicate, List.length_replicate]; omega))) (o2_ne hsh (by rw [← es]; exact hsh))) (by rw [← es, eqv_same hsh]; rfl))) (fun z => nomatch z) fun _ => ex_next ?_)
  exact ex_ret (ef_d (ev_dat (ea_cons (ev_var rfl) (ea_cons (ev_var rfl) (ea_two (ev_var rfl) (ev_var rfl)))) ⟨mem, l, r, os, rfl, hl, hr, by omega, by omega, ho, rfl⟩) rfl)

/-! ### _law_memory -/
def t_law_memory (K : PySem.W.Frag) (A : Ad) : TS :=
  (tRet (tCB (rTupleA K) (tCons (tLc (iRng1 (tCons (tVar 1) tNil)) (gName 2) tYes (tUser (sp_law_next K A) (tCons (tVar 0) (tCons (tC (.int 3)) tNil))) [2]) tNil)))
def sp_law_memory (K : PySem.W.Frag) (A : Ad) : Sp := drawSp K (fun ds => ∃ n : Nat, ds = [.int (n : Nat)] ∧ n ≤ 1000) (fun ds x => ∃ (n : Nat) (mem : List Nat), ds = [.int (n : Nat)] ∧ mem.length = n ∧ (∀ w ∈ mem, w < 3) ∧ x = .tuple (encN mem))
theorem ef_memory {C : Cc} {ρ : List Sl} {A : Ad} {te : TE} {i n : Nat} {h : Addr} {P : Sl → List Sl → Prop} (hi : ρ[i]? = some (rnd h)) (he : PD C te ρ (.int (n : Nat))) (h1 : n ≤ 1000) (p : ∀ mem : List Nat, mem.length = n → (∀ w ∈ mem, w < 3) → P (.d (.tuple (encN mem))) ρ) :
    Ev C (tUser (sp_law_memory C.K A) (tCons (tVar i) (tCons te tNil))) ρ P :=
  ef_draw hi (fa_p (ea_one he) ⟨hi, ⟨n, rfl, h1⟩, fun d ⟨n', mem, e, h2, h3, ed⟩ => by
    obtain ⟨e1, _⟩ := int_inj e
    subst e1; subst ed
    exact p mem h2 h3⟩)
theorem rd_law_memory {C : Cc} {A : Ad} {h : Addr} {n : Nat} (hn : n ≤ 1000) : Ex C (t_law_memory C.K A) [rnd h, .d (.int (n : Nat)), .no]
    { nx := fun _ => False, rt := fun s ρ' => ∃ x, ∃ _ : Unit, s = .d x ∧ (∃ (n' : Nat) (mem : List Nat), [(.int (n : Nat) : D)] = [.int (n' : Nat)] ∧ mem.length = n' ∧ (∀ w ∈ mem, w < 3) ∧ x = .tuple (encN mem)) ∧ ρ'[0]? = some (rnd h) } := by
  have e0 : ((n : Nat) : Int).toNat = n := by omega
  refine ex_ret (ef_call (fa_cons (ef_lc (ei_rng1 (fa_p (ea_one (ev_var rfl)) ⟨_, rfl, by omega, by omega, ?_⟩)))))
  rw [e0]
  refine ⟨by omega, fun i acc ρ => ρ = [rnd h, .d (.int (n : Nat)), .no] ∧ ∃ l : List Nat, acc = encN l ∧ (∀ w ∈ l, w < 3) ∧ l.length = i, ⟨rfl, [], rfl, fun _ z => (nomatch z), rfl⟩, fun i acc ρ hi ⟨e, l, ea, hl, hlen⟩ => ?_, fun acc ρ ⟨e, l, ea, hl, hlen⟩ => ?_⟩
  · subst e
    refine ⟨_, gp_name (List.mem_singleton.mpr rfl), fun σ Hb H fp W Q q => ?_⟩
    refine q true _ Hb H fp .refl W ?_
    refine ef_next (n := 3) rfl ev_int (by decide) (by decide) fun w hw => ⟨_, rfl, rfl, l ++ [w], ?_, fun x hx => ?_, by rw [List.length_append, hlen]; rfl⟩
    · rw [ea, encN_app]
    · rcases List.mem_append.mp hx with z | z
      · exact hl x z
      · rw [List.mem_singleton.mp z]; exact hw
  · subst e
    refine ⟨_, .dat, _, rfl, fa_nil ⟨_, on_tupleL, _, (), rfl, ⟨n, l, rfl, hlen, hl, by rw [ea]⟩, rfl⟩⟩

/-! ### _law_order -/
def t_law_order (K : PySem.W.Frag) (A : Ad) : TS :=
  (tSeq (tAsg (tCB (rListA K) (tCons (tVar 0) tNil)) (gName 0))
    (tSeq (tAsg (tTup (tCons (tLst tNil) (tCons (tLst tNil) tNil))) (gName 4))
    (tSeq (tFor (iRng1 (tCons (tCB (rLenA K) (tCons (tVar 3) tNil)) tNil)) (gName 5) (tSeq (tAsg (tCB (rIntA) (tCons (tOp (rEqD K) (tOp (rIx K) (tVar 3) (tVar 5)) (tC (.str "r"))) tNil)) (gName 6))
    (tSeq (tAsg (tOp (rIx K) (tOp (rIx K) (tTup (tCons (tVar 1) (tCons (tVar 2) tNil))) (tVar 6)) (tBM K "str" r_count (tSl (rSlX K) (tVar 3) tNoPart (tPart (tVar 5))) (tCons (tOp (rIx K) (tVar 3) (tVar 5)) tNil))) (gName 7))
    (tSeq (tIfS (tTest (tOp (rEqD K) (tOp (rIx K) (tVar 7) (tC (.int 0))) (tC (.str "read")))) (tDrop (tBM K "list" rAppend (tOp (rIx K) (tVar 4) (tVar 6)) (tCons (tOp (rIx K) (tVar 0) (tOp (rIx K) (tVar 7) (tC (.int 1)))) tNil))) tNext)
    (tIfS (tTest (tOp (rEqD K) (tOp (rIx K) (tVar 7) (tC (.int 0))) (tC (.str "write")))) (tAsg (tOp (rIx K) (tVar 7) (tC (.int 2))) (gSub (tVar 0) (tOp (rIx K) (tVar 7) (tC (.int 1))) rSetL)) tNext)))))
    (tRet (tTup (tCons (tCB (rTupleA K) (tCons (tOp (rIx K) (tVar 4) (tC (.int 0))) tNil)) (tCons (tCB (rTupleA K) (tCons (tOp (rIx K) (tVar 4) (tC (.int 1))) tNil)) (tCons (tCB (rTupleA K) (tCons (tVar 0) tNil)) tNil))))))))
def sp_law_order (K : PySem.W.Frag) (A : Ad) : Sp := datSp K ordRel
theorem cut_ordS (os : List Bool) (k : Nat) : cutS (ordS os) none (some (k : Nat)) = ordS (os.take k) := by
  unfold cutS
  rw [HT.sIx_none, HT.sIx_nat, List.drop_zero, Nat.sub_zero, ordS_list, ordS_len]
  unfold ordS
  rw [List.map_take]
  by_cases h : k ≤ os.length
  · rw [Nat.min_eq_left h]
  · rw [Nat.min_eq_right (by omega), List.take_of_length_le (by rw [List.length_map]; exact Nat.le_refl _), List.take_of_length_le (by rw [List.length_map]; omega)]
/-- the law's own do, on a memory's list and two lists of what is seen -/
theorem ex_lawdo {C : Cc} {ρ : List Sl} {P : Po} {b : BN} {door : Nat} {d : Deed} {x1 x2 x3 x5 : Sl} (hd : door < 2) (hg : d.Good b.mem.length) (hl : b.Low lowN)
    (hρ : ρ = [own C.K (encN b.mem), x1, x2, x3, prs C.K (encN b.s0) (encN b.s1) [], x5, .d (.int (door : Nat)), .d d.enc])
    (p : P.nx [own C.K (encN (b.act door d).mem), x1, x2, x3, prs C.K (encN (b.act door d).s0) (encN (b.act door d).s1) [], x5, .d (.int (door : Nat)), .d d.enc]) :
    Ex C (tSeq (tIfS (tTest (tOp (rEqD C.K) (tOp (rIx C.K) (tVar 7) (tC (.int 0))) (tC (.str "read")))) (tDrop (tBM C.K "list" rAppend (tOp (rIx C.K) (tVar 4) (tVar 6)) (tCons (tOp (rIx C.K) (tVar 0) (tOp (rIx C.K) (tVar 7) (tC (.int 1)))) tNil))) tNext)
    (tIfS (tTest (tOp (rEqD C.K) (tOp (rIx C.K) (tVar 7) (tC (.int 0))) (tC (.str "write")))) (tAsg (tOp (rIx C.K) (tVar 7) (tC (.int 2))) (gSub (tVar 0) (tOp (rIx C.K) (tVar 7) (tC (.int 1))) rSetL)) tNext)) ρ P := by
  subst hρ
  have hl0 : (encN b.s0).length < 10000000 := by rw [encN_len']; have := hl.1; unfold lowN at this; omega
  have hl1 : (encN b.s1).length < 10000000 := by rw [encN_len']; have := hl.2; unfold lowN at this; omega
  cases d with
  | rest =>
    refine ex_seq (ex_ifp (et_test (ev_eqRead (d := .rest) (ev_var rfl))) (fun z => nomatch z) fun _ => ex_next ?_)
    exact ex_ifp (et_test (ev_eqWrite (d := .rest) (ev_var rfl))) (fun z => nomatch z) fun _ => ex_next p
  | read c =>
    have hg : c < b.mem.length := hg
    refine ex_seq (ex_ifp (et_test (ev_eqRead (d := .read c) (ev_var rfl))) (fun _ => ?_) fun z => nomatch z)
    have two : door = 0 ∨ door = 1 := by omega
    rcases two with e | e <;> subst e
    · refine ex_app (lr_pair0 (xs := encN b.s0) rfl (ev_var rfl)) (ev_ixOf (xs := encN b.mem) (lr_own rfl) (ev_c1 (d := .read c) (ev_var rfl) rfl) (encN_at hg)) hl0 ?_
      refine ex_ifp (et_test (ev_eqWrite (d := .read c) (ev_var rfl))) (fun z => nomatch z) fun _ => ex_next ?_
      rw [encN_app]; exact p
    · refine ex_app (lr_pair1 (ys := encN b.s1) rfl (ev_var rfl)) (ev_ixOf (xs := encN b.mem) (lr_own rfl) (ev_c1 (d := .read c) (ev_var rfl) rfl) (encN_at hg)) hl1 ?_
      refine ex_ifp (et_test (ev_eqWrite (d := .read c) (ev_var rfl))) (fun z => nomatch z) fun _ => ex_next ?_
      rw [encN_app]; exact p
  | write c w =>
    have hg : c < b.mem.length ∧ w < 3 := hg
    refine ex_seq (ex_ifp (et_test (ev_eqRead (d := .write c w) (ev_var rfl))) (fun z => nomatch z) fun _ => ex_next ?_)
    refine ex_ifp (et_test (ev_eqWrite (d := .write c w) (ev_var rfl))) (fun _ => ?_) fun z => nomatch z
    refine ex_six (xs := encN b.mem) (lr_own rfl) (ev_w2 (c := c) (w := w) (ev_var rfl)) (ev_c1 (d := .write c w) (ev_var rfl) rfl) (by rw [encN_len']; exact ixN_nat hg.1) ?_
    rw [encN_set]; exact p
theorem rd_law_order {C : Cc} {A : Ad} {mem : List Nat} {l r : List Deed} {os : List Bool} (hl : GoodP mem.length l) (hr : GoodP mem.length r) (l1 : l.length ≤ 1000) (r1 : r.length ≤ 1000) (ho : OrdOk l r os) :
    Ex C (t_law_order C.K A) [.d (.tuple (encN mem)), .d (encP l), .d (encP r), .d (.str (ordS os)), .no, .no, .no, .no] (retD (encO (ordOf mem l r os))) := by
  have lw : lowN = 1000000 := rfl
  have hlen := ho.len
  have hsl : (ordS os).length ≤ 10000000 := by rw [ordS_len]; omega
  refine ex_seq (ex_set (s := own C.K (encN mem)) (ev_call (ea_one (ev_var rfl)) (on_listT .own)) ?_)
  refine ex_seq (ex_set ev_pairNew ?_)
  refine ex_seq (ex_for (ei_p (pi_r1 (j := ((ordS os).length : Nat)) (ea_one (ev_call (ea_one (ev_var rfl)) (on_lenS hsl))) (by omega)) ⟨fun k ρ => ∃ s5 s6 s7, ρ = [own C.K (encN (ordTo mem l r (os.take k)).b.mem), .d (encP l), .d (encP r), .d (.str (ordS os)), prs C.K (encN (ordTo mem l r (os.take k)).b.s0) (encN (ordTo mem l r (os.take k)).b.s1) [], s5, s6, s7], ⟨_, _, _, rfl⟩, fun k ρ hk ⟨s5, s6, s7, e⟩ => ?_, fun ρ ⟨s5, s6, s7, e⟩ => ?_⟩))
  · subst e
    have hk : k < os.length := by rw [ordS_len] at hk; omega
    have ei := ordTo_i mem l r (os.take k)
    have ej := ordTo_j mem l r (os.take k)
    have em := ordTo_mem mem l r (os.take k)
    have elow := ordTo_low mem l r (os.take k)
    have et := ordTo_take (mem := mem) (l := l) (r := r) hk
    obtain ⟨k1, k2⟩ := ho.lt hk
    have lt : (os.take k).length ≤ os.length := by rw [List.length_take]; omega
    have ech : ∀ {ρ : List Sl}, ρ[3]? = some (.d (.str (ordS os))) → ρ[5]? = some (.d (.int (k : Nat))) → PD C (tOp (rIx C.K) (tVar 3) (tVar 5)) ρ (.str (one (sgn os[k]))) := fun e1 e2 => ev_op (ev_var e1) (ev_var e2) (o2_ixS hsl (ordS_at hk))
    have ecn : ∀ {ρ : List Sl}, ρ[3]? = some (.d (.str (ordS os))) → ρ[5]? = some (.d (.int (k : Nat))) → PD C (tBM C.K "str" r_count (tSl (rSlX C.K) (tVar 3) tNoPart (tPart (tVar 5))) (tCons (tOp (rIx C.K) (tVar 3) (tVar 5)) tNil)) ρ (.int (((os.take k).count os[k] : Nat) : Int)) := fun e1 e2 =>
      ev_is (ev_bmS (ev_is (ev_sl (ev_var e1) eo_no (eo_part (ev_var e2)) (os_str hsl)) (by rw [cut_ordS])) (ea_one (ech e1 e2)) om_count) (by rw [count_ordS])
    generalize ordTo mem l r (os.take k) = S at *
    refine eg_name ?_
    refine ex_seq (ex_set (door_int (ech rfl rfl)) ?_)
    cases hb : os[k] with
    | false =>
      have hi : S.i < l.length := by rw [ei]; exact k1 hb
      rw [hb, ← ei] at ecn
      refine ex_seq (ex_set (s := .d (deedAt l S.i).enc) (ev_op (ev_op (ev_tup (ea_two (ev_var rfl) (ev_var rfl))) (ev_var rfl) (o2_ixT (atI_nat (j := 0) rfl))) (ecn rfl rfl) (o2_ixL (encs_atI hi))) ?_)
      exact ex_lawdo (door := 0) (b := S.b) (d := deedAt l S.i) (by decide) (by rw [em]; exact deedAt_good hl _) (elow.up (by omega)) rfl ⟨.d (.int (k : Nat)), .d (.int 0), .d (deedAt l S.i).enc, by rw [et, hb]; rfl⟩
    | true =>
      have hi : S.j < r.length := by rw [ej]; exact k2 hb
      rw [hb, ← ej] at ecn
      refine ex_seq (ex_set (s := .d (deedAt r S.j).enc) (ev_op (ev_op (ev_tup (ea_two (ev_var rfl) (ev_var rfl))) (ev_var rfl) (o2_ixT (atI_nat (j := 1) rfl))) (ecn rfl rfl) (o2_ixL (encs_atI hi))) ?_)
      exact ex_lawdo (door := 1) (b := S.b) (d := deedAt r S.j) (by decide) (by rw [em]; exact deedAt_good hr _) (elow.up (by omega)) rfl ⟨.d (.int (k : Nat)), .d (.int 1), .d (deedAt r S.j).enc, by rw [et, hb]; rfl⟩
  · subst e
    have e1 : ((ordS os).length : Int).toNat = os.length := by rw [ordS_len]; omega
    rw [e1, List.take_length]
    exact ex_ret (ef_d (ev_tup (ea_cons (ev_tupOf (lr_pair0 rfl ev_int)) (ea_two (ev_tupOf (lr_pair1 rfl ev_int)) (ev_tupOf (lr_own rfl))))) rfl)
end DL
set_option Elab.async false
set_option linter.all false
set_option maxRecDepth 100000
set_option maxHeartbeats 4000000
/-! DW: a dict display, asked at once; _law_beat, _law_run. -/
namespace DL
open PySem PySem.Spec L2

/-! ### {..}[k] -/
theorem putK_new {kvs : List (Key × V)} {k : Key} {v : V} (h : k ∉ kvs.map (·.1)) : putK kvs k v = kvs ++ [(k, v)] := by
  unfold putK
  rw [if_neg]
  intro z
  rw [List.any_eq_true] at z
  obtain ⟨p, hp, e⟩ := z
  have e := of_decide_eq_true e
  exact h (e ▸ List.mem_map.mpr ⟨p, hp, rfl⟩)
theorem mergeK_new : ∀ (more acc : List (Key × V)), (acc.map (·.1) ++ more.map (·.1)).Nodup → mergeK acc more = acc ++ more
  | [], acc, _ => by rw [List.append_nil]; rfl
  | p :: more, acc, h => by
    show mergeK (putK acc p.1 p.2) more = _
    rw [List.map_cons] at h
    have hp : p.1 ∉ acc.map (·.1) := fun z => by
      rw [List.nodup_append] at h
      exact h.2.2 _ z _ List.mem_cons_self rfl
    rw [putK_new hp, mergeK_new more (acc ++ [(p.1, p.2)]) (by rw [List.map_append, List.append_assoc]; exact h), List.append_assoc]
    rfl
theorem valV_at : ∀ {kvs : List (Key × V)} {i : Nat} {k : Key} {v : V}, (kvs.map (·.1)).Nodup → kvs[i]? = some (k, v) → valV kvs k = some v
  | [], _, _, _, _, h => by simp at h
  | p :: kvs, 0, k, v, _, h => by
    have e : p = (k, v) := by simpa using h
    subst e
    exact valV_pos rfl
  | p :: kvs, i + 1, k, v, hn, h => by
    rw [List.map_cons, List.nodup_cons] at hn
    have h' : kvs[i]? = some (k, v) := by simpa using h
    rw [valV_neg fun e => hn.1 (by rw [e]; exact List.mem_map.mpr ⟨_, List.mem_of_getElem? h', rfl⟩)]
    exact valV_at hn.2 h'
/-- the pairs of a display, the keys texts -/
def EvPs (C : Cc) (trs : List (TE × TE)) (ρ : List Sl) (P : List (Str × D) → List Sl → Prop) : Prop := ∀ σ Hb H fp, EnvW C σ ρ Hb H fp → ∀ Q : List (V × V) → Hp → Prop,
  (∀ (kvs : List (Str × V)) (kds : List (Str × D)) ρ' Hb' H' fp', Fr (In fp) Hb H Hb' H' (In fp') → EnvW C σ ρ' Hb' H' fp' → kvs.map (·.1) = kds.map (·.1) → RpAll C.K Hb' (kvs.map (·.2)) (kds.map (·.2)) → P kds ρ' → Q (kvs.map fun q => (V.str q.1, q.2)) H') → tPairs trs σ H Q
section
variable {C : Cc} {ρ : List Sl} {te ty : TE} {trs : List (TE × TE)} {k : Str} {x : D} {PP : List (Str × D) → List Sl → Prop} {P : Sl → List Sl → Prop}
theorem fps_nil (p : PP [] ρ) : EvPs C [] ρ PP := fun σ Hb H fp W Q q => q [] [] ρ Hb H fp .refl W rfl .nil p
theorem fps_cons (h : Ev C te ρ fun s ρ1 => ∃ x, s = .d x ∧ EvPs C trs ρ1 fun kds ρ2 => PP ((k, x) :: kds) ρ2) : EvPs C ((tC (.str k), te) :: trs) ρ PP := fun σ Hb H fp W Q q =>
  h σ Hb H fp W _ fun v s ρ1 Hb1 H1 fp1 fv sm G ⟨x, e, p⟩ => by
    subst e
    refine p σ Hb1 H1 fp1 G.env _ fun kvs kds ρ2 Hb2 H2 fp2 sm2 W2 ek hr pp => ?_
    exact q ((k, v) :: kvs) ((k, x) :: kds) ρ2 Hb2 H2 fp2 (sm.vtrans sm2) W2 (by rw [List.map_cons, List.map_cons, ek]) (.cons (G.data.mono sm2.b) hr) pp
theorem ef_dget (h : EvPs C trs ρ fun kds ρ1 => kds.length ≤ 15 ∧ (kds.map (·.1)).Nodup ∧ ∃ (k : Str) (i : Nat) (x : D), PD C ty ρ1 (.str k) ∧ kds[i]? = some (k, x) ∧ P (.d x) ρ1) : Ev C (tDGet (tDisp trs) ty) ρ P := fun σ Hb H fp W Q q p hp => by
  have t1 : Step [] Hb H Hb (upd H p (.dK [])) := Step.newO W.same hp
  have W1 := W.step t1
  obtain ⟨c1, c2, c3⟩ := W.old hp
  refine h σ Hb _ fp W1 _ fun kvs kds ρ1 Hb1 H1 fp1 sm W2 ek hr ⟨hl, hnd, k, i, x, hty, hi, pp⟩ => ?_
  have hpk : H1 p = some (.dK []) := sm.k p _ c3 upd_same
  have hb1 : Hb1 p = none := by
    rw [sm.f p c3 (by rw [upd_same]; exact fun z => nomatch z)]; exact c2
  have hfp1 : ¬ In fp1 p := fun z => by
    rcases sm.n p z with z | z
    · exact c3 z
    · rw [upd_same] at z; cases z
  have hlen : kvs.length = kds.length := by have := congrArg List.length ek; rwa [List.length_map, List.length_map] at this
  refine ⟨hpk, kvs.map fun q => (Sum.inr q.1, q.2), by rw [List.map_map]; rfl, by rw [List.length_map, hlen]; exact hl, ?_⟩
  generalize hD : mergeK [] (kvs.map fun q => ((Sum.inr q.1 : Key), q.2)) = DD
  have W3 : EnvW C σ ρ1 Hb1 (upd H1 p (.dK DD)) fp1 := W2.wrOut hb1 hfp1 c1
  refine hty σ Hb1 _ fp1 W3 _ fun u Hb2 H2 fv2 t2 ⟨_, e2, hu⟩ _ => ?_
  cases e2; cases hu
  have hnk : ((kvs.map fun q => ((Sum.inr q.1 : Key), q.2)).map (·.1)).Nodup := by
    rw [List.map_map]
    have e : ((fun q : Key × V => q.1) ∘ fun q : Str × V => ((Sum.inr q.1 : Key), q.2)) = (fun s : Str => (Sum.inr s : Key)) ∘ fun q : Str × V => q.1 := rfl
    rw [e, ← List.map_map, ek]
    exact List.pairwise_map.mpr (hnd.imp fun h e => h (Sum.inr.inj e))
  have hDD : DD = kvs.map fun q => ((Sum.inr q.1 : Key), q.2) := by rw [← hD, mergeK_new _ [] hnk]; rfl
  have hx : (kds.map (·.2))[i]? = some x := by rw [List.getElem?_map, hi]; rfl
  obtain ⟨v, hv, rv⟩ := hr.get hx
  have hkv : (kvs.map fun q => ((Sum.inr q.1 : Key), q.2))[i]? = some (Sum.inr k, v) := by
    rw [List.getElem?_map] at hv ⊢
    have hk : (kds.map (·.1))[i]? = some k := by rw [List.getElem?_map, hi]; rfl
    rw [← ek, List.getElem?_map] at hk
    cases e : kvs[i]? with
    | none => rw [e] at hv; cases hv
    | some z =>
      rw [e] at hv hk
      have h1 : z.2 = v := by simpa using hv
      have h2 : z.1 = k := by simpa using hk
      show some ((Sum.inr z.1 : Key), z.2) = _
      rw [h1, h2]
  have hg : DGet H2 p (.str k) (some v) := by
    have := DGet.k (k := (Sum.inr k : Key)) (t2.same p _ upd_same)
    rw [hDD, valV_at hnk hkv] at this
    exact this
  refine ⟨p, v, rfl, hg, ?_⟩
  have fr1 : Fr (In fp) Hb H Hb1 H1 (In fp1) := (Fr.of (F := In fp) t1).etrans sm
  have fr2 : Fr (In fp) Hb H Hb1 (upd H1 p (.dK DD)) (In fp1) := fr1.wrNew hp
  exact q v (.d x) ρ1 Hb2 H2 fp1 [] ((fr2.etrans (.of (F := In fp1) t2)).to fun a z => z.elim (fun z => nomatch z) id) ⟨W3.step t2, (show SlOk C.K Hb2 H2 (some v) [] (.d x) from ⟨_, rfl, rv.mono t2.b⟩), fun _ z => nomatch z⟩ pp
end

/-! ### the law's own beat -/
def t_law_beat (K : PySem.W.Frag) (A : Ad) : TS :=
  (tSeq (tAsg (tCB (rListA K) (tCons (tVar 1) tNil)) (gName 4))
    (tSeq (tAsg (tCB (rListA K) (tCons (tVar 1) tNil)) (gName 5))
    (tSeq (tFor (iList K (tIf (tTest (tOp (rEqD K) (tVar 0) (tC (.str "left")))) (tLst (tCons (tVar 2) (tCons (tVar 3) tNil))) (tLst (tCons (tVar 3) (tCons (tVar 2) tNil))))) (gName 6) (tIfS (tTest (tOp (rEqD K) (tOp (rIx K) (tVar 6) (tC (.int 0))) (tC (.str "write")))) (tAsg (tOp (rIx K) (tVar 6) (tC (.int 2))) (gSub (tVar 5) (tOp (rIx K) (tVar 6) (tC (.int 1))) rSetL)) tNext))
    (tSeq (tAsg (tLst tNil) (gName 7))
    (tSeq (tAsg (tDGet (tDisp [((tC (.str "old")), (tTup (tCons (tVar 4) (tCons (tVar 4) tNil)))), ((tC (.str "new")), (tTup (tCons (tVar 5) (tCons (tVar 5) tNil)))), ((tC (.str "left")), (tTup (tCons (tVar 4) (tCons (tVar 5) tNil)))), ((tC (.str "right")), (tTup (tCons (tVar 5) (tCons (tVar 4) tNil))))]) (tVar 0)) (gName 8))
    (tSeq (tFor (iRng1 (tCons (tC (.int 2)) tNil)) (gName 9) (tSeq (tAsg (tOp (rIx K) (tTup (tCons (tVar 2) (tCons (tVar 3) tNil))) (tVar 9)) (gName 6))
    (tDrop (tBM K "list" rAppend (tVar 7) (tCons (tIf (tTest (tOp (rEqD K) (tOp (rIx K) (tVar 6) (tC (.int 0))) (tC (.str "read")))) (tLst (tCons (tOp (rIx K) (tOp (rIx K) (tVar 8) (tVar 9)) (tOp (rIx K) (tVar 6) (tC (.int 1)))) tNil)) (tLst tNil)) tNil)))))
    (tRet (tTup (tCons (tOp (rIx K) (tVar 7) (tC (.int 0))) (tCons (tOp (rIx K) (tVar 7) (tC (.int 1))) (tCons (tVar 5) tNil)))))))))))

/-- a deed writes -/
def wrD (mem : List Nat) : Deed → List Nat
  | .write c w => mem.set c w
  | _ => mem
/-- what it reads there -/
def rdD (mem : List Nat) : Deed → List Nat
  | .read c => [mem.getD c 0]
  | _ => []
def behind (u : Rule) (mem : List Nat) (one other : Deed) : List Nat := if u = .left then wrD (wrD mem one) other else wrD (wrD mem other) one
def look0 (u : Rule) (mem : List Nat) (one other : Deed) : List Nat := if u = .old ∨ u = .left then mem else behind u mem one other
def look1 (u : Rule) (mem : List Nat) (one other : Deed) : List Nat := if u = .old ∨ u = .right then mem else behind u mem one other
theorem wrD_len (mem : List Nat) (d : Deed) : (wrD mem d).length = mem.length := by
  cases d with
  | write c w => exact List.length_set
  | _ => rfl
theorem behind_len (u : Rule) (mem : List Nat) (one other : Deed) : (behind u mem one other).length = mem.length := by
  unfold behind; split <;> rw [wrD_len, wrD_len]
theorem look0_len (u : Rule) (mem : List Nat) (one other : Deed) : (look0 u mem one other).length = mem.length := by
  unfold look0; split
  · rfl
  · exact behind_len _ _ _ _
theorem look1_len (u : Rule) (mem : List Nat) (one other : Deed) : (look1 u mem one other).length = mem.length := by
  unfold look1; split
  · rfl
  · exact behind_len _ _ _ _
theorem beat_is (b : BN) (u : Rule) (hu : u ≠ .wait) (one other : Deed) : b.beat u one other = ⟨behind u b.mem one other, b.s0 ++ rdD (look0 u b.mem one other) one, b.s1 ++ rdD (look1 u b.mem one other) other⟩ := by
  obtain ⟨mem, s0, s1⟩ := b
  cases u with
  | wait => exact absurd rfl hu
  | old => cases one <;> cases other <;> simp [BN.beat, BN.acts, BN.actIf, BN.act, BN.see, Deed.word_write, Deed.word_read, Deed.isWrite, Deed.isRead, behind, look0, look1, wrD, rdD]
  | new => cases one <;> cases other <;> simp [BN.beat, BN.acts, BN.actIf, BN.act, BN.see, Deed.word_write, Deed.word_read, Deed.isWrite, Deed.isRead, behind, look0, look1, wrD, rdD]
  | left => cases one <;> cases other <;> simp [BN.beat, BN.act, BN.see, behind, look0, look1, wrD, rdD]
  | right => cases one <;> cases other <;> simp [BN.beat, BN.act, BN.see, behind, look0, look1, wrD, rdD]
/-- a memory, as a tuple or a list -/
inductive MemD (mem : List Nat) : D → Prop
  | tup : MemD mem (.tuple (encN mem))
  | lst : MemD mem (.list (encN mem))
def sp_law_beat (K : PySem.W.Frag) (A : Ad) : Sp := datSp K fun ds x => ∃ (u : Rule) (mem : List Nat) (m : D) (one other : Deed), ds = [.str u.word, m, one.enc, other.enc] ∧ u ≠ .wait ∧ MemD mem m ∧ one.Good mem.length ∧ other.Good mem.length ∧
  x = .tuple [.list (encN (rdD (look0 u mem one other) one)), .list (encN (rdD (look1 u mem one other) other)), .list (encN (behind u mem one other))]
theorem ev_memList {C : Cc} {ρ : List Sl} {te : TE} {mem : List Nat} {m : D} (hm : MemD mem m) (h : PD C te ρ m) : PEv C (tCB (rListA C.K) (tCons te tNil)) ρ (own C.K (encN mem)) := by
  cases hm with
  | tup => exact ev_call (ea_one h) (on_listT .own)
  | lst => exact ev_call (ea_one h) (on_listL .own)
theorem ev_memTup {C : Cc} {ρ : List Sl} {te : TE} {mem : List Nat} {m : D} (hm : MemD mem m) (h : PD C te ρ m) : PD C (tCB (rTupleA C.K) (tCons te tNil)) ρ (.tuple (encN mem)) := by
  cases hm with
  | tup => exact ev_call (ea_one h) on_tupleT
  | lst => exact ev_call (ea_one h) on_tupleL
def lookIx : Rule → Nat
  | .old => 0
  | .new => 1
  | .left => 2
  | _ => 3
theorem looks_nodup : (["old", "new", "left", "right"] : List Str).Nodup := by decide +kernel
theorem enc2_at {a b : Deed} {i : Nat} (h : i < 2) : itemOf [a.enc, b.enc] i = (if i = 0 then a else b).enc := by
  have : i = 0 ∨ i = 1 := by omega
  rcases this with e | e <;> subst e <;> rfl
theorem rd_law_beat {C : Cc} {A : Ad} {u : Rule} {mem : List Nat} {m : D} {one other : Deed} (hM : C.M = []) (hu : u ≠ .wait) (hm : MemD mem m) (g1 : one.Good mem.length) (g2 : other.Good mem.length) :
    Ex C (t_law_beat C.K A) [.d (.str u.word), .d m, .d one.enc, .d other.enc, .no, .no, .no, .no, .no, .no] (retD (.tuple [.list (encN (rdD (look0 u mem one other) one)), .list (encN (rdD (look1 u mem one other) other)), .list (encN (behind u mem one other))])) := by
  refine ex_seq (ex_set (ev_memList hm (ev_var rfl)) ?_)
  refine ex_seq (ex_set (ev_memList hm (ev_var rfl)) ?_)
  -- the writes, in the rule's order
  have writes : ∀ (d1 d2 : Deed) {P : Po}, d1.Good mem.length → d2.Good mem.length → PD C (tIf (tTest (tOp (rEqD C.K) (tVar 0) (tC (.str "left")))) (tLst (tCons (tVar 2) (tCons (tVar 3) tNil))) (tLst (tCons (tVar 3) (tCons (tVar 2) tNil)))) [.d (.str u.word), .d m, .d one.enc, .d other.enc, own C.K (encN mem), own C.K (encN mem), .no, .no, .no, .no] (.list [d1.enc, d2.enc]) →
      (∀ s6, P.nx [.d (.str u.word), .d m, .d one.enc, .d other.enc, own C.K (encN mem), own C.K (encN (wrD (wrD mem d1) d2)), s6, .no, .no, .no]) →
      Ex C (tFor (iList C.K (tIf (tTest (tOp (rEqD C.K) (tVar 0) (tC (.str "left")))) (tLst (tCons (tVar 2) (tCons (tVar 3) tNil))) (tLst (tCons (tVar 3) (tCons (tVar 2) tNil))))) (gName 6) (tIfS (tTest (tOp (rEqD C.K) (tOp (rIx C.K) (tVar 6) (tC (.int 0))) (tC (.str "write")))) (tAsg (tOp (rIx C.K) (tVar 6) (tC (.int 2))) (gSub (tVar 5) (tOp (rIx C.K) (tVar 6) (tC (.int 1))) rSetL)) tNext)) [.d (.str u.word), .d m, .d one.enc, .d other.enc, own C.K (encN mem), own C.K (encN mem), .no, .no, .no, .no] P := fun d1 d2 P k1 k2 he p => by
    refine ex_for (ei_p (pi_l (ds := [d1.enc, d2.enc]) he) ⟨fun i ρ => ∃ s6, ρ = [.d (.str u.word), .d m, .d one.enc, .d other.enc, own C.K (encN mem), own C.K (encN (if i = 0 then mem else if i = 1 then wrD mem d1 else wrD (wrD mem d1) d2)), s6, .no, .no, .no], ⟨_, rfl⟩, fun i ρ hi ⟨s6, e⟩ => ?_, fun ρ ⟨s6, e⟩ => by subst e; exact p s6⟩)
    subst e
    have hi : i < 2 := hi
    rw [enc2_at hi]
    refine eg_name ?_
    have turn : ∀ (M : List Nat) (d : Deed) {P : Po}, M.length = mem.length → d.Good mem.length → P.nx [.d (.str u.word), .d m, .d one.enc, .d other.enc, own C.K (encN mem), own C.K (encN (wrD M d)), .d d.enc, .no, .no, .no] →
        Ex C (tIfS (tTest (tOp (rEqD C.K) (tOp (rIx C.K) (tVar 6) (tC (.int 0))) (tC (.str "write")))) (tAsg (tOp (rIx C.K) (tVar 6) (tC (.int 2))) (gSub (tVar 5) (tOp (rIx C.K) (tVar 6) (tC (.int 1))) rSetL)) tNext) [.d (.str u.word), .d m, .d one.enc, .d other.enc, own C.K (encN mem), own C.K (encN M), .d d.enc, .no, .no, .no] P := fun M d P eM gd p => by
      cases d with
      | rest => exact ex_ifp (et_test (ev_eqWrite (d := .rest) (ev_var rfl))) (fun z => nomatch z) fun _ => ex_next p
      | read c => exact ex_ifp (et_test (ev_eqWrite (d := .read c) (ev_var rfl))) (fun z => nomatch z) fun _ => ex_next p
      | write c w =>
        have gd : c < mem.length ∧ w < 3 := gd
        refine ex_ifp (et_test (ev_eqWrite (d := .write c w) (ev_var rfl))) (fun _ => ?_) fun z => nomatch z
        refine ex_six (xs := encN M) (lr_own rfl) (ev_w2 (c := c) (w := w) (ev_var rfl)) (ev_c1 (d := .write c w) (ev_var rfl) rfl) (by rw [encN_len']; exact ixN_nat (show c < M.length by omega)) ?_
        rw [encN_set]; exact p
    have two : i = 0 ∨ i = 1 := by omega
    rcases two with e | e <;> subst e
    · exact turn mem d1 rfl k1 ⟨_, rfl⟩
    · exact turn (wrD mem d1) d2 (wrD_len _ _) k2 ⟨_, rfl⟩
  have hl0 := look0_len u mem one other
  have hl1 := look1_len u mem one other
  -- what follows
  have rest : ∀ s6, Ex C (tSeq (tAsg (tLst tNil) (gName 7))
      (tSeq (tAsg (tDGet (tDisp [((tC (.str "old")), (tTup (tCons (tVar 4) (tCons (tVar 4) tNil)))), ((tC (.str "new")), (tTup (tCons (tVar 5) (tCons (tVar 5) tNil)))), ((tC (.str "left")), (tTup (tCons (tVar 4) (tCons (tVar 5) tNil)))), ((tC (.str "right")), (tTup (tCons (tVar 5) (tCons (tVar 4) tNil))))]) (tVar 0)) (gName 8))
      (tSeq (tFor (iRng1 (tCons (tC (.int 2)) tNil)) (gName 9) (tSeq (tAsg (tOp (rIx C.K) (tTup (tCons (tVar 2) (tCons (tVar 3) tNil))) (tVar 9)) (gName 6))
      (tDrop (tBM C.K "list" rAppend (tVar 7) (tCons (tIf (tTest (tOp (rEqD C.K) (tOp (rIx C.K) (tVar 6) (tC (.int 0))) (tC (.str "read")))) (tLst (tCons (tOp (rIx C.K) (tOp (rIx C.K) (tVar 8) (tVar 9)) (tOp (rIx C.K) (tVar 6) (tC (.int 1)))) tNil)) (tLst tNil)) tNil)))))
      (tRet (tTup (tCons (tOp (rIx C.K) (tVar 7) (tC (.int 0))) (tCons (tOp (rIx C.K) (tVar 7) (tC (.int 1))) (tCons (tVar 5) tNil)))))))) [.d (.str u.word), .d m, .d one.enc, .d other.enc, own C.K (encN mem), own C.K (encN (behind u mem one other)), s6, .no, .no, .no]
      (retD (.tuple [.list (encN (rdD (look0 u mem one other) one)), .list (encN (rdD (look1 u mem one other) other)), .list (encN (behind u mem one other))])) := fun s6 => by
    refine ex_seq (ex_set (s := own C.K []) (ev_lstO ea_nil) ?_)
    refine ex_seq (ex_asg (ef_dget (fps_cons (ef_tup (fa_cons (ef_frz (i := 4) rfl ⟨_, rfl, fa_p (ea_one (ev_var rfl)) ⟨Nat.le_of_ble_eq_true rfl, _, rfl, fps_cons (ef_tup (fa_cons (ef_frz (i := 5) rfl ⟨_, rfl, fa_p (ea_one (ev_var rfl)) ⟨Nat.le_of_ble_eq_true rfl, _, rfl, fps_cons (ef_d (ev_tup (ea_two (ev_var rfl) (ev_var rfl))) ⟨_, rfl, fps_cons (ef_d (ev_tup (ea_two (ev_var rfl) (ev_var rfl))) ⟨_, rfl, fps_nil ⟨Nat.le_of_ble_eq_true rfl, looks_nodup, u.word, lookIx u, .tuple [.list (encN (look0 u mem one other)), .list (encN (look1 u mem one other))], ev_var rfl, ?_, ?_⟩⟩)⟩)⟩⟩)))⟩⟩))))))
    · cases u with
      | wait => exact absurd rfl hu
      | old => rfl
      | new => rfl
      | left => rfl
      | right => rfl
    refine ex_seq (ex_for (ei_p (pi_r1 (j := 2) (ea_one ev_int) (by decide)) ⟨fun i ρ => ∃ s6 s9, ρ = [.d (.str u.word), .d m, .d one.enc, .d other.enc, .d (.list (encN mem)), .d (.list (encN (behind u mem one other))), s6, own C.K ([.list (encN (rdD (look0 u mem one other) one)), .list (encN (rdD (look1 u mem one other) other))].take i), .d (.tuple [.list (encN (look0 u mem one other)), .list (encN (look1 u mem one other))]), s9], ⟨_, _, rfl⟩, fun i ρ hi ⟨s6, s9, e⟩ => ?_, fun ρ ⟨s6, s9, e⟩ => ?_⟩))
    · subst e
      have hi : i < 2 := hi
      refine eg_name ?_
      refine ex_seq (ex_set (s := .d (if i = 0 then one else other).enc) (ev_op (ev_tup (ea_two (ev_var rfl) (ev_var rfl))) (ev_var rfl) (o2_ixT (atI_nat (by
        have : i = 0 ∨ i = 1 := by omega
        rcases this with e | e <;> subst e <;> rfl)))) ?_)
      have turn : ∀ (L : List Nat) (d : Deed) {ρ : List Sl}, L.length = mem.length → d.Good mem.length → ρ[6]? = some (.d d.enc) → ρ[9]? = some (.d (.int (i : Nat))) → ρ[8]? = some (.d (.tuple [.list (encN (look0 u mem one other)), .list (encN (look1 u mem one other))])) → [(.list (encN (look0 u mem one other)) : D), .list (encN (look1 u mem one other))][i]? = some (.list (encN L)) →
          PD C (tIf (tTest (tOp (rEqD C.K) (tOp (rIx C.K) (tVar 6) (tC (.int 0))) (tC (.str "read")))) (tLst (tCons (tOp (rIx C.K) (tOp (rIx C.K) (tVar 8) (tVar 9)) (tOp (rIx C.K) (tVar 6) (tC (.int 1)))) tNil)) (tLst tNil)) ρ (.list (encN (rdD L d))) := fun L d ρ eL gd e6 e9 e8 eL2 => by
        cases d with
        | rest => exact ev_if (b := false) (et_test (ev_eqRead (d := .rest) (ev_var e6))) (fun z => nomatch z) fun _ => ev_lst ea_nil
        | write c w => exact ev_if (b := false) (et_test (ev_eqRead (d := .write c w) (ev_var e6))) (fun z => nomatch z) fun _ => ev_lst ea_nil
        | read c =>
          have gd : c < mem.length := gd
          have hc : c < L.length := by omega
          exact ev_if (b := true) (et_test (ev_eqRead (d := .read c) (ev_var e6))) (fun _ => ev_lst (ea_one (ev_op (ev_op (ev_var e8) (ev_var e9) (o2_ixT (atI_nat eL2))) (ev_c1 (d := .read c) (ev_var e6) rfl) (o2_ixL (encN_at hc))))) fun z => nomatch z
      have two : i = 0 ∨ i = 1 := by omega
      rcases two with e | e <;> subst e
      · exact ex_app (lr_own rfl) (turn (look0 u mem one other) one hl0 g1 rfl rfl rfl rfl) (show 0 < 10000000 by decide) ⟨_, _, rfl⟩
      · exact ex_app (lr_own rfl) (turn (look1 u mem one other) other hl1 g2 rfl rfl rfl rfl) (show 1 < 10000000 by decide) ⟨_, _, rfl⟩
    · subst e
      exact ex_ret (ef_d (ev_tup (ea_cons (ev_ixOf (lr_own rfl) ev_int (atI_nat (j := 0) rfl)) (ea_two (ev_ixOf (lr_own rfl) ev_int (atI_nat (j := 1) rfl)) (ev_var rfl)))) rfl)
  by_cases hleft : u = .left
  · refine ex_seq (writes one other g1 g2 (ev_if (b := true) (et_is (et_test (ev_eqW (ev_var rfl) u.word_ok ok_left)) (by rw [u.is_left, decide_eq_true hleft])) (fun _ => ev_lst (ea_two (ev_var rfl) (ev_var rfl))) fun z => nomatch z) fun s6 => ?_)
    have e : wrD (wrD mem one) other = behind u mem one other := by unfold behind; rw [if_pos hleft]
    rw [e]
    exact rest s6
  · refine ex_seq (writes other one g2 g1 (ev_if (b := false) (et_is (et_test (ev_eqW (ev_var rfl) u.word_ok ok_left)) (by rw [u.is_left, decide_eq_false hleft])) (fun z => nomatch z) fun _ => ev_lst (ea_two (ev_var rfl) (ev_var rfl))) fun s6 => ?_)
    have e : wrD (wrD mem other) one = behind u mem one other := by unfold behind; rw [if_neg hleft]
    rw [e]
    exact rest s6
end DL
set_option Elab.async false
set_option linter.all false
set_option maxRecDepth 100000
set_option maxHeartbeats 4000000
/-! DX: the law's own run. -/
namespace DL
open PySem PySem.Spec L2

theorem enc_sh : ∀ d : Deed, shN 1 d.enc
  | .rest => .tuple fun x hx => by rw [List.mem_singleton.mp hx]; exact .str ok_rest
  | .read c => .tuple (ds := [.str wRead, .int (c : Nat)]) fun x hx => by
    rcases List.mem_cons.mp hx with e | hx
    · rw [e]; exact .str ok_read
    · rw [List.mem_singleton.mp hx]; exact .int
  | .write c w => .tuple (ds := [.str wWrite, .int (c : Nat), .int (w : Nat)]) fun x hx => by
    rcases List.mem_cons.mp hx with e | hx
    · rw [e]; exact .str ok_write
    · rcases List.mem_cons.mp hx with e | hx
      · rw [e]; exact .int
      · rw [List.mem_singleton.mp hx]; exact .int
theorem encP_sh (l : List Deed) : shN 2 (encP l) := .list fun x hx => by
  obtain ⟨d, _, rfl⟩ := List.mem_map.mp hx
  exact enc_sh d
theorem encN_append (a b : List Nat) : encN a ++ encN b = encN (a ++ b) := by unfold encN; rw [List.map_append]
theorem runF_low (u : Rule) : ∀ (n : Nat) (b : BN) (l r : List Deed) (k : Nat), b.Low k → (runF u n b l r).1.Low (k + 4 * n) ∧ (runF u n b l r).1.mem.length = b.mem.length
  | 0, b, l, r, k, h => ⟨h, rfl⟩
  | n + 1, b, l, r, k, h => by
    unfold runF
    split
    · exact ⟨h.up (by omega), rfl⟩
    split
    · obtain ⟨h1, h2⟩ := runF_low u n (b.act 0 (l.headD .rest)) l.tail r (k + 1) (BN.act_low h _ _)
      exact ⟨h1.up (by omega), h2.trans (BN.act_mem _ _ _)⟩
    · obtain ⟨h1, h2⟩ := runF_low u n (b.beat u (l.headD .rest) (r.headD .rest)) l.tail r.tail (k + 4) (BN.beat_low h _ _ _)
      exact ⟨h1.up (by omega), h2.trans (BN.beat_mem _ _ _ _)⟩
theorem runOf_low (u : Rule) (mem : List Nat) (l r : List Deed) : (runOf u mem l r).1.Low (4 * (l.length + r.length)) ∧ (runOf u mem l r).1.mem.length = mem.length := by
  obtain ⟨h1, h2⟩ := runF_low u (l.length + r.length) ⟨mem, [], []⟩ l r 0 ⟨Nat.le_refl _, Nat.le_refl _⟩
  exact ⟨h1.up (by omega), h2⟩
def encRun (q : BN × Nat) : D := .tuple [.list (encN q.1.s0), .list (encN q.1.s1), .tuple (encN q.1.mem), .int (q.2 : Nat)]
theorem deedAt0 (l : List Deed) : deedAt l 0 = l.headD .rest := by cases l <;> rfl
theorem rdD_len (mem : List Nat) (d : Deed) : (rdD mem d).length ≤ 1 := by cases d <;> simp [rdD]

def t_law_run (K : PySem.W.Frag) (A : Ad) : TS :=
  (tSeq (tPar 2 3 (tCons (tCB (rListA K) (tCons (tVar 2) tNil)) (tCons (tCB (rListA K) (tCons (tVar 3) tNil)) tNil)))
    (tSeq (tAsg (tTup (tCons (tLst tNil) (tCons (tLst tNil) tNil))) (gName 4))
    (tSeq (tAsg (tC (.int 0)) (gName 5))
    (tSeq (tWhile (tTest (tOp (rNeD K) (tOp (rAddA K) (tVar 2) (tVar 3)) (tLst tNil))) (tSeq (tPar 6 7 (tCons (tUser (sp_law_at K A) (tCons (tVar 2) (tCons (tC (.int 0)) tNil))) (tCons (tUser (sp_law_at K A) (tCons (tVar 3) (tCons (tC (.int 0)) tNil))) tNil)))
    (tSeq (tAsg (tAndV (tOp (rEqD K) (tVar 0) (tC (.str "wait"))) (tUser (sp_law_meet K A) (tCons (tVar 6) (tCons (tVar 7) tNil)))) (gName 8))
    (tSeq (tAsg (tUser (sp_law_beat K A) (tCons (tIf (tTest (tOp (rEqD K) (tVar 0) (tC (.str "wait")))) (tC (.str "left")) (tVar 0)) (tCons (tVar 1) (tCons (tVar 6) (tCons (tIf (tB (tVar 8)) (tTup (tCons (tC (.str "rest")) tNil)) (tVar 7)) tNil))))) (gName 9))
    (tSeq (tDrop (tBM K "list" rExtend (tOp (rIx K) (tVar 4) (tC (.int 0))) (tCons (tOp (rIx K) (tVar 9) (tC (.int 0))) tNil)))
    (tSeq (tDrop (tBM K "list" rExtend (tOp (rIx K) (tVar 4) (tC (.int 1))) (tCons (tOp (rIx K) (tVar 9) (tC (.int 1))) tNil)))
    (tSeq (tAsg (tOp (rIx K) (tVar 9) (tC (.int 2))) (gName 1))
    (tSeq (tAsg (tSl (rSlX K) (tVar 2) (tPart (tC (.int 1))) tNoPart) (gName 2))
    (tSeq (tAsg (tIf (tB (tVar 8)) (tVar 3) (tSl (rSlX K) (tVar 3) (tPart (tC (.int 1))) tNoPart)) (gName 3))
    (tAsg (tOp (rAddA K) (tVar 5) (tC (.int 1))) (gName 5)))))))))))
    (tRet (tTup (tCons (tOp (rIx K) (tVar 4) (tC (.int 0))) (tCons (tOp (rIx K) (tVar 4) (tC (.int 1))) (tCons (tCB (rTupleA K) (tCons (tVar 1) tNil)) (tCons (tVar 5) tNil))))))))))
def sp_law_run (K : PySem.W.Frag) (A : Ad) : Sp := datSp K fun ds x => ∃ (u : Rule) (mem : List Nat) (l r : List Deed), ds = [.str u.word, .tuple (encN mem), encP l, encP r] ∧ GoodP mem.length l ∧ GoodP mem.length r ∧ l.length ≤ 1000 ∧ r.length ≤ 1000 ∧ x = encRun (runOf u mem l r)
theorem goodP_tail {cells : Nat} {l : List Deed} (h : GoodP cells l) : GoodP cells l.tail := fun d hd => h d (List.mem_of_mem_tail hd)
theorem head_good {cells : Nat} {l : List Deed} (h : GoodP cells l) : (l.headD .rest).Good cells := by rw [← deedAt0]; exact deedAt_good h 0
theorem rd_law_run {C : Cc} {A : Ad} {u : Rule} {mem : List Nat} {l r : List Deed} (hl : GoodP mem.length l) (hr : GoodP mem.length r) (l1 : l.length ≤ 1000) (r1 : r.length ≤ 1000) :
    Ex C (t_law_run C.K A) [.d (.str u.word), .d (.tuple (encN mem)), .d (encP l), .d (encP r), .no, .no, .no, .no, .no, .no] (retD (encRun (runOf u mem l r))) := by
  refine ex_seq (ex_par (fa_p (ea_two (ev_call (ea_one (ev_var rfl)) (on_listL (ds := encs l) .dat)) (ev_call (ea_one (ev_var rfl)) (on_listL (ds := encs r) .dat))) ⟨_, _, rfl, ?_⟩))
  refine ex_seq (ex_set ev_pairNew ?_)
  refine ex_seq (ex_set (s := .d (.int 0)) ev_int ?_)
  refine ex_seq (ex_while (fun m ρ => ∃ (n beats : Nat) (b : BN) (l' r' : List Deed) (M : D) (s6 s7 s8 s9 : Sl), m = l'.length + r'.length ∧ m ≤ n ∧ MemD b.mem M ∧ b.mem.length = mem.length ∧ b.Low (4 * beats) ∧ beats + m ≤ l.length + r.length ∧ GoodP mem.length l' ∧ GoodP mem.length r' ∧
      runOf u mem l r = ((runF u n b l' r').1, (runF u n b l' r').2 + beats) ∧ ρ = [.d (.str u.word), .d M, .d (encP l'), .d (encP r'), prs C.K (encN b.s0) (encN b.s1) [], .d (.int (beats : Nat)), s6, s7, s8, s9])
    ⟨_, l.length + r.length, 0, ⟨mem, [], []⟩, l, r, _, _, _, _, _, rfl, Nat.le_refl _, .tup, rfl, ⟨Nat.le_refl _, Nat.le_refl _⟩, by omega, hl, hr, rfl, rfl⟩ fun m ρ ⟨n, beats, b, l', r', M, s6, s7, s8, s9, em, hmn, hM, hmem, hlow, hbeats, gl, gr, eF, e⟩ => ?_)
  subst e
  have hne : SeqAt.shaped (.list (encs (l' ++ r'))) = true := (encP_sh (l' ++ r')).shaped
  refine ft_p (et_test (ev_op (ev_op (ev_var rfl) (ev_var rfl) (o2_addL (xs := encs l') (ys := encs r') (s := .d (.list (encs (l' ++ r')))) (by rw [encs_len, encs_len]; omega) (by rw [encs_app]; exact .dat))) (ev_lst ea_nil) (o2_ne hne rfl))) ?_
  by_cases hz : l' = [] ∧ r' = []
  · obtain ⟨z1, z2⟩ := hz
    subst z1; subst z2
    have he : (!PyData.eqv (.list (encs ([] ++ []))) (.list [])) = false := rfl
    rw [he, if_neg Bool.false_ne_true]
    rw [runF_nil] at eF
    refine ex_ret (ef_pair2 (s := .d (encRun (runOf u mem l r))) (lr2_pair (xs := encN b.s0) (ys := encN b.s1) rfl ev_int ev_int) (ea_two (ev_memTup hM (ev_var rfl)) (ev_is (y := .int ((0 + beats : Nat) : Int)) (ev_var rfl) (by rw [Nat.zero_add]))) (by rw [eF]; exact .dat) (by show 2 ≤ 1000; decide) rfl)
  have hpos : 0 < l'.length + r'.length := by
    cases l' with
    | cons _ _ => rw [List.length_cons]; omega
    | nil =>
      cases r' with
      | cons _ _ => rw [List.length_cons]; omega
      | nil => exact absurd ⟨rfl, rfl⟩ hz
  have he : (!PyData.eqv (.list (encs (l' ++ r'))) (.list [])) = true := by
    cases l' with
    | cons _ _ => rfl
    | nil =>
      cases r' with
      | cons _ _ => rfl
      | nil => exact absurd ⟨rfl, rfl⟩ hz
  rw [he, if_pos rfl]
  obtain ⟨n, rfl⟩ : ∃ k, n = k + 1 := ⟨n - 1, by omega⟩
  unfold runF at eF
  rw [if_neg hz] at eF
  have g1 := head_good gl
  have g2 := head_good gr
  refine ex_seq (ex_par (fa_p (ea_two (ev_dat (x := (deedAt l' 0).enc) (ea_two (ev_var rfl) (ev_int (i := ((0 : Nat) : Int)))) ⟨l', 0, rfl, by omega, rfl⟩) (ev_dat (x := (deedAt r' 0).enc) (ea_two (ev_var rfl) (ev_int (i := ((0 : Nat) : Int)))) ⟨r', 0, rfl, by omega, rfl⟩)) ⟨_, _, rfl, ?_⟩))
  rw [deedAt0, deedAt0]
  have hone : l' = [] → l'.headD .rest = Deed.rest := fun z => by rw [z]; rfl
  generalize l'.headD .rest = one at *
  generalize r'.headD .rest = other at *
  refine ex_seq (ex_set (s := .d (.bool (decide (u = .wait) && one.clash other))) (ev_andV (ev_is (ev_eqW (ev_var rfl) u.word_ok ok_wait) (by rw [u.is_wait])) fun _ => ev_dat (ea_two (ev_var rfl) (ev_var rfl)) ⟨one, other, rfl, rfl⟩) ?_)
  -- the beat
  obtain ⟨u', hu', eu'⟩ : ∃ u' : Rule, u' ≠ .wait ∧ u' = if u = .wait then .left else u := ⟨if u = .wait then .left else u, by
    split
    · exact fun z => nomatch z
    · assumption, rfl⟩
  obtain ⟨w, ew⟩ : ∃ w : Bool, w = (decide (u = .wait) && one.clash other) := ⟨_, rfl⟩
  obtain ⟨o', eo'⟩ : ∃ o' : Deed, o' = if w = true then .rest else other := ⟨_, rfl⟩
  have go' : o'.Good mem.length := by
    rw [eo']
    split
    · trivial
    · exact g2
  have hb' : b.beat u' one o' = if w = true then b.act 0 one else b.beat u one other := by
    cases hw : w with
    | true =>
      have hu : u = .wait := by
        rw [hw] at ew
        have := ew.symm
        rw [Bool.and_eq_true] at this
        exact of_decide_eq_true this.1
      rw [eo', if_pos hw, eu', if_pos hu, if_pos rfl]
      rfl
    | false =>
      rw [eo', if_neg (by rw [hw]; exact Bool.false_ne_true), if_neg Bool.false_ne_true, eu']
      by_cases hu : u = .wait
      · rw [if_pos hu, hu]; rfl
      · rw [if_neg hu]
  have hbis := beat_is b u' hu' one o'
  rw [← ew]
  refine ex_seq (ex_set (s := .d (.tuple [.list (encN (rdD (look0 u' b.mem one o') one)), .list (encN (rdD (look1 u' b.mem one o') o')), .list (encN (behind u' b.mem one o'))])) (ev_dat (ea_cons (xs := [M, one.enc, o'.enc]) (x := .str u'.word) (ev_if (et_test (ev_is (ev_eqW (ev_var rfl) u.word_ok ok_wait) (by rw [u.is_wait]))) (fun hu => ?_) fun hu => ?_) (ea_cons (ev_var rfl) (ea_two (ev_var rfl) (ev_if (b := w) (et_B (ev_var rfl)) (fun hw => ?_) fun hw => ?_)))) ⟨u', b.mem, M, one, o', rfl, hu', hM, by rw [hmem]; exact g1, by rw [hmem]; exact go', rfl⟩) ?_)
  · rw [eu', if_pos (of_decide_eq_true hu)]; exact ev_str
  · rw [eu', if_neg (of_decide_eq_false hu)]; exact ev_var rfl
  · rw [eo', if_pos hw]; exact ev_tup (ea_one ev_str)
  · rw [eo', if_neg (by rw [hw]; exact Bool.false_ne_true)]; exact ev_var rfl
  have hs0 : (encN b.s0).length + (encN (rdD (look0 u' b.mem one o') one)).length ≤ 10000000 := by
    rw [encN_len', encN_len']
    have := rdD_len (look0 u' b.mem one o') one
    have := hlow.1
    omega
  have hs1 : (encN b.s1).length + (encN (rdD (look1 u' b.mem one o') o')).length ≤ 10000000 := by
    rw [encN_len', encN_len']
    have := rdD_len (look1 u' b.mem one o') o'
    have := hlow.2
    omega
  refine ex_seq (ex_ext (lr_pair0 (xs := encN b.s0) rfl ev_int) (ev_op (ev_var rfl) ev_int (o2_ixT (atI_nat (j := 0) rfl))) hs0 ?_)
  refine ex_seq (ex_ext (lr_pair1 (ys := encN b.s1) rfl ev_int) (ev_op (ev_var rfl) ev_int (o2_ixT (atI_nat (j := 1) rfl))) hs1 ?_)
  rw [encN_append, encN_append]
  refine ex_seq (ex_set (s := .d (.list (encN (behind u' b.mem one o')))) (ev_op (ev_var rfl) ev_int (o2_ixT (atI_nat (j := 2) rfl))) ?_)
  refine ex_seq (ex_set (s := .d (encP l'.tail)) (ev_sl (ev_var rfl) (eo_part (ev_int (i := ((1 : Nat) : Int)))) eo_no (os_list (ds := encs l') (by rw [cut_suf, encs_drop, List.drop_one]; exact .dat))) ?_)
  refine ex_seq (ex_set (s := .d (encP (if w = true then r' else r'.tail))) (ev_if (b := w) (et_B (ev_var rfl)) (fun hw => ?_) fun hw => ?_) ?_)
  · rw [if_pos hw]; exact ev_var rfl
  · rw [if_neg (by rw [hw]; exact Bool.false_ne_true)]
    exact ev_sl (ev_var rfl) (eo_part (ev_int (i := ((1 : Nat) : Int)))) eo_no (os_list (ds := encs r') (by rw [cut_suf, encs_drop, List.drop_one]; exact .dat))
  refine ex_set (s := .d (.int ((beats + 1 : Nat) : Int))) (ev_is (ev_op (ev_var rfl) ev_int o2_addI) (by congr 1)) ?_
  have hlt : l'.tail.length + (if w = true then r' else r'.tail).length < l'.length + r'.length := by
    cases hw : w with
    | true =>
      rw [if_pos rfl]
      have hl' : l' ≠ [] := fun z => by
        rw [hw] at ew
        have := ew.symm
        rw [Bool.and_eq_true] at this
        have hcl := this.2
        have : one = .rest := by
          have := hone z
          exact this
        rw [this] at hcl; cases hcl
      rw [List.length_tail]
      have := List.length_pos_iff.mpr hl'
      omega
    | false =>
      rw [if_neg Bool.false_ne_true, List.length_tail, List.length_tail]
      omega
  refine ⟨l'.tail.length + (if w = true then r' else r'.tail).length, by omega, n, beats + 1, b.beat u' one o', l'.tail, (if w = true then r' else r'.tail), .list (encN (behind u' b.mem one o')), .d one.enc, .d other.enc, .d (.bool w), .d (.tuple [.list (encN (rdD (look0 u' b.mem one o') one)), .list (encN (rdD (look1 u' b.mem one o') o')), .list (encN (behind u' b.mem one o'))]), rfl, by omega, ?_, (BN.beat_mem _ _ _ _).trans hmem, (BN.beat_low hlow _ _ _).up (by omega), by omega, goodP_tail gl, ?_, ?_, ?_⟩
  · rw [hbis]; exact .lst
  · split
    · exact gr
    · exact goodP_tail gr
  · rw [hb', eF]
    cases hw : w with
    | true =>
      have hc : u = .wait ∧ one.clash other = true := by
        rw [hw] at ew
        have := ew.symm
        rw [Bool.and_eq_true] at this
        exact ⟨of_decide_eq_true this.1, this.2⟩
      rw [if_pos hc, if_pos rfl, if_pos rfl]
      show (_, _) = (_, _)
      congr 1; omega
    | false =>
      have hc : ¬ (u = .wait ∧ one.clash other = true) := fun ⟨z1, z2⟩ => by
        rw [hw, decide_eq_true z1, z2] at ew; cases ew
      rw [if_neg hc, if_neg Bool.false_ne_true, if_neg Bool.false_ne_true]
      show (_, _) = (_, _)
      congr 1; omega
  · rw [hbis]; rfl
end DL
set_option Elab.async false
set_option linter.all false
set_option maxRecDepth 100000
set_option maxHeartbeats 4000000
/-! DY: all memories, parting. -/
namespace DL
open PySem PySem.Spec L2

/-! ### the first that is found -/
theorem find_step {α β : Type} {f : α → Option β} {xs : List α} {i : Nat} (h : i < xs.length) (e : xs.findSome? f = (xs.drop i).findSome? f) : (∀ v, f xs[i] = some v → xs.findSome? f = some v) ∧ (f xs[i] = none → xs.findSome? f = (xs.drop (i + 1)).findSome? f) := by
  rw [List.drop_eq_getElem_cons h, List.findSome?_cons] at e
  refine ⟨fun v hv => ?_, fun hv => ?_⟩
  · rw [hv] at e; exact e
  · rw [hv] at e; exact e
def ruleAt (i : Nat) : Rule := [Rule.old, .new, .left, .right, .wait].getD i .old
theorem rules_at {i : Nat} (h : i < 5) : [(.str wOld : D), .str wNew, .str wLeft, .str wRight, .str wWait][i]? = some (.str (ruleAt i).word) := by
  have : i = 0 ∨ i = 1 ∨ i = 2 ∨ i = 3 ∨ i = 4 := by omega
  rcases this with e | e | e | e | e <;> subst e <;> rfl
def pairF (d : Nat → Nat → Bool) (i j : Nat) : Option (Nat × Nat) := if d i j = true then some (i, j) else none
def inF (d : Nat → Nat → Bool) (i : Nat) : Option (Nat × Nat) := (List.range (5 - (i + 1))).findSome? fun k => pairF d i (i + 1 + k)
def outF (d : Nat → Nat → Bool) : Option (Nat × Nat) := (List.range 5).findSome? (inF d)
def prA : List Nat := [0, 0, 0, 0, 1, 1, 1, 2, 2, 3]
def prB : List Nat := [1, 2, 3, 4, 2, 3, 4, 3, 4, 4]
def lawF (d : Nat → Nat → Bool) : Option (Nat × Nat) := (List.range 10).findSome? fun k => pairF d (prA.getD k 0) (prB.getD k 0)
theorem lawF_eq (d : Nat → Nat → Bool) : lawF d = outF d := by
  have e10 : List.range 10 = [0, 1, 2, 3, 4, 5, 6, 7, 8, 9] := rfl
  have e5 : List.range 5 = [0, 1, 2, 3, 4] := rfl
  have e4 : List.range 4 = [0, 1, 2, 3] := rfl
  have e3 : List.range 3 = [0, 1, 2] := rfl
  have e2 : List.range 2 = [0, 1] := rfl
  have e1 : List.range 1 = [0] := rfl
  have e0 : List.range 0 = [] := rfl
  unfold lawF outF inF
  rw [e10, e5]
  simp only [List.findSome?_cons, List.findSome?_nil, e4, e3, e2, e1, e0, prA, prB]
  show _ = _
  simp only [Nat.reduceAdd, Nat.reduceSub, e4, e3, e2, e1, e0, List.findSome?_cons, List.findSome?_nil, List.getD_cons_zero, List.getD_cons_succ]
  cases pairF d 0 1 <;> simp only []
  cases pairF d 0 2 <;> simp only []
  cases pairF d 0 3 <;> simp only []
  cases pairF d 0 4 <;> simp only []
  cases pairF d 1 2 <;> simp only []
  cases pairF d 1 3 <;> simp only []
  cases pairF d 1 4 <;> simp only []
  cases pairF d 2 3 <;> simp only []
  cases pairF d 2 4 <;> simp only []
  cases pairF d 3 4 <;> simp only []

/-! ### all memories -/
def memsTo : Nat → List (List Nat)
  | 0 => [[]]
  | n + 1 => (memsTo n).flatMap fun m => [m ++ [0], m ++ [1], m ++ [2]]
theorem memsTo_good : ∀ (n : Nat), ∀ m ∈ memsTo n, m.length = n ∧ ∀ w ∈ m, w < 3
  | 0, m, h => by rw [List.mem_singleton.mp h]; exact ⟨rfl, fun _ z => nomatch z⟩
  | n + 1, m, h => by
    obtain ⟨m0, h0, h1⟩ := List.mem_flatMap.mp h
    obtain ⟨g1, g2⟩ := memsTo_good n m0 h0
    have : ∃ c, c < 3 ∧ m = m0 ++ [c] := by
      simp only [List.mem_cons, List.not_mem_nil, or_false] at h1
      rcases h1 with e | e | e
      · exact ⟨0, by decide, e⟩
      · exact ⟨1, by decide, e⟩
      · exact ⟨2, by decide, e⟩
    obtain ⟨c, hc, rfl⟩ := this
    refine ⟨by rw [List.length_append, g1]; rfl, fun w hw => ?_⟩
    rcases List.mem_append.mp hw with z | z
    · exact g2 w z
    · rw [List.mem_singleton.mp z]; exact hc
theorem memsTo_len : ∀ n : Nat, (memsTo n).length = 3 ^ n
  | 0 => rfl
  | n + 1 => by
    show ((memsTo n).flatMap fun m => [m ++ [0], m ++ [1], m ++ [2]]).length = _
    rw [List.length_flatMap, Nat.pow_succ, ← memsTo_len n]
    induction memsTo n with
    | nil => rfl
    | cons a l ih => rw [List.map_cons, List.sum_cons, ih]; show 3 + _ = (l.length + 1) * 3; omega
def encM (ms : List (List Nat)) : List D := ms.map fun m => .tuple (encN m)
theorem encM_len (ms : List (List Nat)) : (encM ms).length = ms.length := List.length_map _
theorem encM_item {ms : List (List Nat)} {i : Nat} (h : i < ms.length) : itemOf (encM ms) i = .tuple (encN ms[i]) := itemOf_some (by
  unfold encM
  rw [List.getElem?_map, List.getElem?_eq_getElem h]
  rfl)
theorem encM_app (a b : List (List Nat)) : encM a ++ encM b = encM (a ++ b) := by unfold encM; rw [List.map_append]
def t_all_memories (K : PySem.W.Frag) (A : Ad) : TS :=
  (tSeq (tAsg (tLst (tCons (tTup tNil) tNil)) (gName 1))
    (tSeq (tFor (iRng1 (tCons (tVar 0) tNil)) (gName 2) (tSeq (tAsg (tLst tNil) (gName 3))
    (tSeq (tFor (iList K (tVar 1)) (gName 4) (tDrop (tBM K "list" rExtend (tVar 3) (tCons (tLc (iTup K (tC (.ref A.aWORTHS))) (gName 5) tYes (tOp (rAddA K) (tVar 4) (tTup (tCons (tVar 5) tNil))) [5]) tNil))))
    (tAsg (tVar 3) (gName 1)))))
    (tRet (tVar 1))))
def sp_all_memories (K : PySem.W.Frag) (A : Ad) : Sp := datSp K fun ds x => ∃ n : Nat, ds = [.int (n : Nat)] ∧ n ≤ 4 ∧ x = .list (encM (memsTo n))
theorem flat_take {α β : Type} (f : α → List β) {xs : List α} {i : Nat} (h : i < xs.length) : (xs.take (i + 1)).flatMap f = (xs.take i).flatMap f ++ f xs[i] := by
  rw [List.take_succ_eq_append_getElem h, List.flatMap_append]
  congr 1
  show List.flatMap f [xs[i]] = _
  rw [List.flatMap_cons, List.flatMap_nil, List.append_nil]
theorem pow3_le {n : Nat} (h : n ≤ 4) : 3 ^ n ≤ 81 := by
  have : n = 0 ∨ n = 1 ∨ n = 2 ∨ n = 3 ∨ n = 4 := by omega
  rcases this with e | e | e | e | e <;> subst e <;> decide
theorem flat3_len {α β : Type} (g : α → List β) (hg : ∀ a, (g a).length = 3) : ∀ l : List α, (l.flatMap g).length = 3 * l.length
  | [] => rfl
  | a :: l => by rw [List.flatMap_cons, List.length_append, hg, flat3_len g hg l, List.length_cons]; omega
theorem rd_all_memories {C : Cc} {A : Ad} {n : Nat} (hW : WorthsOk C.K A) (hn : n ≤ 4) : Ex C (t_all_memories C.K A) [.d (.int (n : Nat)), .no, .no, .no, .no, .no] (retD (.list (encM (memsTo n)))) := by
  refine ex_seq (ex_set (s := .d (.list (encM (memsTo 0)))) (ev_lst (ea_one (ev_tup ea_nil))) ?_)
  refine ex_seq (ex_for (ei_p (pi_r1 (j := (n : Nat)) (ea_one (ev_var rfl)) (by omega)) ⟨fun i ρ => ∃ s2 s3 s4, ρ = [.d (.int (n : Nat)), .d (.list (encM (memsTo i))), s2, s3, s4, .no], ⟨_, _, _, rfl⟩, fun i ρ hi ⟨s2, s3, s4, e⟩ => ?_, fun ρ ⟨s2, s3, s4, e⟩ => ?_⟩))
  · subst e
    have hi : i < n := by omega
    have hlen := memsTo_len i
    have hp := pow3_le (n := i) (by omega)
    refine eg_name ?_
    refine ex_seq (ex_set (s := own C.K []) (ev_lstO ea_nil) ?_)
    refine ex_seq (ex_for (ei_p (pi_l (ds := encM (memsTo i)) (ev_var rfl)) ⟨fun k ρ => ∃ s4, ρ = [.d (.int (n : Nat)), .d (.list (encM (memsTo i))), .d (.int (i : Nat)), own C.K (encM (((memsTo i).take k).flatMap fun m => [m ++ [0], m ++ [1], m ++ [2]])), s4, .no], ⟨_, rfl⟩, fun k ρ hk ⟨s4, e⟩ => ?_, fun ρ ⟨s4, e⟩ => ?_⟩))
    · subst e
      rw [encM_len] at hk
      rw [encM_item hk]
      have hft := flat_take (fun m : List Nat => [m ++ [0], m ++ [1], m ++ [2]]) hk
      have hml := (memsTo_good i _ (List.getElem_mem hk)).1
      have h3 := flat3_len (fun m : List Nat => [m ++ [0], m ++ [1], m ++ [2]]) (fun _ => rfl) ((memsTo i).take k)
      have h4 : ((memsTo i).take k).length ≤ 81 := by rw [List.length_take]; omega
      generalize (memsTo i)[k] = M at *
      refine eg_name ?_
      refine ex_ext (ys := encM [M ++ [0], M ++ [1], M ++ [2]]) (lr_own rfl) (ev_lc (n := 3) (item := itemOf [.int 0, .int 1, .int 2]) (fun j => [.d (.int (n : Nat)), .d (.list (encM (memsTo i))), .d (.int (i : Nat)), own C.K (encM (((memsTo i).take k).flatMap fun m => [m ++ [0], m ++ [1], m ++ [2]])), .d (.tuple (encN M)), .d (.int (j : Nat))]) (fun _ => true) (fun j => .tuple (encN (M ++ [j]))) (pi_t (ev_const hW)) (by decide) (fun j hj => ?_) (fun j hj => ?_) (fun j hj _ => ?_) ?_) ?_ ?_
      · have : itemOf [(.int 0 : D), .int 1, .int 2] j = .int (j : Nat) := by
          have : j = 0 ∨ j = 1 ∨ j = 2 := by omega
          rcases this with e | e | e <;> subst e <;> rfl
        rw [this]
        exact gp_name (List.mem_singleton.mpr rfl)
      · exact fun σ Hb H fp W Q q => q Hb H (Step.refl W.same)
      · rw [← encN_app]
        exact ev_op (ev_var rfl) (ev_tup (ea_one (ev_var rfl))) (o2_addT (by rw [encN_len']; show _ + 1 ≤ _; omega))
      · rw [made_all]; exact .dat
      · rw [encM_len, encM_len, h3]; show _ + 3 ≤ _; omega
      · refine ⟨.d (.tuple (encN M)), ?_⟩
        rw [hft, encM_app]; rfl
    · subst e
      rw [encM_len, List.take_length]
      exact ex_asg (ef_frz (i := 3) rfl ⟨_, _, _, rfl⟩)
  · subst e
    have : ((n : Nat) : Int).toNat = n := by omega
    rw [this]
    exact ex_ret (ef_d (ev_var rfl) rfl)

/-! ### parting -/
def toldD (u : Rule) (mem : List Nat) (l r : List Deed) : D := .tuple [.list (encN (runOf u mem l r).1.s0), .list (encN (runOf u mem l r).1.s1), .tuple (encN (runOf u mem l r).1.mem)]
def diffs (mem : List Nat) (l r : List Deed) (i j : Nat) : Bool := !PyData.eqv (toldD (ruleAt i) mem l r) (toldD (ruleAt j) mem l r)
def partD (mem : List Nat) (p : Nat × Nat) : D := .tuple [.tuple (encN mem), .str (ruleAt p.1).word, .str (ruleAt p.2).word]
def partM (l r : List Deed) (mem : List Nat) : Option D := (outF (diffs mem l r)).map (partD mem)
def partOf (mems : List (List Nat)) (l r : List Deed) : D := (mems.findSome? (partM l r)).getD .none
theorem encNl_sh {n : Nat} (ns : List Nat) : shN (n + 1) (.list (encN ns)) := .list fun x hx => by
  obtain ⟨n, _, rfl⟩ := List.mem_map.mp hx
  exact .int
theorem encNt_sh {n : Nat} (ns : List Nat) : shN (n + 1) (.tuple (encN ns)) := .tuple fun x hx => by
  obtain ⟨n, _, rfl⟩ := List.mem_map.mp hx
  exact .int
theorem toldD_sh (u : Rule) (mem : List Nat) (l r : List Deed) : SeqAt.shaped (toldD u mem l r) = true := (shN.tuple (n := 1) fun x hx => by
  simp only [List.mem_cons, List.not_mem_nil, or_false] at hx
  rcases hx with e | e | e <;> subst e
  · exact encNl_sh _
  · exact encNl_sh _
  · exact encNt_sh _).shaped
def t_parting (K : PySem.W.Frag) (A : Ad) : TS :=
  (tSeq (tDrop (tUser (sp_need_cells K A) (tCons (tVar 0) tNil)))
    (tSeq (tDrop (tUser (sp_need_both K A) (tCons (tVar 0) (tCons (tVar 1) (tCons (tVar 2) (tCons (tC (.int 40)) tNil))))))
    (tSeq (tFor (iList K (tUser (sp_all_memories K A) (tCons (tVar 0) tNil))) (gName 3) (tSeq (tAsg (tLc (iTup K (tC (.ref A.aRULES))) (gName 5) tYes (tSl (rSlX K) (tUser (sp_run_by K A) (tCons (tVar 5) (tCons (tVar 3) (tCons (tVar 1) (tCons (tVar 2) tNil))))) tNoPart (tPart (tC (.int 3)))) [5]) (gName 4))
    (tFor (iRng1 (tCons (tCB (rLenA K) (tCons (tC (.ref A.aRULES)) tNil)) tNil)) (gName 6) (tFor (iRng2 (tCons (tOp (rAddA K) (tVar 6) (tC (.int 1))) (tCons (tCB (rLenA K) (tCons (tC (.ref A.aRULES)) tNil)) tNil))) (gName 7) (tIfS (tTest (tOp (rNeD K) (tOp (rIx K) (tVar 4) (tVar 6)) (tOp (rIx K) (tVar 4) (tVar 7)))) (tRet (tTup (tCons (tVar 3) (tCons (tOp (rIx K) (tC (.ref A.aRULES)) (tVar 6)) (tCons (tOp (rIx K) (tC (.ref A.aRULES)) (tVar 7)) tNil))))) tNext)))))
    (tRet (tC .non)))))
def sp_parting (K : PySem.W.Frag) (A : Ad) : Sp := datSp K fun ds x => ∃ (n : Nat) (l r : List Deed), ds = [.int (n : Nat), encP l, encP r] ∧ 1 ≤ n ∧ n ≤ 4 ∧ GoodP n l ∧ GoodP n r ∧ l.length ≤ 40 ∧ r.length ≤ 40 ∧ x = partOf (memsTo n) l r
theorem told_at {mem : List Nat} {l r : List Deed} {i : Nat} (h : i < 5) : ((List.range 5).map fun k => toldD (ruleAt k) mem l r)[i]? = some (toldD (ruleAt i) mem l r) := by
  rw [List.getElem?_map, List.getElem?_eq_getElem (by rw [List.length_range]; exact h), List.getElem_range]
  rfl
theorem rd_parting {C : Cc} {A : Ad} {n : Nat} {l r : List Deed} (hR : RulesOk C.K A) (h1 : 1 ≤ n) (h2 : n ≤ 4) (hl : GoodP n l) (hr : GoodP n r) (ll : l.length ≤ 40) (lr : r.length ≤ 40) :
    Ex C (t_parting C.K A) [.d (.int (n : Nat)), .d (encP l), .d (encP r), .no, .no, .no, .no, .no] (retD (partOf (memsTo n) l r)) := by
  refine ex_seq (ex_drop (ef_d (ev_dat (x := .none) (ea_one (ev_var rfl)) ⟨n, rfl, h1, h2, rfl⟩) ?_))
  refine ex_seq (ex_drop (ef_d (ev_dat (x := .none) (ea_cons (ev_var rfl) (ea_cons (ev_var rfl) (ea_two (ev_var rfl) (ev_int (i := ((40 : Nat) : Int)))))) ⟨n, 40, l, r, rfl, hl, hr, ll, lr, rfl⟩) ?_))
  refine ex_seq (ex_for (ei_p (pi_l (ds := encM (memsTo n)) (ev_dat (ea_one (ev_var rfl)) ⟨n, rfl, h2, rfl⟩)) ⟨fun i ρ => ∃ s3 s4 s6 s7, (memsTo n).findSome? (partM l r) = ((memsTo n).drop i).findSome? (partM l r) ∧ ρ = [.d (.int (n : Nat)), .d (encP l), .d (encP r), s3, s4, .no, s6, s7], ⟨_, _, _, _, rfl, rfl⟩, fun i ρ hi ⟨s3, s4, s6, s7, ef, e⟩ => ?_, fun ρ ⟨s3, s4, s6, s7, ef, e⟩ => ?_⟩))
  · subst e
    rw [encM_len] at hi
    rw [encM_item hi]
    have hml := (memsTo_good n _ (List.getElem_mem hi)).1
    obtain ⟨k1, k2⟩ := find_step hi ef
    have hpo : ∀ x, (memsTo n).findSome? (partM l r) = some x → partOf (memsTo n) l r = x := fun x hx => by unfold partOf; rw [hx]; rfl
    generalize (memsTo n)[i] = M at *
    have gl : GoodP M.length l := by rw [hml]; exact hl
    have gr : GoodP M.length r := by rw [hml]; exact hr
    refine eg_name ?_
    refine ex_seq (ex_set (s := .d (.list ((List.range 5).map fun k => toldD (ruleAt k) M l r))) (ev_lc (n := 5) (item := itemOf [.str wOld, .str wNew, .str wLeft, .str wRight, .str wWait]) (fun j => [.d (.int (n : Nat)), .d (encP l), .d (encP r), .d (.tuple (encN M)), s4, .d (.str (ruleAt j).word), s6, s7]) (fun _ => true) (fun j => toldD (ruleAt j) M l r) (pi_t (ev_const hR)) (by decide) (fun j hj => ?_) (fun j hj => ?_) (fun j hj _ => ?_) ?_) ?_)
    · have : itemOf [(.str wOld : D), .str wNew, .str wLeft, .str wRight, .str wWait] j = .str (ruleAt j).word := itemOf_some (rules_at hj)
      rw [this]
      exact gp_name (List.mem_singleton.mpr rfl)
    · exact fun σ Hb H fp W Q q => q Hb H (Step.refl W.same)
    · exact ev_sl (ev_prs (ea_cons (ev_var rfl) (ea_cons (ev_var rfl) (ea_two (ev_var rfl) (ev_var rfl)))) ⟨ruleAt j, M, l, r, rfl, gl, gr, by omega, by omega, rfl, rfl, rfl⟩ .dat) eo_no (eo_part (ev_int (i := ((3 : Nat) : Int)))) (by
        have := os_tup (K := C.K) (ds := (.list (encN (runOf (ruleAt j) M l r).1.s0) :: .list (encN (runOf (ruleAt j) M l r).1.s1) :: [.tuple (encN (runOf (ruleAt j) M l r).1.mem), .int ((runOf (ruleAt j) M l r).2 : Nat)])) (lo := none) (hi := some ((3 : Nat) : Int))
        rw [cut_pre] at this
        exact this)
    · rw [made_all]; exact .dat
    have evl : ∀ {ρ : List Sl}, PD C (tCB (rLenA C.K) (tCons (tC (.ref A.aRULES)) tNil)) ρ (.int 5) := ev_call (ea_one (ev_const hR)) (on_lenT (ds := [.str wOld, .str wNew, .str wLeft, .str wRight, .str wWait]))
    refine ex_for (ei_p (pi_r1 (j := 5) (ea_one evl) (by decide)) ⟨fun a ρ => ∃ s6 s7, outF (diffs M l r) = ((List.range 5).drop a).findSome? (inF (diffs M l r)) ∧ ρ = [.d (.int (n : Nat)), .d (encP l), .d (encP r), .d (.tuple (encN M)), .d (.list ((List.range 5).map fun k => toldD (ruleAt k) M l r)), .no, s6, s7], ⟨_, _, rfl, rfl⟩, fun a ρ ha ⟨s6, s7, ea, e⟩ => ?_, fun ρ ⟨s6, s7, ea, e⟩ => ?_⟩)
    · subst e
      have ha : a < 5 := ha
      obtain ⟨q1, q2⟩ := find_step (by rw [List.length_range]; exact ha) ea
      rw [List.getElem_range] at q1 q2
      refine eg_name ?_
      have e5 : ((5 : Int) - ((a + 1 : Nat) : Int)).toNat = 5 - (a + 1) := by omega
      refine ex_for (ei_p (pi_r2 (i := ((a + 1 : Nat) : Int)) (j := 5) (ea_two (ev_is (ev_op (ev_var rfl) ev_int o2_addI) (by congr 1)) evl) (by omega)) ⟨fun c ρ => ∃ s7, inF (diffs M l r) a = ((List.range (5 - (a + 1))).drop c).findSome? (fun k => pairF (diffs M l r) a (a + 1 + k)) ∧ ρ = [.d (.int (n : Nat)), .d (encP l), .d (encP r), .d (.tuple (encN M)), .d (.list ((List.range 5).map fun k => toldD (ruleAt k) M l r)), .no, .d (.int (a : Nat)), s7], ⟨_, rfl, rfl⟩, fun c ρ hc ⟨s7, ec, e⟩ => ?_, fun ρ ⟨s7, ec, e⟩ => ?_⟩)
      · subst e
        rw [e5] at hc
        obtain ⟨w1, w2⟩ := find_step (by rw [List.length_range]; exact hc) ec
        rw [List.getElem_range] at w1 w2
        refine eg_name ?_
        have ecc : (((a + 1 : Nat) : Int) + (c : Nat)) = ((a + 1 + c : Nat) : Int) := by omega
        rw [ecc]
        refine ex_ifp (b := diffs M l r a (a + 1 + c)) (et_test (ev_op (ev_op (ev_var rfl) (ev_var rfl) (o2_ixL (atI_nat (told_at ha)))) (ev_op (ev_var rfl) (ev_var rfl) (o2_ixL (atI_nat (told_at (show a + 1 + c < 5 by omega))))) (o2_ne (toldD_sh _ _ _ _) (toldD_sh _ _ _ _)))) (fun hd => ?_) fun hd => ex_next ?_
        · have hp : pairF (diffs M l r) a (a + 1 + c) = some (a, a + 1 + c) := by unfold pairF; rw [if_pos hd]
          have hin := q1 _ (w1 _ hp)
          have hm : partM l r M = some (partD M (a, a + 1 + c)) := by
            unfold partM
            rw [show outF (diffs M l r) = some (a, a + 1 + c) from hin]; rfl
          rw [hpo _ (k1 _ hm)]
          exact ex_ret (ef_d (ev_tup (ea_cons (ev_var rfl) (ea_two (ev_op (ev_const hR) (ev_var rfl) (o2_ixT (atI_nat (rules_at ha)))) (ev_op (ev_const hR) (ev_var rfl) (o2_ixT (atI_nat (rules_at (show a + 1 + c < 5 by omega)))))))) rfl)
        · have hp : pairF (diffs M l r) a (a + 1 + c) = none := by unfold pairF; rw [if_neg (by rw [hd]; exact Bool.false_ne_true)]
          exact ⟨_, w2 hp, rfl⟩
      · subst e
        rw [e5, List.drop_of_length_le (by rw [List.length_range]; exact Nat.le_refl _)] at ec
        exact ⟨_, _, q2 ec, rfl⟩
    · subst e
      have hn : partM l r M = none := by
        unfold partM
        have : outF (diffs M l r) = none := ea
        rw [this]; rfl
      exact ⟨_, _, _, _, k2 hn, rfl⟩
  · subst e
    rw [encM_len, List.drop_length] at ef
    have : partOf (memsTo n) l r = .none := by unfold partOf; rw [ef]; rfl
    rw [this]
    exact ex_ret (ef_d ev_non rfl)
end DL
set_option Elab.async false
set_option linter.all false
set_option maxRecDepth 100000
set_option maxHeartbeats 4000000
/-! L04r: the law k04, read. -/
namespace DL
open PySem PySem.Spec L2

def t_law04 (K : PySem.W.Frag) (A : Ad) : TS :=
  (tSeq (tAsg (tUser (sp_law_mix K A) (tCons (tVar 0) (tCons (tC (.int 11)) tNil))) (gName 1))
    (tSeq (tFor (iRng1 (tCons (tC (.int 6)) tNil)) (gName 2) (tSeq (tAsg (tOp (rAddA K) (tC (.int 1)) (tUser (sp_law_next K A) (tCons (tVar 1) (tCons (tC (.int 4)) tNil)))) (gName 3))
    (tSeq (tAsg (tOp (rIx K) (tLst (tCons (tC (.int 10)) (tCons (tC (.int 40)) tNil))) (tUser (sp_law_next K A) (tCons (tVar 1) (tCons (tC (.int 2)) tNil)))) (gName 4))
    (tSeq (tPar 5 6 (tCons (tUser (sp_law_program K A) (tCons (tVar 1) (tCons (tVar 3) (tCons (tVar 4) tNil)))) (tCons (tUser (sp_law_program K A) (tCons (tVar 1) (tCons (tVar 3) (tCons (tVar 4) tNil)))) tNil)))
    (tSeq (tAsg (tLst tNil) (gName 7))
    (tSeq (tFor (iRng1 (tCons (tCB (rMinA) (tCons (tCB (rLenA K) (tCons (tVar 5) tNil)) (tCons (tCB (rLenA K) (tCons (tVar 6) tNil)) tNil))) tNil)) (gName 8) (tIfS (tB (tUser (sp_law_meet K A) (tCons (tOp (rIx K) (tVar 5) (tVar 8)) (tCons (tOp (rIx K) (tVar 6) (tVar 8)) tNil)))) (tDrop (tBM K "list" rAppend (tVar 7) (tCons (tVar 8) tNil))) tNext))
    (tFor (iRng1 (tCons (tC (.int 2)) tNil)) (gName 9) (tSeq (tAsg (tUser (sp_clashes K A) (tCons (tVar 5) (tCons (tVar 6) tNil))) (gName 10))
    (tSeq (tIfS (tOr (tNot (tB (tUser (sp_law_alike K A) (tCons (tVar 10) (tCons (tVar 7) tNil))))) (tNot (tB (tUser (sp_law_alike K A) (tCons (tUser (sp_clashes K A) (tCons (tVar 6) (tCons (tVar 5) tNil))) (tCons (tVar 7) tNil)))))) (tRet (tC (.bl false))) tNext)
    (tDrop (tBM K "list" rAppend (tVar 10) (tCons (tC (.int 0)) tNil))))))))))))
    (tRet (tC (.bl true)))))

theorem clash_comm (a b : Deed) : a.clash b = b.clash a := by
  unfold Deed.clash
  rw [Bool.or_comm b.isWrite, Bool.and_comm (!b.isRest)]
  have : (b.cell == a.cell) = (a.cell == b.cell) := by rw [Bool.eq_iff_iff, beq_iff_eq, beq_iff_eq]; exact eq_comm
  rw [this]
theorem clashB_comm (l r : List Deed) : clashB l r = clashB r l := by
  unfold clashB
  rw [Nat.min_comm]
  congr 1
  funext i
  exact clash_comm _ _
def clashTo (l r : List Deed) (n : Nat) : List Nat := (List.range n).filter fun i => (deedAt l i).clash (deedAt r i)
theorem clashTo_succ (l r : List Deed) (n : Nat) : clashTo l r (n + 1) = clashTo l r n ++ if (deedAt l n).clash (deedAt r n) = true then [n] else [] := by
  unfold clashTo
  rw [List.range_succ, List.filter_append]
  congr 1
  cases h : (deedAt l n).clash (deedAt r n) with
  | true => rw [List.filter_cons, if_pos h, if_pos rfl]; rfl
  | false => rw [List.filter_cons, if_neg (by rw [h]; exact Bool.false_ne_true), if_neg Bool.false_ne_true]; rfl
theorem clashTo_len (l r : List Deed) (n : Nat) : (clashTo l r n).length ≤ n := by
  unfold clashTo
  have h := List.length_filter_le (fun i => (deedAt l i).clash (deedAt r i)) (List.range n)
  rwa [List.length_range] at h
theorem encN_len (ns : List Nat) : (encN ns).length = ns.length := List.length_map _
theorem alk_encN {ns : List Nat} (h : ns.length ≤ 1000000) : alk 8 (.list (encN ns)) := .list (by rw [encN_len]; exact h) fun x hx => by
  obtain ⟨n, _, rfl⟩ := List.mem_map.mp hx
  exact .int
theorem ev_clash_at {C : Cc} {A : Ad} {ρ : List Sl} {i j k m : Nat} {l r : List Deed} (h1 : ρ[i]? = some (.d (encP l))) (h2 : ρ[j]? = some (.d (encP r))) (h3 : ρ[k]? = some (.d (.int (m : Nat)))) (hl : m < l.length) (hr : m < r.length) :
    PD C (tUser (sp_law_meet C.K A) (tCons (tOp (rIx C.K) (tVar i) (tVar k)) (tCons (tOp (rIx C.K) (tVar j) (tVar k)) tNil))) ρ (.bool ((deedAt l m).clash (deedAt r m))) :=
  ev_dat (ea_two (ev_op (ev_var h1) (ev_var h3) (o2_ixL (encs_atI hl))) (ev_op (ev_var h2) (ev_var h3) (o2_ixL (encs_atI hr)))) ⟨_, _, rfl, rfl⟩
theorem minlen {C : Cc} {ρ : List Sl} {i j : Nat} {l r : List Deed} (h1 : ρ[i]? = some (.d (encP l))) (h2 : ρ[j]? = some (.d (encP r))) :
    PD C (tCB rMinA (tCons (tCB (rLenA C.K) (tCons (tVar i) tNil)) (tCons (tCB (rLenA C.K) (tCons (tVar j) tNil)) tNil))) ρ (.int ((min l.length r.length : Nat) : Int)) :=
  ev_is (ev_call (ea_two (ev_call (ea_one (ev_var h1)) (on_lenL (ds := encs l))) (ev_call (ea_one (ev_var h2)) (on_lenL (ds := encs r)))) on_min) (by rw [encs_len, encs_len, min_nat])
theorem rd_law04 {C : Cc} {A : Ad} {a : Addr} {ns : List Int} (hl : ns.length ≤ 63) (hb : ∀ z ∈ ns, bitOk z) :
    Ex C (t_law04 C.K A) [.ow (.scr C.K a ns), .no, .no, .no, .no, .no, .no, .no, .no, .no, .no] lawPo := by
  refine ex_seq (ex_asg (ef_mix (seed := 11) rfl hl hb ev_int (by decide) fun h => ?_))
  refine ex_seq (ex_for (ei_p (pi_r1 (j := 6) (ea_one ev_int) (by decide)) ⟨fun _ ρ => ∃ s2 s3 s4 s5 s6 s7 s8 s9 s10, ρ = [.ow (.scr C.K a ns), rnd h, s2, s3, s4, s5, s6, s7, s8, s9, s10], ⟨_, _, _, _, _, _, _, _, _, rfl⟩, fun i ρ hi ⟨s2, s3, s4, s5, s6, s7, s8, s9, s10, e⟩ => ?_, fun ρ _ => ex_ret (ef_d ev_bl rfl)⟩))
  subst e
  refine eg_name ?_
  -- cells, most
  refine ex_seq (ex_asg (ef_op (ef_d ev_int ⟨_, rfl, ef_next (n := 4) rfl ev_int (by decide) (by decide) fun c hc => ⟨_, _, rfl, o2_addI, ?_⟩⟩)))
  refine ex_seq (ex_asg (ef_op (ef_d (ev_lst (ea_two ev_int ev_int)) ⟨_, rfl, ef_next (n := 2) rfl ev_int (by decide) (by decide) fun m hm => ⟨_, .d (.int ((if m = 0 then 10 else 40 : Nat) : Int)), rfl, ?_, ?_⟩⟩)))
  · have : m = 0 ∨ m = 1 := by omega
    rcases this with e | e <;> subst e
    · exact o2_ixL (atI_nat (j := 0) rfl)
    · exact o2_ixL (atI_nat (j := 1) rfl)
  have hmost : (if m = 0 then 10 else 40 : Nat) ≤ 40 := by split <;> omega
  generalize (if m = 0 then 10 else 40 : Nat) = most at hmost
  have hc' : (1 : Int) + (c : Nat) = ((c + 1 : Nat) : Int) := by omega
  rw [hc']
  -- the programs
  refine ex_seq (ex_par (fa_cons (ef_program (n := c + 1) (m := most) rfl (ev_var rfl) (by omega) (by omega) (ef_d (ev_var rfl) ⟨rfl, rfl⟩) (by omega) fun l gl ll => ⟨_, rfl, fa_cons (ef_program (n := c + 1) (m := most) rfl (ev_var rfl) (by omega) (by omega) (ef_d (ev_var rfl) ⟨rfl, rfl⟩) (by omega) fun r gr lr => ⟨_, rfl, fa_nil ⟨_, _, rfl, ?_⟩⟩)⟩)))
  have gl4 : GoodP 4 l := fun d hd => (gl d hd).mono (by omega)
  have gr4 : GoodP 4 r := fun d hd => (gr d hd).mono (by omega)
  refine ex_seq (ex_set (s := own C.K []) (ev_lstO ea_nil) ?_)
  -- what is due
  refine ex_seq (ex_for (ei_p (pi_r1 (j := ((min l.length r.length : Nat) : Int)) (ea_one (minlen rfl rfl)) (by omega)) ⟨fun i ρ => ∃ s8, ρ = [.ow (.scr C.K a ns), rnd h, _, _, _, .d (encP l), .d (encP r), own C.K (encN (clashTo l r i)), s8, s9, s10], ⟨_, rfl⟩, fun k ρ hk ⟨s8, e⟩ => ?_, fun ρ ⟨s8, e⟩ => ?_⟩))
  · subst e
    have hk : k < min l.length r.length := by omega
    refine eg_name ?_
    refine ex_ifp (et_B (ev_clash_at (l := l) (r := r) (m := k) rfl rfl rfl (by omega) (by omega))) (fun e => ?_) fun e => ex_next ?_
    · refine ex_append (xs := encN (clashTo l r k)) rfl (ef_d (ev_var rfl) ⟨_, _, rfl, rfl, ?_, .d (.int (k : Nat)), ?_⟩)
      · rw [encN_len]
        have := clashTo_len l r k
        omega
      · rw [clashTo_succ, if_pos e]
        unfold encN
        rw [List.map_append]
        rfl
    · refine ⟨.d (.int (k : Nat)), ?_⟩
      rw [clashTo_succ, if_neg (by rw [e]; exact Bool.false_ne_true), List.append_nil]
      rfl
  subst e
  have ecl : clashTo l r ((min l.length r.length : Nat) : Int).toNat = clashB l r := by rw [Int.toNat_natCast]; rfl
  rw [ecl]
  have lcl : (clashB l r).length ≤ 40 := Nat.le_trans (clashTo_len l r (min l.length r.length)) (by omega)
  -- asked twice
  refine ex_for (ei_p (pi_r1 (j := 2) (ea_one ev_int) (by decide)) ⟨fun _ ρ => ∃ s8 s9 s10, ρ = [.ow (.scr C.K a ns), rnd h, _, _, _, .d (encP l), .d (encP r), own C.K (encN (clashB l r)), s8, s9, s10], ⟨_, _, _, rfl⟩, fun k ρ hk ⟨s8, s9, s10, e⟩ => ?_, fun ρ ⟨s8, s9, s10, e⟩ => ⟨_, _, _, _, _, _, _, _, _, e⟩⟩)
  subst e
  refine eg_name ?_
  refine ex_seq (ex_set (s := own C.K (encN (clashB l r))) (ev_lstf (ea_two (ev_var rfl) (ev_var rfl)) ⟨l, r, rfl, gl4, gr4, by omega, by omega, rfl⟩ .own) ?_)
  refine ex_seq (ex_ifp (b := false) (et_is (et_or (et_not (et_B (b := true) (vv_dat (va_cons (vv_var rfl) (va_cons (vv_var rfl) va_nil)) ⟨_, rfl, alk_encN (by omega), rfl⟩)))
    fun _ => et_not (et_B (b := true) (vv_dat (va_cons (vv_of (ev_lstf (ds := encN (clashB r l)) (ea_two (ev_var rfl) (ev_var rfl)) ⟨r, l, rfl, gr4, gl4, by omega, by omega, rfl⟩ .dat)) (va_cons (vv_var rfl) va_nil)) ⟨.list (encN (clashB l r)), by rw [clashB_comm r l], alk_encN (by omega), rfl⟩))) rfl) (fun h => nomatch h) fun _ => ex_next ?_)
  exact ex_append (xs := encN (clashB l r)) rfl (ef_d ev_int ⟨_, _, rfl, rfl, by rw [encN_len]; omega, _, _, _, rfl⟩)
end DL
set_option Elab.async false
set_option linter.all false
set_option maxRecDepth 100000
set_option maxHeartbeats 4000000
/-! DZ: the law's own memories and what is due; without clashes all rules are one. -/
namespace DL
open PySem PySem.Spec L2

/-! ### _law_memories -/
def lawMems (c : Nat) : List (List Nat) := (List.range (3 ^ c)).map fun n => (List.range c).map fun k => n / 3 ^ (c - 1 - k) % 3
theorem lawMems_eq {c : Nat} (h1 : 1 ≤ c) (h2 : c ≤ 4) : lawMems c = memsTo c := by
  have : c = 1 ∨ c = 2 ∨ c = 3 ∨ c = 4 := by omega
  rcases this with e | e | e | e <;> subst e <;> decide +kernel
def t_law_memories (K : PySem.W.Frag) (A : Ad) : TS :=
  (tSeq (tAsg (tLst tNil) (gName 1))
    (tSeq (tFor (iRng1 (tCons (tOp (rIx K) (tLst (tCons (tC (.int 3)) (tCons (tC (.int 9)) (tCons (tC (.int 27)) (tCons (tC (.int 81)) tNil))))) (tOp rSubA (tVar 0) (tC (.int 1)))) tNil)) (gName 2) (tDrop (tBM K "list" rAppend (tVar 1) (tCons (tCB (rTupleA K) (tCons (tLc (iRng1 (tCons (tVar 0) tNil)) (gName 3) tYes (tOp rModA (tOp rDivA (tVar 2) (tOp (rIx K) (tLst (tCons (tC (.int 1)) (tCons (tC (.int 3)) (tCons (tC (.int 9)) (tCons (tC (.int 27)) tNil))))) (tOp rSubA (tOp rSubA (tVar 0) (tC (.int 1))) (tVar 3)))) (tC (.int 3))) [3]) tNil)) tNil))))
    (tRet (tVar 1))))
def sp_law_memories (K : PySem.W.Frag) (A : Ad) : Sp := datSp K fun ds x => ∃ n : Nat, ds = [.int (n : Nat)] ∧ 1 ≤ n ∧ n ≤ 4 ∧ x = .list (encM (memsTo n))
theorem rd_law_memories {C : Cc} {A : Ad} {n : Nat} (h1 : 1 ≤ n) (h2 : n ≤ 4) : Ex C (t_law_memories C.K A) [.d (.int (n : Nat)), .no, .no, .no] (retD (.list (encM (memsTo n)))) := by
  have hp := pow3_le h2
  have hb : -(2 ^ 62) ≤ ((3 ^ n : Nat) : Int) ∧ ((3 ^ n : Nat) : Int) < 2 ^ 62 := by
    generalize 3 ^ n = N at hp
    omega
  refine ex_seq (ex_set (s := own C.K []) (ev_lstO ea_nil) ?_)
  refine ex_seq (ex_for (ei_p (pi_r1 (j := ((3 ^ n : Nat) : Int)) (ea_one (ev_op (ev_lst (ea_cons ev_int (ea_cons ev_int (ea_two ev_int ev_int)))) (ev_is (y := .int ((n - 1 : Nat) : Int)) (ev_op (ev_var rfl) ev_int o2_subI) (by congr 1; omega)) (o2_ixL (atI_nat ?_)))) hb) ⟨fun i ρ => ∃ s2, ρ = [.d (.int (n : Nat)), own C.K (encM ((lawMems n).take i)), s2, .no], ⟨_, rfl⟩, fun i ρ hi ⟨s2, e⟩ => ?_, fun ρ ⟨s2, e⟩ => ?_⟩))
  · have : n = 1 ∨ n = 2 ∨ n = 3 ∨ n = 4 := by omega
    rcases this with e | e | e | e <;> subst e <;> rfl
  · subst e
    have hi : i < 3 ^ n := by rw [Int.toNat_natCast] at hi; exact hi
    have hlm : (lawMems n).length = 3 ^ n := by unfold lawMems; rw [List.length_map, List.length_range]
    have hit : (lawMems n)[i]'(by rw [hlm]; exact hi) = (List.range n).map fun k => i / 3 ^ (n - 1 - k) % 3 := by
      unfold lawMems
      rw [List.getElem_map, List.getElem_range]
    refine eg_name ?_
    refine ex_app (x := .tuple (encN ((List.range n).map fun k => i / 3 ^ (n - 1 - k) % 3))) (lr_own rfl) (ev_call (ea_one (ev_lc (s := .d (.list (encN ((List.range n).map fun k => i / 3 ^ (n - 1 - k) % 3)))) (fun k => [.d (.int (n : Nat)), own C.K (encM ((lawMems n).take i)), .d (.int (i : Nat)), .d (.int (k : Nat))]) (fun _ => true) (fun k => .int ((i / 3 ^ (n - 1 - k) % 3 : Nat) : Int)) (pi_r1 (j := (n : Nat)) (ea_one (ev_var rfl)) (by omega)) (by omega) (fun k hk => gp_name (List.mem_singleton.mpr rfl)) (fun k hk => fun σ Hb H fp W Q q => q Hb H (Step.refl W.same)) (fun k hk _ => ?_) ?_)) on_tupleL) ?_ ?_
    · have hk : k < n := by omega
      have hpw : 3 ^ (n - 1 - k) ≤ 81 := pow3_le (by omega)
      have hpos : 0 < 3 ^ (n - 1 - k) := Nat.pow_pos (show 0 < 3 by decide)
      refine ev_is (ev_op (ev_op (ev_var rfl) (ev_op (ev_lst (ea_cons ev_int (ea_cons ev_int (ea_two ev_int ev_int)))) (ev_is (y := .int ((n - 1 - k : Nat) : Int)) (ev_op (ev_op (ev_var rfl) ev_int o2_subI) (ev_var rfl) o2_subI) (by congr 1; omega)) (o2_ixL (z := .int ((3 ^ (n - 1 - k) : Nat) : Int)) (atI_nat ?_))) (o2_divI (by omega) (by omega))) ev_int (o2_modI (by decide))) ?_
      · have hj : n - 1 - k < 4 := by omega
        generalize n - 1 - k = j at hj
        have : j = 0 ∨ j = 1 ∨ j = 2 ∨ j = 3 := by omega
        rcases this with e | e | e | e <;> subst e <;> rfl
      · congr 1
    · have : ((n : Nat) : Int).toNat = n := by omega
      rw [this, made_all]
      have : (List.range n).map (fun k => (.int ((i / 3 ^ (n - 1 - k) % 3 : Nat) : Int) : D)) = encN ((List.range n).map fun k => i / 3 ^ (n - 1 - k) % 3) := by
        unfold encN; rw [List.map_map]; rfl
      rw [this]; exact .dat
    · rw [encM_len, List.length_take]; omega
    · refine ⟨.d (.int (i : Nat)), ?_⟩
      rw [List.take_succ_eq_append_getElem (by rw [hlm]; exact hi), hit, ← encM_app]; rfl
  · subst e
    have e1 : ((3 ^ n : Nat) : Int).toNat = 3 ^ n := Int.toNat_natCast _
    have hlm : (lawMems n).length = 3 ^ n := by unfold lawMems; rw [List.length_map, List.length_range]
    rw [e1, ← hlm, List.take_length, lawMems_eq h1 h2]
    exact ex_ret (ef_frz (i := 1) rfl rfl)

/-! ### _law_due -/
def t_law_due (K : PySem.W.Frag) (A : Ad) : TS :=
  (tSeq (tAsg (tLst (tCons (tC (.str "old")) (tCons (tC (.str "new")) (tCons (tC (.str "left")) (tCons (tC (.str "right")) (tCons (tC (.str "wait")) tNil)))))) (gName 3))
    (tSeq (tFor (iList K (tUser (sp_law_memories K A) (tCons (tVar 0) tNil))) (gName 4) (tSeq (tAsg (tLc (iList K (tVar 3)) (gName 6) tYes (tSl (rSlX K) (tUser (sp_law_run K A) (tCons (tVar 6) (tCons (tVar 4) (tCons (tVar 1) (tCons (tVar 2) tNil))))) tNoPart (tPart (tC (.int 3)))) [6]) (gName 5))
    (tFor (iRng1 (tCons (tC (.int 10)) tNil)) (gName 7) (tSeq (tPar 8 9 (tCons (tOp (rIx K) (tLst (tCons (tC (.int 0)) (tCons (tC (.int 0)) (tCons (tC (.int 0)) (tCons (tC (.int 0)) (tCons (tC (.int 1)) (tCons (tC (.int 1)) (tCons (tC (.int 1)) (tCons (tC (.int 2)) (tCons (tC (.int 2)) (tCons (tC (.int 3)) tNil))))))))))) (tVar 7)) (tCons (tOp (rIx K) (tLst (tCons (tC (.int 1)) (tCons (tC (.int 2)) (tCons (tC (.int 3)) (tCons (tC (.int 4)) (tCons (tC (.int 2)) (tCons (tC (.int 3)) (tCons (tC (.int 4)) (tCons (tC (.int 3)) (tCons (tC (.int 4)) (tCons (tC (.int 4)) tNil))))))))))) (tVar 7)) tNil)))
    (tIfS (tTest (tOp (rNeD K) (tOp (rIx K) (tVar 5) (tVar 8)) (tOp (rIx K) (tVar 5) (tVar 9)))) (tRet (tTup (tCons (tVar 4) (tCons (tOp (rIx K) (tVar 3) (tVar 8)) (tCons (tOp (rIx K) (tVar 3) (tVar 9)) tNil))))) tNext)))))
    (tRet (tC .non))))
def sp_law_due (K : PySem.W.Frag) (A : Ad) : Sp := datSp K fun ds x => ∃ (n : Nat) (l r : List Deed), ds = [.int (n : Nat), encP l, encP r] ∧ 1 ≤ n ∧ n ≤ 4 ∧ GoodP n l ∧ GoodP n r ∧ l.length ≤ 40 ∧ r.length ≤ 40 ∧ x = partOf (memsTo n) l r
theorem nums10 (f : Nat → Nat) (k : Nat) (h : k < 10) : [(.int (f 0 : Nat) : D), .int (f 1 : Nat), .int (f 2 : Nat), .int (f 3 : Nat), .int (f 4 : Nat), .int (f 5 : Nat), .int (f 6 : Nat), .int (f 7 : Nat), .int (f 8 : Nat), .int (f 9 : Nat)][k]? = some (.int (f k : Nat)) := by
  have : k = 0 ∨ k = 1 ∨ k = 2 ∨ k = 3 ∨ k = 4 ∨ k = 5 ∨ k = 6 ∨ k = 7 ∨ k = 8 ∨ k = 9 := by omega
  rcases this with e | e | e | e | e | e | e | e | e | e <;> subst e <;> rfl
theorem prA_lt {k : Nat} (h : k < 10) : prA.getD k 0 < 5 ∧ prB.getD k 0 < 5 := by
  have : k = 0 ∨ k = 1 ∨ k = 2 ∨ k = 3 ∨ k = 4 ∨ k = 5 ∨ k = 6 ∨ k = 7 ∨ k = 8 ∨ k = 9 := by omega
  rcases this with e | e | e | e | e | e | e | e | e | e <;> subst e <;> decide
theorem rd_law_due {C : Cc} {A : Ad} {n : Nat} {l r : List Deed} (h1 : 1 ≤ n) (h2 : n ≤ 4) (hl : GoodP n l) (hr : GoodP n r) (ll : l.length ≤ 40) (lr : r.length ≤ 40) :
    Ex C (t_law_due C.K A) [.d (.int (n : Nat)), .d (encP l), .d (encP r), .no, .no, .no, .no, .no, .no, .no] (retD (partOf (memsTo n) l r)) := by
  refine ex_seq (ex_set (s := .d (.list [.str "old", .str "new", .str "left", .str "right", .str "wait"])) (ev_lst (ea_cons ev_str (ea_cons ev_str (ea_cons ev_str (ea_two ev_str ev_str))))) ?_)
  refine ex_seq (ex_for (ei_p (pi_l (ds := encM (memsTo n)) (ev_dat (ea_one (ev_var rfl)) ⟨n, rfl, h1, h2, rfl⟩)) ⟨fun i ρ => ∃ s4 s5 s7 s8 s9, (memsTo n).findSome? (partM l r) = ((memsTo n).drop i).findSome? (partM l r) ∧ ρ = [.d (.int (n : Nat)), .d (encP l), .d (encP r), .d (.list [.str "old", .str "new", .str "left", .str "right", .str "wait"]), s4, s5, .no, s7, s8, s9], ⟨_, _, _, _, _, rfl, rfl⟩, fun i ρ hi ⟨s4, s5, s7, s8, s9, ef, e⟩ => ?_, fun ρ ⟨s4, s5, s7, s8, s9, ef, e⟩ => ?_⟩))
  · subst e
    rw [encM_len] at hi
    rw [encM_item hi]
    have hml := (memsTo_good n _ (List.getElem_mem hi)).1
    obtain ⟨k1, k2⟩ := find_step hi ef
    have hpo : ∀ x, (memsTo n).findSome? (partM l r) = some x → partOf (memsTo n) l r = x := fun x hx => by unfold partOf; rw [hx]; rfl
    generalize (memsTo n)[i] = M at *
    have gl : GoodP M.length l := by rw [hml]; exact hl
    have gr : GoodP M.length r := by rw [hml]; exact hr
    refine eg_name ?_
    refine ex_seq (ex_set (s := .d (.list ((List.range 5).map fun k => toldD (ruleAt k) M l r))) (ev_lc (n := 5) (item := itemOf [.str "old", .str "new", .str "left", .str "right", .str "wait"]) (fun j => [.d (.int (n : Nat)), .d (encP l), .d (encP r), .d (.list [.str "old", .str "new", .str "left", .str "right", .str "wait"]), .d (.tuple (encN M)), s5, .d (.str (ruleAt j).word), s7, s8, s9]) (fun _ => true) (fun j => toldD (ruleAt j) M l r) (pi_l (ds := [.str "old", .str "new", .str "left", .str "right", .str "wait"]) (ev_var rfl)) (by decide) (fun j hj => ?_) (fun j hj => ?_) (fun j hj _ => ?_) ?_) ?_)
    · have : itemOf [(.str "old" : D), .str "new", .str "left", .str "right", .str "wait"] j = .str (ruleAt j).word := itemOf_some (rules_at hj)
      rw [this]
      exact gp_name (List.mem_singleton.mpr rfl)
    · exact fun σ Hb H fp W Q q => q Hb H (Step.refl W.same)
    · exact ev_sl (ev_dat (x := encRun (runOf (ruleAt j) M l r)) (ea_cons (ev_var rfl) (ea_cons (ev_var rfl) (ea_two (ev_var rfl) (ev_var rfl)))) ⟨ruleAt j, M, l, r, rfl, gl, gr, by omega, by omega, rfl⟩) eo_no (eo_part (ev_int (i := ((3 : Nat) : Int)))) (by
        have := os_tup (K := C.K) (ds := (.list (encN (runOf (ruleAt j) M l r).1.s0) :: .list (encN (runOf (ruleAt j) M l r).1.s1) :: [.tuple (encN (runOf (ruleAt j) M l r).1.mem), .int ((runOf (ruleAt j) M l r).2 : Nat)])) (lo := none) (hi := some ((3 : Nat) : Int))
        rw [cut_pre] at this
        exact this)
    · rw [made_all]; exact .dat
    refine ex_for (ei_p (pi_r1 (j := 10) (ea_one ev_int) (by decide)) ⟨fun a ρ => ∃ s7 s8 s9, lawF (diffs M l r) = ((List.range 10).drop a).findSome? (fun k => pairF (diffs M l r) (prA.getD k 0) (prB.getD k 0)) ∧ ρ = [.d (.int (n : Nat)), .d (encP l), .d (encP r), .d (.list [.str "old", .str "new", .str "left", .str "right", .str "wait"]), .d (.tuple (encN M)), .d (.list ((List.range 5).map fun k => toldD (ruleAt k) M l r)), .no, s7, s8, s9], ⟨_, _, _, rfl, rfl⟩, fun a ρ ha ⟨s7, s8, s9, ea, e⟩ => ?_, fun ρ ⟨s7, s8, s9, ea, e⟩ => ?_⟩)
    · subst e
      have ha : a < 10 := ha
      obtain ⟨q1, q2⟩ := find_step (by rw [List.length_range]; exact ha) ea
      rw [List.getElem_range] at q1 q2
      obtain ⟨lt1, lt2⟩ := prA_lt ha
      refine eg_name ?_
      refine ex_seq (ex_par (fa_p (ea_two (x := .int (prA.getD a 0 : Nat)) (y := .int (prB.getD a 0 : Nat))
        (ev_op (ev_lst (ea_cons ev_int (ea_cons ev_int (ea_cons ev_int (ea_cons ev_int (ea_cons ev_int (ea_cons ev_int (ea_cons ev_int (ea_cons ev_int (ea_two ev_int ev_int)))))))))) (ev_var rfl) (o2_ixL (atI_nat (nums10 (fun k => prA.getD k 0) a ha))))
        (ev_op (ev_lst (ea_cons ev_int (ea_cons ev_int (ea_cons ev_int (ea_cons ev_int (ea_cons ev_int (ea_cons ev_int (ea_cons ev_int (ea_cons ev_int (ea_two ev_int ev_int)))))))))) (ev_var rfl) (o2_ixL (atI_nat (nums10 (fun k => prB.getD k 0) a ha))))) ⟨_, _, rfl, ?_⟩))
      generalize prA.getD a 0 = p at *
      generalize prB.getD a 0 = q at *
      refine ex_ifp (b := diffs M l r p q) (et_test (ev_op (ev_op (ev_var rfl) (ev_var rfl) (o2_ixL (atI_nat (told_at lt1)))) (ev_op (ev_var rfl) (ev_var rfl) (o2_ixL (atI_nat (told_at lt2)))) (o2_ne (toldD_sh _ _ _ _) (toldD_sh _ _ _ _)))) (fun hd => ?_) fun hd => ex_next ?_
      · have hp : pairF (diffs M l r) p q = some (p, q) := by unfold pairF; rw [if_pos hd]
        have hin := q1 _ hp
        have hm : partM l r M = some (partD M (p, q)) := by
          unfold partM
          rw [← lawF_eq, show lawF (diffs M l r) = some (p, q) from hin]; rfl
        rw [hpo _ (k1 _ hm)]
        exact ex_ret (ef_d (ev_tup (ea_cons (ev_var rfl) (ea_two (ev_op (ev_var rfl) (ev_var rfl) (o2_ixL (atI_nat (rules_at lt1)))) (ev_op (ev_var rfl) (ev_var rfl) (o2_ixL (atI_nat (rules_at lt2))))))) rfl)
      · have hp : pairF (diffs M l r) p q = none := by unfold pairF; rw [if_neg (by rw [hd]; exact Bool.false_ne_true)]
        exact ⟨_, _, _, q2 hp, rfl⟩
    · subst e
      have hn : partM l r M = none := by
        unfold partM
        have : lawF (diffs M l r) = none := ea
        rw [← lawF_eq, this]; rfl
      exact ⟨_, _, _, _, _, k2 hn, rfl⟩
  · subst e
    rw [encM_len, List.drop_length] at ef
    have : partOf (memsTo n) l r = .none := by unfold partOf; rw [ef]; rfl
    rw [this]
    exact ex_ret (ef_d ev_non rfl)

/-! ### without clashes -/
theorem getD_set_ne {m : List Nat} {c c' w : Nat} (h : c' ≠ c) : (m.set c' w).getD c 0 = m.getD c 0 := by
  rw [List.getD_eq_getElem?_getD, List.getD_eq_getElem?_getD, List.getElem?_set_ne h]
theorem wrD_comm {mem : List Nat} {one other : Deed} (h : one.clash other = false) : wrD (wrD mem other) one = wrD (wrD mem one) other := by
  cases one with
  | rest => rfl
  | read c => rfl
  | write c w =>
    cases other with
    | rest => rfl
    | read c' => rfl
    | write c' w' =>
      have hc : c ≠ c' := fun e => by subst e; simp [Deed.clash, Deed.isRest, Deed.cell, Deed.isWrite] at h
      exact List.set_comm _ _ hc.symm
theorem rd_wr {mem : List Nat} {one other : Deed} (h : one.clash other = false) : rdD (wrD mem other) one = rdD mem one := by
  cases one with
  | rest => rfl
  | write c w => rfl
  | read c =>
    cases other with
    | rest => rfl
    | read c' => rfl
    | write c' w' =>
      have hc : c' ≠ c := fun e => by subst e; simp [Deed.clash, Deed.isRest, Deed.cell, Deed.isWrite] at h
      show [(mem.set c' w').getD c 0] = _
      rw [getD_set_ne hc]; rfl
theorem rd_self (mem : List Nat) (d : Deed) : rdD (wrD mem d) d = rdD mem d := by cases d <;> rfl
theorem beat_free (b : BN) (u : Rule) {one other : Deed} (h : one.clash other = false) : b.beat u one other = ⟨wrD (wrD b.mem one) other, b.s0 ++ rdD b.mem one, b.s1 ++ rdD b.mem other⟩ := by
  have h' : other.clash one = false := by rw [clash_comm]; exact h
  have e1 : wrD (wrD b.mem other) one = wrD (wrD b.mem one) other := wrD_comm h
  have r0 : rdD (wrD (wrD b.mem one) other) one = rdD b.mem one := by rw [rd_wr h, rd_self]
  have r1 : rdD (wrD (wrD b.mem one) other) other = rdD b.mem other := by rw [rd_self, rd_wr h']
  have main : ∀ u : Rule, u ≠ .wait → b.beat u one other = ⟨wrD (wrD b.mem one) other, b.s0 ++ rdD b.mem one, b.s1 ++ rdD b.mem other⟩ := fun u hu => by
    rw [beat_is b u hu]
    cases u <;> simp [behind, look0, look1, e1, r0, r1] at hu ⊢
  cases u with
  | wait => exact main .left (fun z => nomatch z)
  | old => exact main .old (fun z => nomatch z)
  | new => exact main .new (fun z => nomatch z)
  | left => exact main .left (fun z => nomatch z)
  | right => exact main .right (fun z => nomatch z)
def Free (l r : List Deed) : Prop := ∀ i, (deedAt l i).clash (deedAt r i) = false
theorem deedAt_tail (l : List Deed) (i : Nat) : deedAt l.tail i = deedAt l (i + 1) := by cases l <;> rfl
theorem Free.tail {l r : List Deed} (h : Free l r) : Free l.tail r.tail := fun i => by rw [deedAt_tail, deedAt_tail]; exact h (i + 1)
theorem run_free : ∀ (n : Nat) (b : BN) (l r : List Deed) (u v : Rule), Free l r → runF u n b l r = runF v n b l r
  | 0, b, l, r, u, v, _ => rfl
  | n + 1, b, l, r, u, v, h => by
    have h0 := h 0
    rw [deedAt0, deedAt0] at h0
    unfold runF
    have hc : ∀ u : Rule, ¬ (u = .wait ∧ (l.headD .rest).clash (r.headD .rest) = true) := fun u ⟨_, z⟩ => by rw [h0] at z; cases z
    rw [if_neg (hc u), if_neg (hc v), beat_free b u h0, beat_free b v h0, run_free n _ l.tail r.tail u v h.tail]
theorem free_of {l r : List Deed} (h : clashB l r = []) : Free l r := fun i => by
  by_cases hi : i < min l.length r.length
  · cases hc : (deedAt l i).clash (deedAt r i) with
    | false => rfl
    | true =>
      have : i ∈ clashB l r := List.mem_filter.mpr ⟨List.mem_range.mpr hi, hc⟩
      rw [h] at this; cases this
  · have : l.length ≤ i ∨ r.length ≤ i := by omega
    rcases this with z | z
    · rw [deedAt_out z]; rfl
    · rw [deedAt_out (l := r) z, clash_comm]; rfl
theorem find_none {α β : Type} {f : α → Option β} : ∀ {xs : List α}, (∀ x ∈ xs, f x = none) → xs.findSome? f = none
  | [], _ => rfl
  | x :: xs, h => by rw [List.findSome?_cons, h x List.mem_cons_self]; exact find_none fun y hy => h y (List.mem_cons_of_mem _ hy)
theorem part_free {l r : List Deed} (h : Free l r) (mems : List (List Nat)) : partOf mems l r = .none := by
  unfold partOf
  rw [find_none]; · rfl
  intro m _
  unfold partM
  have hd : ∀ i j, diffs m l r i j = false := fun i j => by
    have e : toldD (ruleAt i) m l r = toldD (ruleAt j) m l r := by
      unfold toldD runOf
      rw [run_free _ _ l r (ruleAt i) (ruleAt j) h]
    unfold diffs
    rw [e, eqv_same (toldD_sh _ _ _ _)]; rfl
  have : outF (diffs m l r) = none := find_none fun i _ => find_none fun k _ => by
    unfold pairF
    rw [hd]; rfl
  rw [this]; rfl
end DL
set_option Elab.async false
set_option linter.all false
set_option maxRecDepth 100000
set_option maxHeartbeats 4000000
/-! EA: fitted: it never clashes, its reason is shown, it rests the fewest times; the law's own _law_placed, _law_least. -/
namespace DL
open PySem PySem.Spec L2

/-! ### it never clashes -/
theorem rest_clash' (d : Deed) : d.clash .rest = false := by rw [clash_comm]; rfl
theorem deedAt_app_left {a b : List Deed} {k : Nat} (h : k < a.length) : deedAt (a ++ b) k = deedAt a k := by
  unfold deedAt
  rw [List.getD_eq_getElem?_getD, List.getD_eq_getElem?_getD, List.getElem?_append_left h]
theorem deedAt_app_right {a b : List Deed} {k : Nat} (h : a.length ≤ k) : deedAt (a ++ b) k = deedAt b (k - a.length) := by
  unfold deedAt
  rw [List.getD_eq_getElem?_getD, List.getD_eq_getElem?_getD, List.getElem?_append_right h]
theorem deedAt_rep (n k : Nat) : deedAt (List.replicate n .rest) k = .rest := by
  unfold deedAt
  rw [List.getD_eq_getElem?_getD, List.getElem?_replicate]
  split <;> rfl
theorem fit_free {l r : List Deed} : ∀ {i : Nat}, i ≤ r.length → Free l (fitTo l r i).f
  | 0, _, k => by rw [show (fitTo l r 0).f = [] from rfl, deedAt_out (l := []) (Nat.zero_le _)]; exact rest_clash' _
  | i + 1, h, k => by
    have ih := fit_free (l := l) (r := r) (i := i) (by omega)
    rw [fitTo_succ (by omega)]
    unfold fitStep
    show (deedAt l k).clash (deedAt ((fitTo l r i).f ++ List.replicate (waitAt l r[i] (fitTo l r i).f.length) .rest ++ [r[i]]) k) = false
    generalize fitTo l r i = S at *
    have hno := waitAt_no l r[i] S.f.length
    generalize waitAt l r[i] S.f.length = w at *
    by_cases h1 : k < S.f.length
    · rw [deedAt_app_left (by rw [List.length_append]; omega), deedAt_app_left h1]
      exact ih k
    · by_cases h2 : k < S.f.length + w
      · rw [deedAt_app_left (by rw [List.length_append, List.length_replicate]; exact h2), deedAt_app_right (by omega), deedAt_rep]
        exact rest_clash' _
      · rw [deedAt_app_right (by rw [List.length_append, List.length_replicate]; omega), List.length_append, List.length_replicate]
        by_cases h3 : k = S.f.length + w
        · subst h3
          rw [Nat.sub_self]
          exact hno
        · rw [deedAt_out (l := [r[i]]) (by rw [List.length_singleton]; omega)]
          exact rest_clash' _
theorem fitOf_free (l r : List Deed) : Free l (fitOf l r).f := by rw [← fitTo_all]; exact fit_free (Nat.le_refl _)
theorem free_no {l r : List Deed} (h : Free l r) : clashB l r = [] := by
  unfold clashB
  rw [List.filter_eq_nil_iff]
  intro i _ z
  rw [h i] at z; cases z
theorem fit_good {l r : List Deed} {cells : Nat} (hr : GoodP cells r) : ∀ {i : Nat}, i ≤ r.length → GoodP cells (fitTo l r i).f
  | 0, _ => fun _ z => nomatch z
  | i + 1, h => fun d hd => by
    rw [fitTo_succ (by omega)] at hd
    unfold fitStep at hd
    have hd : d ∈ (fitTo l r i).f ++ List.replicate (waitAt l r[i] (fitTo l r i).f.length) .rest ++ [r[i]] := hd
    rcases List.mem_append.mp hd with z | z
    · rcases List.mem_append.mp z with z | z
      · exact fit_good hr (by omega) d z
      · rw [(List.mem_replicate.mp z).2]; trivial
    · rw [List.mem_singleton.mp z]; exact hr _ (List.getElem_mem _)
theorem fitOf_good {l r : List Deed} {cells : Nat} (hr : GoodP cells r) : GoodP cells (fitOf l r).f := by rw [← fitTo_all]; exact fit_good hr (Nat.le_refl _)
theorem fitOf_len (l r : List Deed) : (fitOf l r).f.length ≤ r.length + l.length := by rw [← fitTo_all]; exact (fitTo_len (Nat.le_refl _)).2

/-! ### its reason is shown -/
theorem shows_whys {l r : List Deed} {p n c W : Nat} {last : Int} (hn : n < r.length) (hp : p = n + c) (hw : ∀ j, j < W → (deedAt l (p + j)).clash (deedAt r n) = true) (hlast : last ≤ (n : Int)) :
    ∀ {w : Nat} {rest : List (Int × Int)}, w ≤ W → (∀ last' : Int, last ≤ last' → last' ≤ (n : Int) → showsFrom l r (c + w) last' rest = true) → showsFrom l r c last (whys p n w ++ rest) = true
  | 0, rest, _, h => h last (Int.le_refl _) hlast
  | w + 1, rest, hW, h => by
    rw [whys_succ, List.append_assoc]
    refine shows_whys hn hp hw hlast (w := w) (by omega) fun last' h1 h2 => ?_
    show showsFrom l r (c + w) last' ((((p + w : Nat) : Int), (n : Int)) :: rest) = true
    unfold showsFrom
    rw [if_pos ⟨h2, by show (n : Int) < _; omega, by show ((p + w : Nat) : Int) = (n : Int) + ((c + w : Nat) : Int); omega⟩, if_pos (by
      have := hw w (by omega)
      show (deedAt l (((p + w : Nat) : Int)).toNat).clash (deedAt r ((n : Int)).toNat) = true
      rw [Int.toNat_natCast, Int.toNat_natCast]; exact this)]
    exact h (n : Int) (by omega) (Int.le_refl _)
theorem shows_fitTo {l r : List Deed} : ∀ {i : Nat} {rest : List (Int × Int)}, i ≤ r.length → (∀ last : Int, 0 ≤ last → last ≤ (i : Int) → showsFrom l r (fitTo l r i).r.length last rest = true) → showsFrom l r 0 0 ((fitTo l r i).r ++ rest) = true
  | 0, rest, _, h => h 0 (Int.le_refl _) (Int.le_refl _)
  | i + 1, rest, hi, h => by
    have hlt : i < r.length := by omega
    have hs := fitTo_succ (l := l) hlt
    have e1 : (fitTo l r (i + 1)).r = (fitTo l r i).r ++ whys (fitTo l r i).f.length i (waitAt l r[i] (fitTo l r i).f.length) := by
      rw [hs]; unfold fitStep
      show _ ++ whys _ (fitTo l r i).n _ = _
      rw [fitTo_n (by omega)]
    rw [e1, List.append_assoc]
    refine shows_fitTo (i := i) (by omega) fun last h0 h1 => ?_
    refine shows_whys (W := waitAt l r[i] (fitTo l r i).f.length) hlt ((fitTo_len (by omega)).1) (fun j hj => by rw [deedAt_eq hlt]; exact waitAt_lt hj) h1 (Nat.le_refl _) fun last' h2 h3 => ?_
    have e2 : (fitTo l r i).r.length + waitAt l r[i] (fitTo l r i).f.length = (fitTo l r (i + 1)).r.length := by rw [e1, List.length_append, whys_len]
    rw [e2]
    exact h last' (by omega) (by omega)
theorem shows_fit (l r : List Deed) : showsB l r (fitOf l r).r = true := by
  have := shows_fitTo (l := l) (r := r) (i := r.length) (rest := []) (Nat.le_refl _) fun last _ _ => rfl
  rw [List.append_nil, fitTo_all] at this
  exact this

/-! ### the fewest -/
/-- rests from a beat on, each deed as soon as it can -/
def greed (l : List Deed) : Nat → List Deed → Nat → Nat
  | 0, _, _ => 0
  | _ + 1, [], _ => 0
  | n + 1, d :: r, b => if (deedAt l b).clash d = true then 1 + greed l n (d :: r) (b + 1) else greed l n r (b + 1)
theorem greed_nil (l : List Deed) (n b : Nat) : greed l n [] b = 0 := by cases n <;> rfl
theorem greed_more {l : List Deed} : ∀ (n : Nat) (d : Deed) (r : List Deed) (b : Nat), greed l n r b ≤ 1 + greed l n (d :: r) b
  | 0, _, _, _ => Nat.zero_le _
  | n + 1, d, [], b => Nat.zero_le _
  | n + 1, d, e :: r, b => by
    have ih1 := greed_more (l := l) n d (e :: r) (b + 1)
    have ih2 := greed_more (l := l) n e r (b + 1)
    unfold greed
    by_cases h1 : (deedAt l b).clash e = true <;> by_cases h2 : (deedAt l b).clash d = true
    · rw [if_pos h1, if_pos h2]; omega
    · rw [if_pos h1, if_neg h2]; omega
    · rw [if_neg h1, if_pos h2]; omega
    · rw [if_neg h1, if_neg h2]; omega
/-- the least, by trying -/
def leastF (l : List Deed) : Nat → List Deed → Nat → Nat
  | 0, _, _ => 0
  | n + 1, r, b => if r = [] then 0 else if l.length ≤ b then 0 else if (deedAt l b).clash (r.headD .rest) = true then 1 + leastF l n r (b + 1) else min (1 + leastF l n r (b + 1)) (leastF l n r.tail (b + 1))
theorem greed_out {l : List Deed} : ∀ (n : Nat) (r : List Deed) (b : Nat), l.length ≤ b → greed l n r b = 0
  | 0, _, _, _ => rfl
  | n + 1, [], _, _ => rfl
  | n + 1, d :: r, b, h => by
    unfold greed
    rw [deedAt_out h, if_neg (by rw [rest_clash]; exact Bool.false_ne_true)]
    exact greed_out n r (b + 1) (by omega)
theorem least_greed {l : List Deed} : ∀ (n : Nat) (r : List Deed) (b : Nat), leastF l n r b = greed l n r b
  | 0, _, _ => rfl
  | n + 1, [], b => rfl
  | n + 1, d :: r, b => by
    unfold leastF
    rw [if_neg (fun z => nomatch z)]
    by_cases hb : l.length ≤ b
    · rw [if_pos hb, greed_out _ _ _ hb]
    · rw [if_neg hb]
      unfold greed
      show (if (deedAt l b).clash d = true then _ else min (1 + leastF l n (d :: r) (b + 1)) (leastF l n r (b + 1))) = _
      rw [least_greed n (d :: r) (b + 1), least_greed n r (b + 1)]
      have := greed_more (l := l) n d r (b + 1)
      split
      · rfl
      · omega
theorem greed_fuel {l : List Deed} : ∀ (n m : Nat) (r : List Deed) (b : Nat), l.length ≤ b + n → l.length ≤ b + m → greed l n r b = greed l m r b
  | 0, m, r, b, h, _ => by rw [greed_out m r b (by omega)]; rfl
  | n + 1, 0, r, b, _, h => by rw [greed_out (n + 1) r b (by omega)]; rfl
  | n + 1, m + 1, [], b, _, _ => rfl
  | n + 1, m + 1, d :: r, b, h1, h2 => by
    unfold greed
    rw [greed_fuel n m (d :: r) (b + 1) (by omega) (by omega), greed_fuel n m r (b + 1) (by omega) (by omega)]
/-- rests of what follows a beat -/
def greedAt (l r : List Deed) (b : Nat) : Nat := greed l (l.length - b) r b
theorem greed_waits {l : List Deed} {d : Deed} {r : List Deed} : ∀ (f b : Nat), l.length ≤ b + f → greed l f (d :: r) b = waits l d f b + greedAt l r (b + waits l d f b + 1)
  | 0, b, h => by
    show 0 = 0 + greedAt l r (b + 0 + 1)
    unfold greedAt
    rw [greed_out _ _ _ (by omega)]
  | f + 1, b, h => by
    unfold greed waits
    by_cases hc : (deedAt l b).clash d = true
    · rw [if_pos hc, if_pos hc, greed_waits f (b + 1) (by omega)]
      have e : b + 1 + waits l d f (b + 1) + 1 = b + (waits l d f (b + 1) + 1) + 1 := by omega
      rw [e]; omega
    · rw [if_neg hc, if_neg hc, Nat.zero_add]
      unfold greedAt
      exact greed_fuel _ _ _ _ (by omega) (by omega)
theorem fold_rests {l : List Deed} : ∀ (r : List Deed) (s : Fit), (r.foldl (fitStep l) s).r.length = s.r.length + greedAt l r s.f.length
  | [], s => by unfold greedAt; rw [greed_nil]; rfl
  | d :: r, s => by
    rw [List.foldl_cons, fold_rests r]
    unfold fitStep
    show (s.r ++ whys _ _ _).length + greedAt l r (s.f ++ List.replicate (waitAt l d s.f.length) Deed.rest ++ [d]).length = _
    rw [List.length_append, whys_len, List.length_append, List.length_append, List.length_replicate, List.length_singleton]
    have := greed_waits (l := l) (d := d) (r := r) (l.length - s.f.length) s.f.length (by omega)
    have e : greedAt l (d :: r) s.f.length = greed l (l.length - s.f.length) (d :: r) s.f.length := rfl
    have e2 : waits l d (l.length - s.f.length) s.f.length = waitAt l d s.f.length := rfl
    rw [e2] at this
    rw [e, this]; omega
theorem fit_least (l r : List Deed) : leastF l l.length r 0 = (fitOf l r).r.length := by
  have := fold_rests (l := l) r ⟨[], [], 0⟩
  unfold fitOf
  rw [this, least_greed]
  show _ = 0 + greed l (l.length - 0) r 0
  rw [Nat.sub_zero, Nat.zero_add]
end DL
set_option Elab.async false
set_option linter.all false
set_option maxRecDepth 100000
set_option maxHeartbeats 4000000
/-! EB: fitted's lists, owned; _law_placed, _law_least. -/
namespace DL
open PySem PySem.Spec L2

def sp_fitted2 (K : PySem.W.Frag) (A : Ad) : Sp := pairSp K fun ds xs ys rest => ∃ l r : List Deed, ds = [encP l, encP r] ∧ GoodP 4 l ∧ GoodP 4 r ∧ l.length ≤ 20 ∧ r.length ≤ 20 ∧ xs = encs (fitOf l r).f ∧ ys = encR (fitOf l r).r ∧ rest = []
theorem rd_fitted2 {C : Cc} {A : Ad} {l r : List Deed} {s : Sl} (hl : GoodP 4 l) (hr : GoodP 4 r) (h1 : l.length ≤ 20) (h2 : r.length ≤ 20) (hR : RestOk C.K A) (ps : Psl C.K (encs (fitOf l r).f) (encR (fitOf l r).r) [] s) :
    Ex C (t_fitted C.K A) [.d (encP l), .d (encP r), .no, .no, .no, .no] { nx := fun _ => (Sl.d .none) = s, rt := fun s' _ => s' = s } :=
  rd_fitted_to hl hr h1 h2 hR fun s4 s5 => ex_ret (ef_pair2 (lr2_own (i := 2) (j := 3) rfl rfl) ea_nil ps (Nat.zero_le _) rfl)
/-! ### _law_placed -/
def t_law_placed (K : PySem.W.Frag) (A : Ad) : TS :=
  (tSeq (tAsg (tLst tNil) (gName 2))
    (tSeq (tAsg (tLst tNil) (gName 3))
    (tSeq (tAsg (tC (.int 0)) (gName 4))
    (tSeq (tWhile (tTest (tOp rLtA (tVar 4) (tCB (rLenA K) (tCons (tVar 1) tNil)))) (tIfS (tB (tUser (sp_law_meet K A) (tCons (tUser (sp_law_at K A) (tCons (tVar 0) (tCons (tCB (rLenA K) (tCons (tVar 2) tNil)) tNil))) (tCons (tOp (rIx K) (tVar 1) (tVar 4)) tNil)))) (tSeq (tDrop (tBM K "list" rAppend (tVar 3) (tCons (tTup (tCons (tCB (rLenA K) (tCons (tVar 2) tNil)) (tCons (tVar 4) tNil))) tNil)))
    (tDrop (tBM K "list" rAppend (tVar 2) (tCons (tTup (tCons (tC (.str "rest")) tNil)) tNil)))) (tSeq (tDrop (tBM K "list" rAppend (tVar 2) (tCons (tOp (rIx K) (tVar 1) (tVar 4)) tNil)))
    (tAsg (tOp (rAddA K) (tVar 4) (tC (.int 1))) (gName 4)))))
    (tRet (tTup (tCons (tVar 2) (tCons (tVar 3) tNil))))))))
def sp_law_placed (K : PySem.W.Frag) (A : Ad) : Sp := datSp K fun ds x => ∃ l r : List Deed, ds = [encP l, encP r] ∧ l.length ≤ 1000 ∧ r.length ≤ 1000 ∧ x = .tuple [encP (fitOf l r).f, .list (encR (fitOf l r).r)]
theorem rd_law_placed {C : Cc} {A : Ad} {l r : List Deed} (h1 : l.length ≤ 1000) (h2 : r.length ≤ 1000) : Ex C (t_law_placed C.K A) [.d (encP l), .d (encP r), .no, .no, .no] (retD (.tuple [encP (fitOf l r).f, .list (encR (fitOf l r).r)])) := by
  refine ex_seq (ex_set (s := own C.K []) (ev_lstO ea_nil) ?_)
  refine ex_seq (ex_set (s := own C.K []) (ev_lstO ea_nil) ?_)
  refine ex_seq (ex_set (s := .d (.int 0)) ev_int ?_)
  refine ex_seq (ex_while (fun m ρ => ∃ i j : Nat, i ≤ r.length ∧ (i < r.length → ∀ h : i < r.length, j ≤ waitAt l r[i] (fitTo l r i).f.length) ∧ (i = r.length → j = 0) ∧ m + ((fitTo l r i).f.length + j) = l.length + r.length + 1 ∧
      ρ = [.d (encP l), .d (encP r), own C.K (encs ((fitTo l r i).f ++ List.replicate j .rest)), own C.K (encR ((fitTo l r i).r ++ whys (fitTo l r i).f.length i j)), .d (.int (i : Nat))])
    ⟨l.length + r.length + 1, 0, 0, Nat.zero_le _, fun _ _ => Nat.zero_le _, fun _ => rfl, rfl, rfl⟩ fun m ρ ⟨i, j, hi, hj, hj0, hm, e⟩ => ?_)
  subst e
  refine ft_p (b := decide (i < r.length)) (et_test (ev_is (ev_op (ev_var rfl) (ev_call (ea_one (ev_var rfl)) (on_lenL (ds := encs r))) o2_ltI) (by rw [encs_len]; congr 1; rw [decide_eq_decide]; omega))) ?_
  by_cases hlt : i < r.length
  · rw [decide_eq_true hlt, if_pos rfl]
    have hj := hj hlt hlt
    obtain ⟨g1, g2⟩ := fitTo_len (l := l) (r := r) (i := i) (by omega)
    obtain ⟨g3, g4⟩ := fitTo_len (l := l) (r := r) (i := i + 1) (by omega)
    have gn := fitTo_n (l := l) (r := r) (i := i) (by omega)
    have gs := fitTo_succ (l := l) hlt
    have g5 : (fitTo l r (i + 1)).f.length = (fitTo l r i).f.length + waitAt l r[i] (fitTo l r i).f.length + 1 := by
      rw [gs]; unfold fitStep
      simp only [List.length_append, List.length_replicate, List.length_singleton]
    generalize hS : fitTo l r i = S at *
    have hlen : ((encs (S.f ++ List.replicate j Deed.rest)).length : Int) = ((S.f.length + j : Nat) : Int) := by rw [encs_len, List.length_append, List.length_replicate]
    have evl : ∀ {ρ : List Sl}, ρ[2]? = some (own C.K (encs (S.f ++ List.replicate j Deed.rest))) → PD C (tCB (rLenA C.K) (tCons (tVar 2) tNil)) ρ (.int ((S.f.length + j : Nat) : Int)) := fun h => ev_is (ev_lenO h) (by rw [hlen])
    refine ex_ifp (b := (deedAt l (S.f.length + j)).clash r[i]) (et_B (ev_dat (ea_two (ev_dat (x := (deedAt l (S.f.length + j)).enc) (ea_two (ev_var rfl) (evl rfl)) ⟨l, _, rfl, by omega, rfl⟩) (ev_op (ev_var rfl) (ev_var rfl) (o2_ixL (encs_atI hlt)))) ⟨_, _, rfl, by rw [deedAt_eq hlt]⟩)) (fun hc => ?_) fun hc => ?_
    · have hjw : j < waitAt l r[i] S.f.length := Nat.lt_of_le_of_ne hj fun z => by
        rw [z, waitAt_no] at hc; cases hc
      refine ex_seq (ex_append (xs := encR (S.r ++ whys S.f.length i j)) rfl (ef_d (ev_tup (ea_two (evl rfl) (ev_var rfl))) ⟨_, _, rfl, rfl, ?_, ?_⟩))
      · rw [encR_len, List.length_append, whys_len]; omega
      refine ex_append (xs := encs (S.f ++ List.replicate j .rest)) rfl (ef_d (ev_tup (ea_one ev_str)) ⟨_, _, rfl, rfl, ?_, m - 1, by omega, i, j + 1, hi, fun _ _ => by rw [hS]; omega, fun z => absurd z (by omega), by rw [hS]; omega, ?_⟩)
      · rw [encs_len, List.length_append, List.length_replicate]; omega
      · have q1 : encs (S.f ++ List.replicate j Deed.rest) ++ [Deed.rest.enc] = encs (S.f ++ List.replicate (j + 1) Deed.rest) := by
          rw [← rep_succ, ← List.append_assoc, ← encs_app (S.f ++ _)]
          rfl
        have q2 : encR (S.r ++ whys S.f.length i j) ++ [.tuple [.int ((S.f.length + j : Nat) : Int), .int (i : Nat)]] = encR (S.r ++ whys S.f.length i (j + 1)) := by
          rw [whys_succ, ← List.append_assoc, ← encR_app (S.r ++ _)]
          rfl
        rw [hS, ← q1, ← q2]
        rfl
    · have ej : j = waitAt l r[i] S.f.length := by
        refine Nat.le_antisymm hj (Nat.le_of_not_lt fun z => ?_)
        rw [waitAt_lt z] at hc; cases hc
      refine ex_seq (ex_append (xs := encs (S.f ++ List.replicate j .rest)) rfl (ef_d (ev_op (ev_var rfl) (ev_var rfl) (o2_ixL (encs_atI hlt))) ⟨_, _, rfl, rfl, ?_, ?_⟩))
      · rw [encs_len, List.length_append, List.length_replicate]; omega
      refine ex_set (s := .d (.int ((i + 1 : Nat) : Int))) (ev_is (ev_op (ev_var rfl) ev_int o2_addI) (by congr 1)) ⟨m - 1, by omega, i + 1, 0, by omega, fun _ _ => Nat.zero_le _, fun _ => rfl, by omega, ?_⟩
      have q1 : encs (S.f ++ List.replicate j Deed.rest) ++ [(deedAt r i).enc] = encs ((fitTo l r (i + 1)).f ++ List.replicate 0 .rest) := by
        rw [gs]; unfold fitStep
        show _ = encs ((S.f ++ List.replicate (waitAt l r[i] S.f.length) .rest ++ [r[i]]) ++ [])
        rw [← ej, List.append_nil, deedAt_eq hlt, ← encs_app (S.f ++ _)]
        rfl
      have q2 : encR (S.r ++ whys S.f.length i j) = encR ((fitTo l r (i + 1)).r ++ whys (fitTo l r (i + 1)).f.length (i + 1) 0) := by
        rw [gs]; unfold fitStep
        show _ = encR ((S.r ++ whys S.f.length S.n (waitAt l r[i] S.f.length)) ++ [])
        rw [← ej, List.append_nil, gn]
      rw [← q1, ← q2]
      rfl
  · rw [decide_eq_false hlt, if_neg Bool.false_ne_true]
    have ei : i = r.length := by omega
    have ej := hj0 ei
    subst ej
    have q1 : encs ((fitTo l r i).f ++ List.replicate 0 .rest) = encs (fitOf l r).f := by rw [ei, fitTo_all]; show encs (_ ++ []) = _; rw [List.append_nil]
    have q2 : encR ((fitTo l r i).r ++ whys (fitTo l r i).f.length i 0) = encR (fitOf l r).r := by rw [ei, fitTo_all]; show encR (_ ++ []) = _; rw [List.append_nil]
    rw [q1, q2]
    exact ex_ret (ef_tup (fa_cons (ef_frz (i := 2) rfl ⟨_, rfl, fa_cons (ef_frz (i := 3) rfl ⟨_, rfl, fa_nil ⟨Nat.le_of_ble_eq_true rfl, rfl⟩⟩)⟩)))
/-! ### _law_least -/
def t_law_least (K : PySem.W.Frag) (A : Ad) (spR : Sp) : TS :=
  (tSeq (tIfS (tTest (tOp (rEqD K) (tVar 1) (tLst tNil))) (tRet (tC (.int 0))) tNext)
    (tSeq (tIfS (tTest (tOp rGeA (tVar 2) (tCB (rLenA K) (tCons (tVar 0) tNil)))) (tRet (tC (.int 0))) tNext)
    (tSeq (tAsg (tOp (rAddA K) (tC (.int 1)) (tUser spR (tCons (tVar 0) (tCons (tVar 1) (tCons (tOp (rAddA K) (tVar 2) (tC (.int 1))) tNil))))) (gName 3))
    (tSeq (tIfS (tB (tUser (sp_law_meet K A) (tCons (tOp (rIx K) (tVar 0) (tVar 2)) (tCons (tOp (rIx K) (tVar 1) (tC (.int 0))) tNil)))) (tRet (tVar 3)) tNext)
    (tRet (tCB (rMinA) (tCons (tVar 3) (tCons (tUser spR (tCons (tVar 0) (tCons (tSl (rSlX K) (tVar 1) (tPart (tC (.int 1))) tNoPart) (tCons (tOp (rAddA K) (tVar 2) (tC (.int 1))) tNil)))) tNil))))))))
def sp_leastN (K : PySem.W.Frag) (n : Nat) : Sp := datSp K fun ds x => ∃ (l r : List Deed) (b : Nat), ds = [encP l, encP r, .int (b : Nat)] ∧ l.length ≤ n + b ∧ l.length ≤ 1000 ∧ x = .int (leastF l (l.length - b) r b : Nat)
def sp_leastR (K : PySem.W.Frag) : Nat → Sp
  | 0 => fun _ _ _ _ => False
  | n + 1 => sp_leastN K n
def sp_law_least (K : PySem.W.Frag) (A : Ad) : Sp := sp_leastN K 10
theorem rd_law_least {C : Cc} {A : Ad} {n : Nat} {l r : List Deed} {b : Nat} (hn : l.length ≤ n + b) (h1 : l.length ≤ 1000) : Ex C (t_law_least C.K A (sp_leastR C.K n)) [.d (encP l), .d (encP r), .d (.int (b : Nat)), .no] (retD (.int (leastF l (l.length - b) r b : Nat))) := by
  have he : PyData.eqv (.list (encs r)) (.list []) = decide (r = []) := by
    cases r with
    | nil => rfl
    | cons d r => rfl
  refine ex_seq (ex_ifp (b := decide (r = [])) (et_test (ev_is (ev_op (ev_var rfl) (ev_lst ea_nil) (o2_eq (encP_sh r).shaped rfl)) (by rw [he]))) (fun e => ?_) fun e => ex_next ?_)
  · have e := of_decide_eq_true e
    subst e
    have : leastF l (l.length - b) [] b = 0 := by cases l.length - b <;> rfl
    rw [this]
    exact ex_ret (ef_d ev_int rfl)
  have hr := of_decide_eq_false e
  refine ex_seq (ex_ifp (b := decide (l.length ≤ b)) (et_test (ev_is (ev_op (ev_var rfl) (ev_call (ea_one (ev_var rfl)) (on_lenL (ds := encs l))) o2_geI) (by rw [encs_len]; congr 1; rw [decide_eq_decide]; omega))) (fun e => ?_) fun e => ex_next ?_)
  · have e := of_decide_eq_true e
    have : l.length - b = 0 := by omega
    rw [this]
    exact ex_ret (ef_d ev_int rfl)
  have hb := of_decide_eq_false e
  obtain ⟨k, rfl⟩ : ∃ k, n = k + 1 := ⟨n - 1, by omega⟩
  obtain ⟨d, r', rfl⟩ : ∃ d r', r = d :: r' := by
    cases r with
    | nil => exact absurd rfl hr
    | cons d r' => exact ⟨d, r', rfl⟩
  have ef : l.length - b = (l.length - (b + 1)) + 1 := by omega
  have eun : leastF l (l.length - b) (d :: r') b = if (deedAt l b).clash d = true then 1 + leastF l (l.length - (b + 1)) (d :: r') (b + 1) else min (1 + leastF l (l.length - (b + 1)) (d :: r') (b + 1)) (leastF l (l.length - (b + 1)) r' (b + 1)) := by
    rw [ef]
    conv => lhs; unfold leastF
    rw [if_neg hr, if_neg hb]
    rfl
  rw [eun]
  have b1 : ∀ {ρ : List Sl}, ρ[2]? = some (.d (.int (b : Nat))) → PD C (tOp (rAddA C.K) (tVar 2) (tC (.int 1))) ρ (.int ((b + 1 : Nat) : Int)) := fun h => ev_is (ev_op (ev_var h) ev_int o2_addI) (by congr 1)
  refine ex_seq (ex_set (s := .d (.int ((1 + leastF l (l.length - (b + 1)) (d :: r') (b + 1) : Nat) : Int))) (ev_is (ev_op ev_int (ev_dat (f := fun ds x => ∃ (l r : List Deed) (b : Nat), ds = [encP l, encP r, .int (b : Nat)] ∧ l.length ≤ k + b ∧ l.length ≤ 1000 ∧ x = .int (leastF l (l.length - b) r b : Nat)) (ea_cons (ev_var rfl) (ea_two (ev_var rfl) (b1 rfl))) ⟨l, d :: r', b + 1, rfl, by omega, h1, rfl⟩) o2_addI) (by congr 1)) ?_)
  refine ex_seq (ex_ifp (b := (deedAt l b).clash d) (et_B (ev_dat (ea_two (ev_op (ev_var rfl) (ev_var rfl) (o2_ixL (encs_atI (by omega)))) (ev_op (ev_var rfl) ev_int (o2_ixL (atI_nat (j := 0) rfl)))) ⟨deedAt l b, d, rfl, rfl⟩)) (fun hc => ?_) fun hc => ex_next ?_)
  · rw [if_pos hc]
    exact ex_ret (ef_d (ev_var rfl) rfl)
  · rw [if_neg (by rw [hc]; exact Bool.false_ne_true)]
    refine ex_ret (ef_d (ev_is (ev_call (ea_two (ev_var rfl) (ev_dat (f := fun ds x => ∃ (l r : List Deed) (b : Nat), ds = [encP l, encP r, .int (b : Nat)] ∧ l.length ≤ k + b ∧ l.length ≤ 1000 ∧ x = .int (leastF l (l.length - b) r b : Nat)) (x := .int (leastF l (l.length - (b + 1)) r' (b + 1) : Nat)) (ea_cons (ev_var rfl) (ea_two (ev_sl (s := .d (encP r')) (ev_var rfl) (eo_part (ev_int (i := ((1 : Nat) : Int)))) eo_no (os_list (ds := encs (d :: r')) (by rw [cut_suf, encs_drop, List.drop_one]; exact .dat))) (b1 rfl))) ⟨l, r', b + 1, rfl, by omega, h1, rfl⟩)) on_min) ?_) rfl)
    rw [min_nat]
end DL
set_option Elab.async false
set_option linter.all false
set_option maxRecDepth 100000
set_option maxHeartbeats 4000000
/-! L06r: the law k06, read. -/
namespace DL
open PySem PySem.Spec L2

theorem enc_alk {n : Nat} : ∀ d : Deed, alk (n + 1) d.enc
  | .rest => .tuple (show 1 ≤ 1000000 by decide) fun x hx => by rw [List.mem_singleton.mp hx]; exact .str ok_rest
  | .read c => .tuple (ds := [.str wRead, .int (c : Nat)]) (show 2 ≤ 1000000 by decide) fun x hx => by
    rcases List.mem_cons.mp hx with e | hx
    · rw [e]; exact .str ok_read
    · rw [List.mem_singleton.mp hx]; exact .int
  | .write c w => .tuple (ds := [.str wWrite, .int (c : Nat), .int (w : Nat)]) (show 3 ≤ 1000000 by decide) fun x hx => by
    rcases List.mem_cons.mp hx with e | hx
    · rw [e]; exact .str ok_write
    · rcases List.mem_cons.mp hx with e | hx
      · rw [e]; exact .int
      · rw [List.mem_singleton.mp hx]; exact .int
theorem encP_alk {n : Nat} {l : List Deed} (h : l.length ≤ 1000000) : alk (n + 2) (encP l) := .list (by rw [encs_len]; exact h) fun x hx => by
  obtain ⟨d, _, rfl⟩ := List.mem_map.mp hx
  exact enc_alk d
def t_law06 (K : PySem.W.Frag) (A : Ad) : TS :=
  (tSeq (tAsg (tUser (sp_law_mix K A) (tCons (tVar 0) (tCons (tC (.int 17)) tNil))) (gName 1))
    (tSeq (tFor (iRng1 (tCons (tC (.int 3)) tNil)) (gName 2) (tSeq (tAsg (tOp (rAddA K) (tC (.int 1)) (tUser (sp_law_next K A) (tCons (tVar 1) (tCons (tC (.int 4)) tNil)))) (gName 3))
    (tSeq (tAsg (tOp (rIx K) (tLst (tCons (tC (.int 7)) (tCons (tC (.int 20)) tNil))) (tUser (sp_law_next K A) (tCons (tVar 1) (tCons (tC (.int 2)) tNil)))) (gName 4))
    (tSeq (tPar 5 6 (tCons (tUser (sp_law_program K A) (tCons (tVar 1) (tCons (tVar 3) (tCons (tVar 4) tNil)))) (tCons (tUser (sp_law_program K A) (tCons (tVar 1) (tCons (tVar 3) (tCons (tVar 4) tNil)))) tNil)))
    (tSeq (tAsg (tUser (sp_law_placed K A) (tCons (tVar 5) (tCons (tVar 6) tNil))) (gName 7))
    (tSeq (tFor (iRng1 (tCons (tC (.int 2)) tNil)) (gName 8) (tSeq (tAsg (tUser (sp_fitted2 K A) (tCons (tCB (rListA K) (tCons (tVar 5) tNil)) (tCons (tCB (rListA K) (tCons (tVar 6) tNil)) tNil))) (gName 9))
    (tSeq (tIfS (tNot (tB (tUser (sp_law_alike K A) (tCons (tVar 9) (tCons (tVar 7) tNil))))) (tRet (tC (.bl false))) tNext)
    (tSeq (tDrop (tBM K "list" rAppend (tOp (rIx K) (tVar 9) (tC (.int 0))) (tCons (tTup tNil) tNil)))
    (tDrop (tBM K "list" rAppend (tOp (rIx K) (tVar 9) (tC (.int 1))) (tCons (tTup tNil) tNil)))))))
    (tSeq (tIfS (tOr (tTest (tOp (rNeD K) (tUser (sp_clashes K A) (tCons (tVar 5) (tCons (tOp (rIx K) (tVar 7) (tC (.int 0))) tNil))) (tLst tNil))) (tTest (tOp rNotNA (tUser (sp_shows K A) (tCons (tVar 5) (tCons (tVar 6) (tCons (tOp (rIx K) (tVar 7) (tC (.int 1))) tNil)))) (tC (.bl true))))) (tRet (tC (.bl false))) tNext)
    (tSeq (tIfS (tTest (tOp rNotNA (tUser (sp_parting K A) (tCons (tVar 3) (tCons (tVar 5) (tCons (tOp (rIx K) (tVar 7) (tC (.int 0))) tNil)))) (tC .non))) (tRet (tC (.bl false))) tNext)
    (tIfS (tAnd (tTest (tOp (rEqD K) (tVar 4) (tC (.int 7)))) (tTest (tOp (rNeD K) (tUser (sp_law_least K A) (tCons (tVar 5) (tCons (tVar 6) (tCons (tC (.int 0)) tNil)))) (tCB (rLenA K) (tCons (tOp (rIx K) (tVar 7) (tC (.int 1))) tNil))))) (tRet (tC (.bl false))) tNext)))))))))
    (tRet (tC (.bl true)))))
theorem rd_law06 {C : Cc} {A : Ad} {a : Addr} {ns : List Int} (hl : ns.length ≤ 63) (hb : ∀ z ∈ ns, bitOk z) :
    Ex C (t_law06 C.K A) [.ow (.scr C.K a ns), .no, .no, .no, .no, .no, .no, .no, .no, .no] lawPo := by
  refine ex_seq (ex_asg (ef_mix (seed := 17) rfl hl hb ev_int (by decide) fun h => ?_))
  refine ex_seq (ex_for (ei_p (pi_r1 (j := 3) (ea_one ev_int) (by decide)) ⟨fun _ ρ => ∃ s2 s3 s4 s5 s6 s7 s8 s9, ρ = [.ow (.scr C.K a ns), rnd h, s2, s3, s4, s5, s6, s7, s8, s9], ⟨_, _, _, _, _, _, _, _, rfl⟩, fun i ρ hi ⟨s2, s3, s4, s5, s6, s7, s8, s9, e⟩ => ?_, fun ρ _ => ex_ret (ef_d ev_bl rfl)⟩))
  subst e
  refine eg_name ?_
  refine ex_seq (ex_asg (ef_op (ef_d ev_int ⟨_, rfl, ef_next (n := 4) rfl ev_int (by decide) (by decide) fun c hc => ⟨_, _, rfl, o2_addI, ?_⟩⟩)))
  have hc' : (1 : Int) + (c : Nat) = ((c + 1 : Nat) : Int) := by omega
  rw [hc']
  refine ex_seq (ex_asg (ef_op (ef_d (ev_lst (ea_two ev_int ev_int)) ⟨_, rfl, ef_next (n := 2) rfl ev_int (by decide) (by decide) fun m hm => ⟨_, .d (.int ((if m = 0 then 7 else 20 : Nat) : Int)), rfl, ?_, ?_⟩⟩)))
  · have : m = 0 ∨ m = 1 := by omega
    rcases this with e | e <;> subst e
    · exact o2_ixL (atI_nat (j := 0) rfl)
    · exact o2_ixL (atI_nat (j := 1) rfl)
  have hmost : (if m = 0 then 7 else 20 : Nat) ≤ 20 := by split <;> omega
  generalize (if m = 0 then 7 else 20 : Nat) = most at hmost
  refine ex_seq (ex_par (fa_cons (ef_program (n := c + 1) (m := most) rfl (ev_var rfl) (by omega) (by omega) (ef_d (ev_var rfl) ⟨rfl, rfl⟩) (by omega) fun l gl ll => ⟨_, rfl, fa_cons (ef_program (n := c + 1) (m := most) rfl (ev_var rfl) (by omega) (by omega) (ef_d (ev_var rfl) ⟨rfl, rfl⟩) (by omega) fun r gr lr => ⟨_, rfl, fa_nil ⟨_, _, rfl, ?_⟩⟩)⟩)))
  have gl4 : GoodP 4 l := fun d hd => (gl d hd).mono (by omega)
  have gr4 : GoodP 4 r := fun d hd => (gr d hd).mono (by omega)
  refine ex_seq (ex_set (s := .d (.tuple [encP (fitOf l r).f, .list (encR (fitOf l r).r)])) (ev_dat (ea_two (ev_var rfl) (ev_var rfl)) ⟨l, r, rfl, by omega, by omega, rfl⟩) ?_)
  have hfree := fitOf_free l r
  have hshow := shows_fit l r
  have hleast := fit_least l r
  have hflen := fitOf_len l r
  have hfr := fit_le l r
  have gf := fitOf_good (l := l) gr
  have gf4 : GoodP 4 (fitOf l r).f := fun d hd => (gf d hd).mono (by omega)
  have hak : alk 8 (.tuple [encP (fitOf l r).f, .list (encR (fitOf l r).r)]) := .tuple (show 2 ≤ 1000000 by decide) fun x hx => by
    rcases List.mem_cons.mp hx with e | hx
    · rw [e]; exact encP_alk (by omega)
    · rw [List.mem_singleton.mp hx]; exact alk_encR (by omega)
  refine ex_seq (ex_for (ei_p (pi_r1 (j := 2) (ea_one ev_int) (by decide)) ⟨fun _ ρ => ∃ s8 s9, ρ = [.ow (.scr C.K a ns), rnd h, .d (.int (i : Nat)), .d (.int ((c + 1 : Nat) : Int)), .d (.int (most : Nat)), .d (encP l), .d (encP r), .d (.tuple [encP (fitOf l r).f, .list (encR (fitOf l r).r)]), s8, s9], ⟨_, _, rfl⟩, fun k ρ hk ⟨s8, s9, e⟩ => ?_, fun ρ ⟨s8, s9, e⟩ => ?_⟩))
  · subst e
    refine eg_name ?_
    refine ex_seq (ex_set (s := prs C.K (encs (fitOf l r).f) (encR (fitOf l r).r) []) (ev_prs (ea_two (ev_call (ea_one (ev_var rfl)) (on_listL (ds := encs l) .dat)) (ev_call (ea_one (ev_var rfl)) (on_listL (ds := encs r) .dat))) ⟨l, r, rfl, gl4, gr4, by omega, by omega, rfl, rfl, rfl⟩ .own) ?_)
    refine ex_seq (ex_ifp (b := false) (et_not (et_B (b := true) (vv_dat (z := .bool true) (va_cons (vv_pair rfl) (va_cons (vv_of (ev_var rfl)) va_nil)) ⟨_, rfl, hak, rfl⟩))) (fun z => nomatch z) fun _ => ex_next ?_)
    refine ex_seq (ex_app (lr_pair0 rfl ev_int) (ev_tup ea_nil) (by rw [encs_len]; omega) ?_)
    exact ex_app (lr_pair1 rfl ev_int) (ev_tup ea_nil) (by rw [encR_len]; omega) ⟨_, _, rfl⟩
  subst e
  have evf : ∀ {ρ : List Sl}, ρ[7]? = some (.d (.tuple [encP (fitOf l r).f, .list (encR (fitOf l r).r)])) → PD C (tOp (rIx C.K) (tVar 7) (tC (.int 0))) ρ (encP (fitOf l r).f) := fun h => ev_op (ev_var h) ev_int (o2_ixT (atI_nat (j := 0) rfl))
  have evr : ∀ {ρ : List Sl}, ρ[7]? = some (.d (.tuple [encP (fitOf l r).f, .list (encR (fitOf l r).r)])) → PD C (tOp (rIx C.K) (tVar 7) (tC (.int 1))) ρ (.list (encR (fitOf l r).r)) := fun h => ev_op (ev_var h) ev_int (o2_ixT (atI_nat (j := 1) rfl))
  refine ex_seq (ex_ifp (b := false) (et_is (et_or (et_test (ev_op (ev_lstf (ds := encN (clashB l (fitOf l r).f)) (ea_two (ev_var rfl) (evf rfl)) ⟨l, (fitOf l r).f, rfl, gl4, gf4, by omega, by omega, rfl⟩ .dat) (ev_lst ea_nil) (o2_ne (encNl_sh (n := 0) _).shaped rfl))) fun _ => et_test (ev_op (ev_dat (x := .bool (showsB l r (fitOf l r).r)) (ea_cons (ev_var rfl) (ea_two (ev_var rfl) (evr rfl))) ⟨l, r, (fitOf l r).r, rfl, gl4, gr4, by omega, by omega, rfl⟩) ev_bl o2_notB)) (by rw [free_no hfree, hshow]; rfl)) (fun z => nomatch z) fun _ => ex_next ?_)
  refine ex_seq (ex_ifp (b := false) (et_is (et_test (ev_op (ev_dat (x := partOf (memsTo (c + 1)) l (fitOf l r).f) (ea_cons (ev_var rfl) (ea_two (ev_var rfl) (evf rfl))) ⟨c + 1, l, (fitOf l r).f, rfl, by omega, by omega, gl, gf, by omega, by omega, rfl⟩) ev_non o2_notN)) (by rw [part_free hfree]; rfl)) (fun z => nomatch z) fun _ => ex_next ?_)
  refine ex_ifp (b := false) (et_is (b := decide (most = 7) && !(((leastF l l.length r 0 : Nat) : Int) == (((fitOf l r).r.length : Nat) : Int))) (et_and (et_test (ev_is (ev_eqI (ev_var rfl) ev_int) (by
    congr 1
    by_cases h7 : most = 7
    · subst h7; rfl
    · rw [decide_eq_false h7]; exact beq_eq_false_iff_ne.mpr (by omega)))) fun h7 => et_test (ev_neI (ev_dat (ea_cons (ev_var rfl) (ea_two (ev_var rfl) (ev_int (i := ((0 : Nat) : Int))))) ⟨l, r, 0, rfl, ?_, by omega, rfl⟩) (ev_is (ev_call (ea_one (evr rfl)) (on_lenL (ds := encR (fitOf l r).r))) (by rw [encR_len])))) ?_) (fun z => nomatch z) fun _ => ex_next ⟨_, _, _, _, _, _, _, _, rfl⟩
  · have := of_decide_eq_true h7; omega
  · rw [hleast, beq_self_eq_true]; simp
end DL
set_option Elab.async false
set_option linter.all false
set_option maxRecDepth 100000
set_option maxHeartbeats 4000000
/-! EC: a list of lists, all of them owned: what a comprehension leaves. -/
namespace DL
open PySem PySem.Spec PyProof.Rows L2

/-- these lists stand at these addresses -/
inductive OwnAll (K : PySem.W.Frag) (Hb H : Hp) : List Addr → List (List D) → Prop
  | nil : OwnAll K Hb H [] []
  | cons {a : Addr} {as : List Addr} {vs : List V} {xs : List D} {xss : List (List D)} : H a = some (.lst vs) → RpAll K Hb vs xs → OwnAll K Hb H as xss → OwnAll K Hb H (a :: as) (xs :: xss)
theorem OwnAll.mono {K : PySem.W.Frag} {Hb H Hb' H' : Hp} (s : Same Hb Hb') : ∀ {as : List Addr} {xss : List (List D)}, OwnAll K Hb H as xss → (∀ a ∈ as, H' a = H a) → OwnAll K Hb' H' as xss
  | _, _, .nil, _ => .nil
  | _, _, .cons h1 h2 h3, k => .cons ((k _ List.mem_cons_self).trans h1) (h2.mono s) (h3.mono s fun a ha => k a (List.mem_cons_of_mem _ ha))
theorem OwnAll.snoc {K : PySem.W.Frag} {Hb H : Hp} {a : Addr} {vs : List V} {xs : List D} (h1 : H a = some (.lst vs)) (h2 : RpAll K Hb vs xs) : ∀ {as : List Addr} {xss : List (List D)}, OwnAll K Hb H as xss → OwnAll K Hb H (as ++ [a]) (xss ++ [xs])
  | _, _, .nil => .cons h1 h2 .nil
  | _, _, .cons g1 g2 g3 => .cons g1 g2 (g3.snoc h1 h2)
theorem OwnAll.length {K : PySem.W.Frag} {Hb H : Hp} : ∀ {as : List Addr} {xss : List (List D)}, OwnAll K Hb H as xss → as.length = xss.length
  | _, _, .nil => rfl
  | _, _, .cons _ _ h => congrArg (· + 1) h.length
def Res.lol (K : PySem.W.Frag) (xss : List (List D)) : Res where
  holds := fun Hb H v fp => ∃ d as, v = .ref d ∧ fp = d :: as ∧ (d :: as).Nodup ∧ H d = some (.lst (as.map V.ref)) ∧ OwnAll K Hb H as xss
  mono := fun ⟨d, as, e, ef, nd, h1, h2⟩ s k => ⟨d, as, e, ef, nd, (k d (by rw [ef]; exact List.mem_cons_self)).trans h1, h2.mono s fun a ha => k a (by rw [ef]; exact List.mem_cons_of_mem _ ha)⟩
section
variable {C : Cc} {ρ : List Sl} {wi : TI} {g : TG} {te : TE} {n i : Nat} {vs : List Nat} {item : Nat → D} {P : Sl → List Sl → Prop} {xs ys : List D} {t0 t1 : TE}
/-- [e for x in ..], each e a new list -/
theorem ev_lcO (ρ2 : Nat → List Sl) (xss : Nat → List D) (hI : PEvI C wi ρ n item) (hn : n ≤ 10000000) (hg : ∀ i, i < n → ExGp C g vs (item i) (wipeS ρ vs) (ρ2 i)) (hv : ∀ i, i < n → PEv C te (ρ2 i) (own C.K (xss i))) : PEv C (tLc wi g tYes te vs) ρ (.ow (.lol C.K ((List.range n).map xss))) := fun σ Hb H fp W Q q =>
  hI σ Hb H fp W _ fun J Hb1 H1 t1 ⟨hstop, hgo⟩ Dl hD => by
    have W1 := W.step t1
    obtain ⟨hC, hbD, hfD⟩ := W1.old hD
    have nh : ∀ {p : Addr}, H1 p = none → H p = none := fun {p} hp => by
      cases e : H p with
      | none => rfl
      | some o => rw [t1.same _ _ e] at hp; cases hp
    refine ⟨fun i m H' => m + i = n ∧ ∃ Hb' as, Step [] Hb1 H1 Hb' H' ∧ EnvW C σ ρ Hb' H' fp ∧ H' Dl = some (.lst (as.map V.ref)) ∧ OwnAll C.K Hb' H' as ((List.range i).map xss) ∧ (Dl :: as).Nodup ∧ ∀ a ∈ Dl :: as, Hb' a = none ∧ H' a ≠ none ∧ H1 a = none ∧ C.H a = none ∧ ¬ In fp a,
      ⟨n, rfl, Hb1, [], Step.newO W1.same hD, W1.wrOut hbD hfD hC, upd_same, .nil, List.nodup_cons.mpr ⟨fun z => (nomatch z), List.nodup_nil⟩, fun a ha => ?_⟩, ?_⟩
    · rw [List.mem_singleton.mp ha]
      exact ⟨hbD, by rw [upd_same]; exact fun z => (nomatch z), hD, hC, hfD⟩
    rintro i m H2 ⟨hm, Hb2, as, s2, W2, e2, o2, nd, fr⟩
    by_cases hi : i < n
    · obtain ⟨hgo1, hy⟩ := hgo i Hb2 H2 hi s2.b W2.same
      refine .inr ⟨hgo1, fun H' => ∃ Hb' as, Step [] Hb1 H1 Hb' H' ∧ EnvW C σ ρ Hb' H' fp ∧ H' Dl = some (.lst (as.map V.ref)) ∧ OwnAll C.K Hb' H' as ((List.range (i + 1)).map xss) ∧ (Dl :: as).Nodup ∧ ∀ a ∈ Dl :: as, Hb' a = none ∧ H' a ≠ none ∧ H1 a = none ∧ C.H a = none ∧ ¬ In fp a,
        fun H' ⟨Hb', as', h⟩ => ⟨m - 1, by omega, by omega, Hb', as', h⟩, fun x H3 yy => ?_⟩
      obtain ⟨Hb3, t3, hx⟩ := hy x H3 yy
      have W3 := W2.step t3
      refine hg i hi (wipe σ vs) Hb3 H3 fp x (W3.wiped vs) hx _ fun σ4 fp4 W4 f4 l4 o4 => ?_
      have ew : wipe σ4 vs = wipe σ vs := wipe_eq (l4.trans (wipe_length _ _)) fun k hk => (o4 k hk).trans (wipe_off hk)
      refine ⟨ew, ?_⟩
      show te σ4 H3 _
      refine hv i hi σ4 Hb3 H3 fp4 W4 _ fun w Hb4 H4 fv t4 ⟨_, ee, a, us, ea, ef, ha, hr⟩ hf => ?_
      cases ee; subst ea; subst ef
      obtain ⟨f1, f2, f3⟩ := hf a (List.mem_singleton.mpr rfl)
      have t34 := t3.trans0 t4
      have W5 := W2.step t34
      have e4 : H4 Dl = some (.lst (as.map V.ref)) := t34.same _ _ e2
      have hna : H2 a = none := by
        cases e : H2 a with
        | none => rfl
        | some o => rw [t3.same _ _ e] at f3; cases f3
      have naD : a ≠ Dl := fun e => by rw [e, e2] at hna; cases hna
      have nas : a ∉ as := fun z => (fr a (List.mem_cons_of_mem _ z)).2.1 hna
      obtain ⟨c1, c2, c3⟩ := W2.old hna
      obtain ⟨d1, d2, d3, d4, d5⟩ := fr Dl List.mem_cons_self
      have hb4 : Hb4 Dl = none := (t34.f Dl d2).trans d1
      refine ⟨as.map V.ref, e4, ?_, Hb4, as ++ [a], ?_, W5.wrOut hb4 d5 d4, ?_, ?_, ?_, ?_⟩
      · rw [List.length_map, o2.length, List.length_map, List.length_range]; exact szl (by omega)
      · have s4 := s2.trans0 t34
        exact ⟨s4.b, (Step.wr (M := [Dl]) s4.s hb4 (List.mem_singleton.mpr rfl)).s, fun x o _ hx => by
          rw [upd_ne fun z : x = Dl => by rw [z, d3] at hx; cases hx]
          exact s4.same _ _ hx, s4.f, fun x hx => by
          rw [upd_ne fun z : x = Dl => hx (by rw [z]; exact d3)]
          exact s4.t x hx⟩
      · rw [upd_same, List.map_append]; rfl
      · rw [List.range_succ, List.map_append]
        refine OwnAll.snoc (vs := us) (by rw [upd_ne naD]; exact ha) hr (o2.mono t34.b fun x hx => ?_)
        rw [upd_ne fun z : x = Dl => (List.nodup_cons.mp nd).1 (z ▸ hx)]
        cases e : H2 x with
        | none => exact absurd e (fr x (List.mem_cons_of_mem _ hx)).2.1
        | some o => exact t34.same _ _ e
      · rw [List.nodup_cons] at nd ⊢
        refine ⟨fun z => ?_, ?_⟩
        · rcases List.mem_append.mp z with z | z
          · exact nd.1 z
          · exact naD (List.mem_singleton.mp z).symm
        · rw [List.nodup_append]
          refine ⟨nd.2, List.nodup_cons.mpr ⟨fun z => (nomatch z), List.nodup_nil⟩, fun x hx y hy e => ?_⟩
          rw [List.mem_singleton.mp hy] at e
          exact nas (e ▸ hx)
      · intro x hx
        rcases List.mem_cons.mp hx with e | hx
        · rw [e]
          exact ⟨hb4, by rw [upd_same]; exact fun z => (nomatch z), d3, d4, d5⟩
        · rcases List.mem_append.mp hx with hx | hx
          · obtain ⟨g1, g2, g3, g4, g5⟩ := fr x (List.mem_cons_of_mem _ hx)
            refine ⟨(t34.f x g2).trans g1, ?_, g3, g4, g5⟩
            rw [upd_ne fun z : x = Dl => (List.nodup_cons.mp nd).1 (z ▸ hx)]
            exact t34.t x g2
          · rw [List.mem_singleton.mp hx]
            refine ⟨f1, by rw [upd_ne naD]; exact f2, ?_, c1, c3⟩
            cases e : H1 a with
            | none => rfl
            | some o => rw [s2.same _ _ e] at hna; cases hna
    · have e : i = n := by omega
      subst e
      refine .inl ⟨hstop Hb2 H2 s2.b W2.same, ?_⟩
      exact q (.ref Dl) Hb2 H2 (Dl :: as) (t1.trans0 s2) ⟨_, rfl, Dl, as, rfl, rfl, nd, e2, o2⟩ fun a ha => ⟨(fr a ha).1, (fr a ha).2.1, nh (fr a ha).2.2.1⟩
/-- two of them -/
theorem lr2_lol (hi : ρ[i]? = some (.ow (.lol C.K [xs, ys]))) (h0 : PD C t0 ρ (.int 0)) (h1 : PD C t1 ρ (.int 1)) : LRef2 C (tOp (rIx C.K) (tVar i) t0) (tOp (rIx C.K) (tVar i) t1) ρ i i xs ys := ⟨fun σ Hb H fp W => by
  obtain ⟨v, ev, d, as, rfl, ef, nd, g1, o⟩ := W.owns hi
  cases o with
  | @cons a as vs _ _ ga ra o =>
    cases o with
    | @cons b as us _ _ gb rb o =>
      cases o
      rw [List.nodup_cons, List.nodup_cons] at nd
      have nab : a ≠ b := fun e => nd.2.1 (e ▸ List.mem_singleton.mpr rfl)
      refine ⟨a, b, nab, by rw [ef]; simp, by rw [ef]; simp, fun Hb' H' s => ⟨vs, us, s.same _ _ ga, s.same _ _ gb, ra.mono s.b, rb.mono s.b⟩, fun Q q => ⟨_, ev, h0 σ Hb H fp W _ fun w Hb2 H2 _ t2 ⟨_, e2, k2⟩ _ => ?_⟩, fun Hb1 H1 s Q q => ⟨_, ev, h1 σ Hb1 H1 fp (W.step s) _ fun w Hb2 H2 _ t2 ⟨_, e2, k2⟩ _ => ?_⟩⟩
      · cases e2; cases k2
        exact .inl ⟨d, _, 0, .ref a, rfl, rfl, .of (t2.same _ _ g1), atI_nat (j := 0) rfl, q _ _ t2⟩
      · cases e2; cases k2
        exact .inl ⟨d, _, 1, .ref b, rfl, rfl, .of (t2.same _ _ (s.same _ _ g1)), atI_nat (j := 1) rfl, q _ _ t2⟩⟩
end
end DL
set_option Elab.async false
set_option linter.all false
set_option maxRecDepth 100000
set_option maxHeartbeats 4000000
/-! ED: texts of programs. -/
namespace DL
open PySem PySem.Spec PyProof.Rows L2

/-! ### texts as lists of signs -/
abbrev mkS (l : List Nat) : Str := ⟨l.toArray⟩
theorem mkS_cps (l : List Nat) : (mkS l).cps.toList = l := by show l.toArray.toList = l; simp
theorem mkS_eta (x : Str) : mkS x.cps.toList = x := by cases x; simp [mkS]
theorem mkS_app (a b : List Nat) : mkS a ++ mkS b = mkS (a ++ b) := by
  show Str.mk (a.toArray ++ b.toArray) = _
  simp [mkS]
theorem mkS_len (a : List Nat) : (mkS a).length = a.length := by show a.toArray.size = _; simp
theorem mkS_inj {a b : List Nat} (h : mkS a = mkS b) : a = b := by
  have := congrArg (fun z : Str => z.cps.toList) h
  rwa [mkS_cps, mkS_cps] at this
/-- put together, a sign between -/
def joinC (c : Nat) : List (List Nat) → List Nat
  | [] => []
  | [x] => x
  | x :: y :: rest => x ++ c :: joinC c (y :: rest)
theorem joinC_cons (c : Nat) (x : List Nat) (rest : List (List Nat)) : joinC c (x :: rest) = x ++ (if rest = [] then [] else c :: joinC c rest) := by
  cases rest with
  | nil => simp [joinC]
  | cons y r => rw [if_neg (fun z => nomatch z)]; rfl
theorem join_mk (c : Nat) : ∀ ps : List (List Nat), Str.join (mkS [c]) (ps.map mkS) = mkS (joinC c ps)
  | [] => rfl
  | [x] => rfl
  | x :: y :: rest => by
    show mkS x ++ mkS [c] ++ Str.join (mkS [c]) ((y :: rest).map mkS) = _
    rw [join_mk c (y :: rest), mkS_app, mkS_app]
    show mkS _ = mkS (x ++ c :: joinC c (y :: rest))
    rw [List.append_assoc]; rfl
theorem joinE_mk : ∀ ps : List (List Nat), Str.join (mkS []) (ps.map mkS) = mkS ps.flatten
  | [] => rfl
  | [x] => by show mkS x = _; simp
  | x :: y :: rest => by
    show mkS x ++ mkS [] ++ Str.join (mkS []) ((y :: rest).map mkS) = _
    rw [joinE_mk (y :: rest), mkS_app, mkS_app, List.append_nil]; rfl
theorem join_txt (a : Str) (ys : List Str) : Txt.join a ys = Str.join a ys := eq_of_beq (join_plain_closes a ys)
theorem free_pref {c : Nat} : ∀ {x y t1 t2 : List Nat}, c ∉ x → c ∉ y → (t1 = [] ∨ ∃ r, t1 = c :: r) → (t2 = [] ∨ ∃ r, t2 = c :: r) → x ++ t1 = y ++ t2 → x = y ∧ t1 = t2
  | [], [], t1, t2, _, _, _, _, h => ⟨rfl, h⟩
  | [], b :: y, t1, t2, _, hy, h1, _, h => by
    rcases h1 with e | ⟨r, e⟩
    · subst e; cases h
    · subst e
      have : c = b := (List.cons.inj h).1
      exact absurd (this ▸ List.mem_cons_self) hy
  | a :: x, [], t1, t2, hx, _, _, h2, h => by
    rcases h2 with e | ⟨r, e⟩
    · subst e; cases h
    · subst e
      have : a = c := (List.cons.inj h).1
      exact absurd (this ▸ List.mem_cons_self) hx
  | a :: x, b :: y, t1, t2, hx, hy, h1, h2, h => by
    obtain ⟨e1, e2⟩ := List.cons.inj h
    obtain ⟨e3, e4⟩ := free_pref (fun z => hx (List.mem_cons_of_mem _ z)) (fun z => hy (List.mem_cons_of_mem _ z)) h1 h2 e2
    exact ⟨by rw [e1, e3], e4⟩
theorem joinC_inj {c : Nat} : ∀ {a b : List (List Nat)}, a ≠ [] → b ≠ [] → (∀ p ∈ a, c ∉ p) → (∀ p ∈ b, c ∉ p) → joinC c a = joinC c b → a = b
  | [], _, h, _, _, _, _ => absurd rfl h
  | _ :: _, [], _, h, _, _, _ => absurd rfl h
  | x :: a, y :: b, _, _, fa, fb, h => by
    rw [joinC_cons, joinC_cons] at h
    have sh : ∀ r : List (List Nat), (if r = [] then [] else c :: joinC c r : List Nat) = [] ∨ ∃ q, (if r = [] then [] else c :: joinC c r : List Nat) = c :: q := fun r => by
      by_cases e : r = []
      · exact .inl (if_pos e)
      · exact .inr ⟨_, if_neg e⟩
    obtain ⟨e1, e2⟩ := free_pref (fa x List.mem_cons_self) (fb y List.mem_cons_self) (sh a) (sh b) h
    by_cases ha : a = []
    · by_cases hb : b = []
      · rw [e1, ha, hb]
      · rw [if_pos ha, if_neg hb] at e2; cases e2
    · by_cases hb : b = []
      · rw [if_neg ha, if_pos hb] at e2; cases e2
      · rw [if_neg ha, if_neg hb] at e2
        rw [e1, joinC_inj ha hb (fun p hp => fa p (List.mem_cons_of_mem _ hp)) (fun p hp => fb p (List.mem_cons_of_mem _ hp)) (List.cons.inj e2).2]
/-- what was put together is what it is split into -/
theorem split_join {c : Nat} {ps : List (List Nat)} (h0 : ps ≠ []) (hf : ∀ p ∈ ps, c ∉ p) : Txt.split (mkS (joinC c ps)) (mkS [c]) = ps.map mkS := by
  have h1 := StrLaws.join_split (mkS (joinC c ps)) (mkS [c])
  have h2 := StrLaws.split_free (mkS (joinC c ps)) c
  have h3 := split_pos (mkS (joinC c ps)) (mkS [c])
  have h2 : ∀ p ∈ Txt.split (mkS (joinC c ps)) (mkS [c]), c ∉ p.cps.toList := h2
  generalize Txt.split (mkS (joinC c ps)) (mkS [c]) = qs at h1 h2 h3
  have e : qs = (qs.map fun q => q.cps.toList).map mkS := by
    rw [List.map_map]
    have : (mkS ∘ fun q : Str => q.cps.toList) = id := funext fun q => mkS_eta q
    rw [this, List.map_id]
  rw [e] at h1 ⊢
  rw [join_mk] at h1
  rw [joinC_inj (c := c) (a := qs.map fun q => q.cps.toList) (b := ps) (fun z => by
      have := congrArg List.length z
      rw [List.length_map] at this
      simp at this
      rw [this] at h3; simp at h3) h0 (fun p hp => by
      obtain ⟨q, hq, rfl⟩ := List.mem_map.mp hp
      exact h2 q hq) hf (mkS_inj h1)]
end DL
set_option Elab.async false
set_option linter.all false
set_option maxRecDepth 100000
set_option maxHeartbeats 4000000
/-! EE: word_of, written, deed_of, program_of, read. -/
namespace DL
open PySem PySem.Spec PyProof.Rows L2

/-! ### words -/
abbrev rStrA : List V → Hp → VK → Prop := fun xs H Q => ∃ i, xs = [.int i] ∧ i.natAbs.log2 < 1920 ∧ Q (.str (toString i)) H
theorem call_strA {X : Cx} : CallR X (.type "str") rStrA := call_str_int
abbrev r_join (K : PySem.W.Frag) : V → List V → Hp → VK → Prop := fun x xs H Q => ∃ a p, ∃ ys : List Str, x = .str a ∧ xs = [.ref p] ∧ (SqL K H p (ys.map V.str) ∨ SqT K H p (ys.map V.str)) ∧ (ys.map (·.length)).sum + ys.length * a.length ≤ 16777216 ∧ Q (.str (Txt.join a ys)) H
theorem strs_rp {K : PySem.W.Frag} {H : Hp} : ∀ {ys : List Str} {vs : List V}, RpAll K H vs (ys.map PyData.str) → vs = ys.map V.str
  | [], _, h => by cases h; rfl
  | y :: ys, _, h => by
    cases h with
    | cons h1 h2 => cases h1; rw [strs_rp h2]; rfl
theorem rp_strs {K : PySem.W.Frag} {H : Hp} : ∀ ys : List Str, RpAll K H (ys.map V.str) (ys.map PyData.str)
  | [] => .nil
  | y :: ys => .cons (.str _) (rp_strs ys)
section
variable {C : Cc} {ρ : List Sl} {te to : TE} {K : PySem.W.Frag} {a b : Str} {ys : List Str} {s : Sl}
theorem om_join (h : (ys.map (·.length)).sum + ys.length * a.length ≤ 16777216) : OpM K (r_join K) (.str a) [.list (ys.map PyData.str)] (.d (.str (Str.join a ys))) := fun Hb H v vs Q sm hx hv q => by
  cases hx
  cases hv with
  | cons h1 h2 =>
    cases h2
    cases h1 with
    | @lst p us _ hs hu =>
      refine ⟨a, p, ys, rfl, rfl, .inl ?_, h, ?_⟩
      · rw [← strs_rp hu]; exact .of (sm _ _ hs)
      · rw [join_txt]; exact q.flat sm (.str _)
/-- .. of an owned list -/
theorem ev_joinO {i : Nat} (ho : PD C to ρ (.str a)) (hi : ρ[i]? = some (own C.K (ys.map PyData.str))) (h : (ys.map (·.length)).sum + ys.length * a.length ≤ 16777216) : PD C (tBM C.K "str" (r_join C.K) to (tCons (tVar i) tNil)) ρ (.str (Str.join a ys)) := fun σ Hb H fp W Q q =>
  ho σ Hb H fp W _ fun v Hb1 H1 _ t1 ⟨_, e1, h1⟩ _ => by
    cases e1; cases h1
    obtain ⟨v, ev, p, us, rfl, ef, hp, hu⟩ := (W.step t1).owns hi
    refine ⟨rfl, _, ev, a, p, ys, rfl, rfl, .inl ?_, h, ?_⟩
    · rw [← strs_rp hu]; exact .of hp
    · rw [join_txt]; exact (q.after t1).flat t1.s (.str _)
theorem om_split {xs : List Str} (h0 : (b.length == 0) = false) (hl : a.length ≤ 1000000) (e : Txt.split a b = xs) (l : Lsl K (xs.map PyData.str) s) : OpM K r_split (.str a) [.str b] s := fun Hb H v vs Q sm hx hv q => by
  cases hx
  cases hv with
  | cons h1 h2 =>
    cases h2; cases h1
    refine ⟨a, b, rfl, rfl, h0, sz (by omega), fun p hp => ?_⟩
    rw [e]
    exact lst_new l q sm hp (rp_strs xs)
theorem on_strI {n : Nat} (h : n < 4) : OpN K rStrA [.int (n : Nat)] (.d (.str (one (48 + n)))) := fun Hb H vs Q sm hv q => by
  cases hv with
  | cons h1 h2 =>
    cases h2; cases h1
    have e : ((toString ((n : Nat) : Int) : String) : Str) = one (48 + n) := by
      have : n = 0 ∨ n = 1 ∨ n = 2 ∨ n = 3 := by omega
      rcases this with e | e | e | e <;> subst e <;> decide +kernel
    refine ⟨_, rfl, ?_, ?_⟩
    · have : n = 0 ∨ n = 1 ∨ n = 2 ∨ n = 3 := by omega
      rcases this with e | e | e | e <;> subst e <;> decide +kernel
    · rw [e]; exact q.flat sm (.str _)
end
def argN : Deed → List Nat
  | .rest => []
  | .read c => [c]
  | .write c w => [c, w]
def wordC : Deed → List Nat
  | .rest => [45]
  | .read c => [114, 48 + c]
  | .write c w => [119, 48 + c, 48 + w]
theorem args_enc (d : Deed) : d.args = encN (argN d) := by cases d <;> rfl
theorem argN_lt {d : Deed} (h : d.Good 4) : ∀ n ∈ argN d, n < 4 := by
  intro n hn
  cases d with
  | rest => cases hn
  | read c => rw [List.mem_singleton.mp hn]; exact h
  | write c w =>
    have h : c < 4 ∧ w < 3 := h
    rcases List.mem_cons.mp hn with e | hn
    · omega
    · rw [List.mem_singleton.mp hn]; omega
theorem sum_ones {α : Type} (f : α → Nat) (h : ∀ a, f a = 1) : ∀ l : List α, (l.map f).sum = l.length
  | [] => rfl
  | a :: l => by rw [List.map_cons, List.sum_cons, h, sum_ones f h l, List.length_cons]; omega
theorem word_len (d : Deed) : d.word.length ≤ 10000000 := by
  cases d with
  | rest => show wRest.length ≤ _; decide +kernel
  | read c => show wRead.length ≤ _; decide +kernel
  | write c w => show wWrite.length ≤ _; decide +kernel
theorem read0 : atI wRead.cps.toList ((0 : Nat) : Int) = some 114 := by decide +kernel
theorem write0 : atI wWrite.cps.toList ((0 : Nat) : Int) = some 119 := by decide +kernel
theorem lit_gap : ("-" : Str) = mkS [45] := by decide +kernel
theorem lit_e : ("" : Str) = mkS [] := by decide +kernel
theorem lit_sp : (" " : Str) = mkS [32] := by decide +kernel
theorem lit_nl : ("\n" : Str) = mkS [10] := by decide +kernel
theorem joinN (ns : List Nat) : Str.join (mkS []) (ns.map fun n => one (48 + n)) = mkS (ns.map fun n => 48 + n) := by
  have e : (ns.map fun n => one (48 + n)) = (ns.map fun n => [48 + n]).map mkS := by rw [List.map_map]; rfl
  rw [e, joinE_mk]
  congr 1
  induction ns with
  | nil => rfl
  | cons n ns ih => rw [List.map_cons, List.flatten_cons, ih (by rw [List.map_map]; rfl)]; rfl
/-- ''.join([str(x) for x in deed[1:]]) -/
theorem ev_argS {C : Cc} {ρ : List Sl} {d : Deed} {i j : Nat} (hd : d.Good 4) (hi : ρ[i]? = some (.d d.enc)) (hj : ∀ x : D, ∃ ρ2, ρ2 = (wipeS ρ [j]).set j (.d x) ∧ ρ2[j]? = some (.d x)) :
    PD C (tBM C.K "str" (r_join C.K) (tC (.str "")) (tCons (tLc (iTup C.K (tSl (rSlX C.K) (tVar i) (tPart (tC (.int 1))) tNoPart)) (gName j) tYes (tCB rStrA (tCons (tVar j) tNil)) [j]) tNil)) ρ (.str (mkS ((argN d).map fun n => 48 + n))) := by
  have hlen : (argN d).length ≤ 2 := by cases d <;> simp [argN]
  have e1 : (encN (argN d)).length = (argN d).length := encN_len' _
  refine ev_is (ev_bmS (a := "") (ev_str) (ea_one (x := .list (((argN d).map fun n => one (48 + n)).map PyData.str)) (ev_lc (n := (encN (argN d)).length) (item := itemOf (encN (argN d))) (fun k => (wipeS ρ [j]).set j (.d (itemOf (encN (argN d)) k))) (fun _ => true) (fun k => .str (one (48 + (argN d).getD k 0))) (pi_t (ds := encN (argN d)) (ev_sl (ev_var hi) (eo_part (ev_int (i := ((1 : Nat) : Int)))) eo_no (by
      have := os_tup (K := C.K) (ds := .str d.word :: d.args) (lo := some ((1 : Nat) : Int)) (hi := none)
      rw [cut_suf] at this
      have e : (PyData.str d.word :: d.args).drop 1 = encN (argN d) := args_enc d
      rw [e] at this
      exact this))) (by omega) (fun k hk => gp_name (List.mem_singleton.mpr rfl)) (fun k hk => fun σ Hb H fp W Q q => q Hb H (Step.refl W.same)) (fun k hk _ => ?_) ?_)) (om_join ?_)) ?_
  · rw [e1] at hk
    obtain ⟨ρ2, e2, h2⟩ := hj (itemOf (encN (argN d)) k)
    rw [← e2]
    rw [encN_item hk] at h2
    have hlt := argN_lt hd _ (List.getElem_mem hk)
    rw [List.getD_eq_getElem?_getD, List.getElem?_eq_getElem hk]
    exact ev_call (ea_one (ev_var h2)) (on_strI hlt)
  · rw [made_all, e1]
    have : (List.range (argN d).length).map (fun k => (.str (one (48 + (argN d).getD k 0)) : D)) = ((argN d).map fun n => one (48 + n)).map PyData.str := by
      refine List.ext_getElem (by simp) fun k h1 h2 => ?_
      have hk : k < (argN d).length := by simpa using h1
      simp only [List.getElem_map, List.getElem_range]
      rw [List.getD_eq_getElem?_getD, List.getElem?_eq_getElem hk]; rfl
    rw [this]; exact .dat
  · have e3 : (("" : Str)).length = 0 := by decide +kernel
    rw [e3, Nat.mul_zero, Nat.add_zero, List.map_map]
    have e4 := sum_ones ((fun x : Str => x.length) ∘ fun n => one (48 + n)) (fun _ => rfl) (argN d)
    rw [e4]
    omega
  · rw [lit_e, joinN]
def t_word_of (K : PySem.W.Frag) (A : Ad) : TS :=
  (tSeq (tIfS (tTest (tOp (rEqD K) (tOp (rIx K) (tVar 0) (tC (.int 0))) (tC (.str "rest")))) (tRet (tC (.str "-"))) tNext)
    (tRet (tOp (rAddA K) (tOp (rIx K) (tOp (rIx K) (tVar 0) (tC (.int 0))) (tC (.int 0))) (tBM K "str" (r_join K) (tC (.str "")) (tCons (tLc (iTup K (tSl (rSlX K) (tVar 0) (tPart (tC (.int 1))) tNoPart)) (gName 1) tYes (tCB rStrA (tCons (tVar 1) tNil)) [1]) tNil)))))
def sp_word_of (K : PySem.W.Frag) (A : Ad) : Sp := datSp K fun ds x => ∃ d : Deed, ds = [d.enc] ∧ d.Good 4 ∧ x = .str (mkS (wordC d))
theorem rd_word_of {C : Cc} {A : Ad} {d : Deed} (hd : d.Good 4) : Ex C (t_word_of C.K A) [.d d.enc, .no] (retD (.str (mkS (wordC d)))) := by
  refine ex_seq (ex_ifp (et_test (ev_eqRest (d := d) (ev_var rfl))) (fun e => ?_) fun e => ex_next ?_)
  · cases d with
    | rest => exact ex_ret (ef_d (ev_is ev_str (by rw [lit_gap]; rfl)) rfl)
    | read c => cases e
    | write c w => cases e
  have hw := word_len d
  obtain ⟨f, hf, ef⟩ : ∃ f, atI d.word.cps.toList ((0 : Nat) : Int) = some f ∧ wordC d = f :: (argN d).map fun n => 48 + n := by
    cases d with
    | rest => cases e
    | read c => exact ⟨114, read0, rfl⟩
    | write c w => exact ⟨119, write0, rfl⟩
  refine ex_ret (ef_d (ev_is (ev_op (ev_op (ev_w0 (d := d) (ev_var rfl)) (ev_int (i := ((0 : Nat) : Int))) (o2_ixS hw hf)) (ev_argS hd rfl fun x => ⟨_, rfl, rfl⟩) (o2_addS ?_)) ?_) rfl)
  · have : (argN d).length ≤ 2 := by cases d <;> simp [argN]
    show 1 + (mkS ((argN d).map fun n => 48 + n)).length ≤ _
    rw [mkS_len, List.length_map]
    omega
  · show PyData.str (mkS [f] ++ mkS _) = _
    rw [mkS_app, ef]; rfl
end DL
set_option Elab.async false
set_option linter.all false
set_option maxRecDepth 100000
set_option maxHeartbeats 4000000
/-! EF: written, deed_of, program_of, read. -/
namespace DL
open PySem PySem.Spec PyProof.Rows L2

/-! ### the text of two programs -/
def rowC (l : List Deed) : List Nat := joinC 32 (l.map wordC)
def textC (l r : List Deed) : List Nat := joinC 10 [rowC l, rowC r]
theorem wordC_len (d : Deed) : (wordC d).length ≤ 3 := by cases d <;> simp [wordC]
theorem wordC_free {d : Deed} (h : d.Good 4) {c : Nat} (hc : c = 32 ∨ c = 10) : c ∉ wordC d := by
  intro z
  cases d with
  | rest =>
    have := List.mem_singleton.mp z
    omega
  | read x =>
    have z : c ∈ [114, 48 + x] := z
    simp only [List.mem_cons, List.not_mem_nil, or_false] at z
    omega
  | write x w =>
    have z : c ∈ [119, 48 + x, 48 + w] := z
    simp only [List.mem_cons, List.not_mem_nil, or_false] at z
    omega
theorem wordC_ne (d : Deed) : wordC d ≠ [] := by cases d <;> exact fun z => nomatch z
theorem joinC_mem {c x : Nat} : ∀ {ps : List (List Nat)}, x ∈ joinC c ps → x = c ∨ ∃ p ∈ ps, x ∈ p
  | [], h => nomatch h
  | [p], h => .inr ⟨p, List.mem_cons_self, h⟩
  | p :: q :: r, h => by
    have h : x ∈ p ++ c :: joinC c (q :: r) := h
    rcases List.mem_append.mp h with h | h
    · exact .inr ⟨p, List.mem_cons_self, h⟩
    · rcases List.mem_cons.mp h with e | h
      · exact .inl e
      · rcases joinC_mem h with e | ⟨p', h1, h2⟩
        · exact .inl e
        · exact .inr ⟨p', List.mem_cons_of_mem _ h1, h2⟩
theorem rowC_free {l : List Deed} (h : GoodP 4 l) : 10 ∉ rowC l := fun z => by
  rcases joinC_mem z with e | ⟨p, hp, hz⟩
  · cases e
  · obtain ⟨d, hd, rfl⟩ := List.mem_map.mp hp
    exact wordC_free (h d hd) (.inr rfl) hz
theorem joinC_len (c k : Nat) : ∀ ps : List (List Nat), (∀ p ∈ ps, p.length ≤ k) → (joinC c ps).length ≤ (k + 1) * ps.length
  | [], _ => Nat.zero_le _
  | [p], h => by have := h p List.mem_cons_self; show p.length ≤ (k + 1) * 1; omega
  | p :: q :: r, h => by
    have h1 := h p List.mem_cons_self
    have h2 := joinC_len c k (q :: r) fun x hx => h x (List.mem_cons_of_mem _ hx)
    show (p ++ c :: joinC c (q :: r)).length ≤ (k + 1) * ((q :: r).length + 1)
    rw [List.length_append, List.length_cons, Nat.mul_add]
    omega
theorem rowC_len (l : List Deed) : (rowC l).length ≤ 4 * l.length := by
  have := joinC_len 32 3 (l.map wordC) fun p hp => by
    obtain ⟨d, _, rfl⟩ := List.mem_map.mp hp
    exact wordC_len d
  rwa [List.length_map] at this
theorem rowC_nil (l : List Deed) : rowC l = [] ↔ l = [] := by
  constructor
  · intro h
    cases l with
    | nil => rfl
    | cons d l =>
      unfold rowC at h
      rw [List.map_cons, joinC_cons] at h
      exact absurd (List.append_eq_nil_iff.mp h).1 (wordC_ne d)
  · intro h; rw [h]; rfl
theorem textC_eq (l r : List Deed) : textC l r = rowC l ++ 10 :: rowC r := rfl
theorem textC_len (l r : List Deed) : (textC l r).length ≤ 4 * l.length + 4 * r.length + 1 := by
  rw [textC_eq, List.length_append, List.length_cons]
  have := rowC_len l
  have := rowC_len r
  omega
theorem sum_le {α : Type} (f : α → Nat) (k : Nat) (h : ∀ a, f a ≤ k) : ∀ l : List α, (l.map f).sum ≤ k * l.length
  | [] => Nat.le_refl _
  | a :: l => by
    rw [List.map_cons, List.sum_cons, List.length_cons, Nat.mul_add]
    have := h a
    have := sum_le f k h l
    omega
theorem sp_len : (" " : Str).length = 1 := by decide +kernel
theorem nl_len : ("\n" : Str).length = 1 := by decide +kernel
theorem row_join (l : List Deed) : Str.join " " (l.map fun d => mkS (wordC d)) = mkS (rowC l) := by
  rw [lit_sp]
  have : (l.map fun d => mkS (wordC d)) = (l.map wordC).map mkS := by rw [List.map_map]; rfl
  rw [this, join_mk]; rfl
theorem text_join (l r : List Deed) : Str.join "\n" [mkS (rowC l), mkS (rowC r)] = mkS (textC l r) := by
  rw [lit_nl]
  exact join_mk 10 [rowC l, rowC r]
theorem row_bound {l : List Deed} (h : l.length ≤ 1000) : ((l.map fun d => mkS (wordC d)).map (·.length)).sum + (l.map fun d => mkS (wordC d)).length * (" " : Str).length ≤ 16777216 := by
  rw [sp_len, List.length_map, List.map_map]
  have := sum_le ((fun x : Str => x.length) ∘ fun d => mkS (wordC d)) 3 (fun d => by show (mkS (wordC d)).length ≤ 3; rw [mkS_len]; exact wordC_len d) l
  omega
theorem text_bound {l r : List Deed} (h1 : l.length ≤ 1000) (h2 : r.length ≤ 1000) : (([mkS (rowC l), mkS (rowC r)] : List Str).map (·.length)).sum + ([mkS (rowC l), mkS (rowC r)] : List Str).length * ("\n" : Str).length ≤ 16777216 := by
  rw [nl_len]
  show (mkS (rowC l)).length + ((mkS (rowC r)).length + 0) + 2 * 1 ≤ _
  rw [mkS_len, mkS_len]
  have := rowC_len l
  have := rowC_len r
  omega
/-! ### written -/
def t_written (K : PySem.W.Frag) (A : Ad) : TS :=
  (tSeq (tDrop (tUser (sp_need_both K A) (tCons (tC (.int 4)) (tCons (tVar 0) (tCons (tVar 1) (tCons (tC (.int 40)) tNil))))))
    (tRet (tBM K "str" (r_join K) (tC (.str "\n")) (tCons (tLc (iTup K (tTup (tCons (tVar 0) (tCons (tVar 1) tNil)))) (gName 3) tYes (tBM K "str" (r_join K) (tC (.str " ")) (tCons (tLc (iList K (tVar 3)) (gName 2) tYes (tUser (sp_word_of K A) (tCons (tVar 2) tNil)) [2]) tNil)) [3]) tNil))))
def sp_written (K : PySem.W.Frag) (A : Ad) : Sp := datSp K fun ds x => ∃ l r : List Deed, ds = [encP l, encP r] ∧ GoodP 4 l ∧ GoodP 4 r ∧ l.length ≤ 40 ∧ r.length ≤ 40 ∧ x = .str (mkS (textC l r))
theorem words_data (l : List Deed) : (List.range (encs l).length).map (fun i => (.str (mkS (wordC (deedAt l i))) : D)) = (l.map fun d => mkS (wordC d)).map PyData.str := by
  refine List.ext_getElem (by simp [encs]) fun i h1 h2 => ?_
  have hi : i < l.length := by simpa [encs] using h1
  simp only [List.getElem_map, List.getElem_range]
  rw [deedAt_eq hi]
theorem rd_written {C : Cc} {A : Ad} {l r : List Deed} (hl : GoodP 4 l) (hr : GoodP 4 r) (h1 : l.length ≤ 40) (h2 : r.length ≤ 40) : Ex C (t_written C.K A) [.d (encP l), .d (encP r), .no, .no] (retD (.str (mkS (textC l r)))) := by
  refine ex_seq (ex_drop (ef_d (ev_dat (x := .none) (ea_cons (ev_int (i := ((4 : Nat) : Int))) (ea_cons (ev_var rfl) (ea_two (ev_var rfl) (ev_int (i := ((40 : Nat) : Int)))))) ⟨4, 40, l, r, rfl, hl, hr, h1, h2, rfl⟩) ?_))
  have row : ∀ (p : List Deed), GoodP 4 p → p.length ≤ 40 → PD C (tBM C.K "str" (r_join C.K) (tC (.str " ")) (tCons (tLc (iList C.K (tVar 3)) (gName 2) tYes (tUser (sp_word_of C.K A) (tCons (tVar 2) tNil)) [2]) tNil)) [.d (encP l), .d (encP r), .no, .d (encP p)] (.str (mkS (rowC p))) := fun p hp hlen => by
    refine ev_is (ev_bmS ev_str (ea_one (x := .list ((p.map fun d => mkS (wordC d)).map PyData.str)) (ev_lc (n := (encs p).length) (item := itemOf (encs p)) (fun k => [.d (encP l), .d (encP r), .d (deedAt p k).enc, .d (encP p)]) (fun _ => true) (fun k => .str (mkS (wordC (deedAt p k)))) (pi_l (ds := encs p) (ev_var rfl)) (by rw [encs_len]; omega) (fun k hk => ?_) (fun k hk => fun σ Hb H fp W Q q => q Hb H (Step.refl W.same)) (fun k hk _ => ev_dat (ea_one (ev_var rfl)) ⟨deedAt p k, rfl, deedAt_good hp k, rfl⟩) (by rw [made_all, words_data]; exact .dat))) (om_join (row_bound (by omega)))) ?_
    · rw [encs_len] at hk
      rw [encs_at hk, ← deedAt_eq hk]
      exact gp_name (List.mem_singleton.mpr rfl)
    · rw [row_join]
  refine ex_ret (ef_d (ev_is (ev_bmS ev_str (ea_one (x := .list (([mkS (rowC l), mkS (rowC r)] : List Str).map PyData.str)) (ev_lc (n := 2) (item := itemOf [encP l, encP r]) (fun k => [.d (encP l), .d (encP r), .no, .d (encP (if k = 0 then l else r))]) (fun _ => true) (fun k => .str (mkS (rowC (if k = 0 then l else r)))) (pi_t (ds := [encP l, encP r]) (ev_tup (ea_two (ev_var rfl) (ev_var rfl)))) (by decide) (fun k hk => ?_) (fun k hk => fun σ Hb H fp W Q q => q Hb H (Step.refl W.same)) (fun k hk _ => ?_) (by rw [made_all]; exact .dat))) (om_join (text_bound (by omega) (by omega)))) ?_) rfl)
  · have : itemOf [encP l, encP r] k = encP (if k = 0 then l else r) := by
      have : k = 0 ∨ k = 1 := by omega
      rcases this with e | e <;> subst e <;> rfl
    rw [this]
    exact gp_name (List.mem_singleton.mpr rfl)
  · have : k = 0 ∨ k = 1 := by omega
    rcases this with e | e <;> subst e
    · exact row l hl h1
    · exact row r hr h2
  · rw [text_join]
end DL
set_option Elab.async false
set_option linter.all false
set_option maxRecDepth 100000
set_option maxHeartbeats 4000000
/-! EG: deed_of, program_of, read. -/
namespace DL
open PySem PySem.Spec PyProof.Rows L2

theorem strOk_mk {l : List Nat} (h : ∀ c ∈ l, c < 0x110000) : PyData.strOk (mkS l) = true := by
  unfold PyData.strOk
  show (l.toArray.all fun c => decide (c < 0x110000)) = true
  rw [List.all_toArray, List.all_eq_true]
  exact fun c hc => decide_eq_true (h c hc)
theorem wordC_lt {d : Deed} (h : d.Good 4) : ∀ c ∈ wordC d, c < 0x110000 := by
  intro c hc
  cases d with
  | rest => rw [List.mem_singleton.mp hc]; decide
  | read x =>
    have h : x < 4 := h
    have hc : c ∈ [114, 48 + x] := hc
    simp only [List.mem_cons, List.not_mem_nil, or_false] at hc
    omega
  | write x w =>
    have h : x < 4 ∧ w < 3 := h
    have hc : c ∈ [119, 48 + x, 48 + w] := hc
    simp only [List.mem_cons, List.not_mem_nil, or_false] at hc
    omega
theorem rowC_lt {l : List Deed} (h : GoodP 4 l) : ∀ c ∈ rowC l, c < 0x110000 := fun c hc => by
  rcases joinC_mem hc with e | ⟨p, hp, hz⟩
  · rw [e]; decide
  · obtain ⟨d, hd, rfl⟩ := List.mem_map.mp hp
    exact wordC_lt (h d hd) c hz
theorem textC_lt {l r : List Deed} (h1 : GoodP 4 l) (h2 : GoodP 4 r) : ∀ c ∈ textC l r, c < 0x110000 := fun c hc => by
  rw [textC_eq] at hc
  rcases List.mem_append.mp hc with z | z
  · exact rowC_lt h1 c z
  · rcases List.mem_cons.mp z with e | z
    · rw [e]; decide
    · exact rowC_lt h2 c z
theorem ok_gap : PyData.strOk ("-" : Str) = true := by decide +kernel
theorem ok_e : PyData.strOk ("" : Str) = true := by decide +kernel
theorem ok_rr : PyData.strOk ("r" : Str) = true := by decide +kernel
theorem ok_ww : PyData.strOk ("w" : Str) = true := by decide +kernel
theorem gap_eq (d : Deed) : (mkS (wordC d) == ("-" : Str)) = d.isRest := by
  rw [lit_gap]
  cases d with
  | rest => exact beq_self_eq_true _
  | read c => exact beq_eq_false_iff_ne.mpr fun e => by cases (List.cons.inj (mkS_inj e)).2
  | write c w => exact beq_eq_false_iff_ne.mpr fun e => by cases (List.cons.inj (mkS_inj e)).2
theorem one_eq {a b : Nat} : (one a == one b) = (a == b) := by
  rw [Bool.eq_iff_iff, beq_iff_eq, beq_iff_eq]
  constructor
  · intro e
    have : [a] = [b] := mkS_inj (a := [a]) (b := [b]) e
    exact (List.cons.inj this).1
  · intro e; rw [e]
theorem lit_r1 : ("r" : Str) = one 114 := by decide +kernel
theorem lit_w1 : ("w" : Str) = one 119 := by decide +kernel
theorem one_okN {c : Nat} (h : c < 0x110000) : PyData.strOk (one c) = true := strOk_mk (l := [c]) fun x hx => by rw [List.mem_singleton.mp hx]; exact h
theorem in_cells {c : Nat} (h : c < 4) : (!(Builtin.Str.occurrences ("0123" : Str) (one (48 + c)) 0 ("0123" : Str).length 1).isEmpty) = true := by
  have : c = 0 ∨ c = 1 ∨ c = 2 ∨ c = 3 := by omega
  rcases this with e | e | e | e <;> subst e <;> decide +kernel
theorem in_signs {c : Nat} (h : c < 3) : (!(Builtin.Str.occurrences ("012" : Str) (one (48 + c)) 0 ("012" : Str).length 1).isEmpty) = true := by
  have : c = 0 ∨ c = 1 ∨ c = 2 := by omega
  rcases this with e | e | e <;> subst e <;> decide +kernel
theorem int_one {c : Nat} (h : c < 4) : PySem.intText? (one (48 + c)) = some (c : Int) := by
  have : c = 0 ∨ c = 1 ∨ c = 2 ∨ c = 3 := by omega
  rcases this with e | e | e | e <;> subst e <;> decide +kernel
section
variable {C : Cc} {ρ : List Sl} {te : TE}
theorem ev_sgnAt {l : List Nat} {i : Nat} {j k : Nat} (hi : ρ[i]? = some (.d (.str (mkS l)))) (hl : l.length ≤ 1000) (h : l[j]? = some k) : PD C (tOp (rIx C.K) (tVar i) (tC (.int (j : Nat)))) ρ (.str (one k)) :=
  ev_op (ev_var hi) ev_int (o2_ixS (by rw [mkS_len]; omega) (atI_nat (by rw [mkS_cps]; exact h)))
theorem ev_intOf {l : List Nat} {i : Nat} {j k : Nat} (hi : ρ[i]? = some (.d (.str (mkS l)))) (hl : l.length ≤ 1000) (h : l[j]? = some (48 + k)) (hk : k < 4) : PD C (tCB rIntA (tCons (tOp (rIx C.K) (tVar i) (tC (.int (j : Nat)))) tNil)) ρ (.int (k : Nat)) :=
  ev_call (ea_one (ev_sgnAt hi hl h)) (on_intS (int_one hk) (show 1 ≤ 640 by decide))
end
/-! ### deed_of -/
def t_deed_of (K : PySem.W.Frag) (A : Ad) : TS :=
  (tSeq (tIfS (tTest (tOp (rEqD K) (tVar 0) (tC (.str "-")))) (tRet (tC (.ref A.aREST))) tNext)
    (tSeq (tIfS (tAnd (tTest (tOp (rEqD K) (tCB (rLenA K) (tCons (tVar 0) tNil)) (tC (.int 2)))) (tAnd (tTest (tOp (rEqD K) (tOp (rIx K) (tVar 0) (tC (.int 0))) (tC (.str "r")))) (tTest (tOp (rInA K) (tOp (rIx K) (tVar 0) (tC (.int 1))) (tC (.str "0123")))))) (tRet (tTup (tCons (tC (.str "read")) (tCons (tCB (rIntA) (tCons (tOp (rIx K) (tVar 0) (tC (.int 1))) tNil)) tNil)))) tNext)
    (tSeq (tIfS (tAnd (tTest (tOp (rEqD K) (tCB (rLenA K) (tCons (tVar 0) tNil)) (tC (.int 3)))) (tAnd (tTest (tOp (rEqD K) (tOp (rIx K) (tVar 0) (tC (.int 0))) (tC (.str "w")))) (tAnd (tTest (tOp (rInA K) (tOp (rIx K) (tVar 0) (tC (.int 1))) (tC (.str "0123")))) (tTest (tOp (rInA K) (tOp (rIx K) (tVar 0) (tC (.int 2))) (tC (.str "012"))))))) (tRet (tTup (tCons (tC (.str "write")) (tCons (tCB (rIntA) (tCons (tOp (rIx K) (tVar 0) (tC (.int 1))) tNil)) (tCons (tCB (rIntA) (tCons (tOp (rIx K) (tVar 0) (tC (.int 2))) tNil)) tNil))))) tNext)
    (tRet (tC .non)))))
def sp_deed_of (K : PySem.W.Frag) (A : Ad) : Sp := datSp K fun ds x => ∃ d : Deed, ds = [.str (mkS (wordC d))] ∧ d.Good 4 ∧ x = d.enc
theorem rd_deed_of {C : Cc} {A : Ad} {d : Deed} (hR : RestOk C.K A) (hd : d.Good 4) : Ex C (t_deed_of C.K A) [.d (.str (mkS (wordC d)))] (retD d.enc) := by
  have hlen : (wordC d).length ≤ 1000 := Nat.le_trans (wordC_len d) (by decide)
  have elen : PD C (tCB (rLenA C.K) (tCons (tVar 0) tNil)) [.d (.str (mkS (wordC d)))] (.int ((wordC d).length : Nat)) := ev_is (ev_call (ea_one (ev_var rfl)) (on_lenS (by rw [mkS_len]; omega))) (by rw [mkS_len])
  refine ex_seq (ex_ifp (et_test (ev_is (ev_eqW (ev_var rfl) (strOk_mk (wordC_lt hd)) ok_gap) (by rw [gap_eq]))) (fun e => ?_) fun e => ex_next ?_)
  · cases d with
    | rest => exact ex_ret (ef_d (ev_const hR) rfl)
    | read c => cases e
    | write c w => cases e
  cases d with
  | rest => cases e
  | read c =>
    have hc : c < 4 := hd
    refine ex_seq (ex_ifp (b := true) (et_is (et_and (b := true) (et_test (ev_is (ev_eqI elen ev_int) rfl)) fun _ => et_and (b := true) (et_test (ev_is (ev_eqW (ev_sgnAt (j := 0) (k := 114) rfl hlen rfl) (one_okN (by decide)) ok_rr) (by rw [lit_r1, one_eq]; rfl))) fun _ => et_test (ev_is (ev_op (ev_sgnAt (j := 1) (k := 48 + c) rfl hlen rfl) ev_str o2_inS) (by rw [in_cells hc]))) rfl) (fun _ => ?_) fun z => nomatch z)
    exact ex_ret (ef_d (ev_tup (ea_two ev_str (ev_intOf (j := 1) rfl hlen rfl hc))) rfl)
  | write c w =>
    have hc : c < 4 ∧ w < 3 := hd
    refine ex_seq (ex_ifp (b := false) (et_is (et_and (b := false) (c := true) (et_test (ev_is (ev_eqI elen ev_int) rfl)) fun z => nomatch z) rfl) (fun z => nomatch z) fun _ => ex_next ?_)
    refine ex_seq (ex_ifp (b := true) (et_is (et_and (b := true) (et_test (ev_is (ev_eqI elen ev_int) rfl)) fun _ => et_and (b := true) (et_test (ev_is (ev_eqW (ev_sgnAt (j := 0) (k := 119) rfl hlen rfl) (one_okN (by decide)) ok_ww) (by rw [lit_w1, one_eq]; rfl))) fun _ => et_and (b := true) (et_test (ev_is (ev_op (ev_sgnAt (j := 1) (k := 48 + c) rfl hlen rfl) ev_str o2_inS) (by rw [in_cells hc.1]))) fun _ => et_test (ev_is (ev_op (ev_sgnAt (j := 2) (k := 48 + w) rfl hlen rfl) ev_str o2_inS) (by rw [in_signs hc.2]))) rfl) (fun _ => ?_) fun z => nomatch z)
    exact ex_ret (ef_d (ev_tup (ea_cons ev_str (ea_two (ev_intOf (j := 1) rfl hlen rfl hc.1) (ev_intOf (j := 2) rfl hlen rfl (show w < 4 by omega))))) rfl)

/-! ### program_of -/
def t_program_of (K : PySem.W.Frag) (A : Ad) : TS :=
  (tSeq (tAsg (tLst tNil) (gName 2))
    (tSeq (tFor (iEnum K (tCons (tIf (tTest (tOp (rNeD K) (tVar 1) (tC (.str "")))) (tBM K "str" r_split (tVar 1) (tCons (tC (.str " ")) tNil)) (tLst tNil)) tNil)) (gTup K 2 (gCons (gName 3) (gCons (gName 4) gNil))) (tSeq (tAsg (tUser (sp_deed_of K A) (tCons (tVar 4) tNil)) (gName 5))
    (tSeq (tIfS (tOr (tTest (tOp rIsNA (tVar 5) (tC .non))) (tTest (tOp rGeA (tVar 3) (tC (.int 40))))) tNever tNext)
    (tDrop (tBM K "list" rAppend (tVar 2) (tCons (tVar 5) tNil))))))
    (tRet (tVar 2))))
def sp_program_of (K : PySem.W.Frag) (A : Ad) : Sp := lstSp K fun ds xs => ∃ (row : Nat) (l : List Deed), ds = [.int (row : Nat), .str (mkS (rowC l))] ∧ GoodP 4 l ∧ l.length ≤ 40 ∧ xs = encs l
theorem ef_retL {C : Cc} {ρ : List Sl} {i : Nat} {xs : List D} {s : Sl} (hi : ρ[i]? = some (own C.K xs)) (ls : Lsl C.K xs s) (h0 : i ≠ 0) : Ev C (tVar i) ρ fun s' _ => s' = s := by
  cases ls with
  | dat => exact ef_frz hi rfl h0
  | own => exact ef_move hi rfl h0
theorem words_item {l : List Deed} {i : Nat} (h : i < l.length) : itemOf ((l.map fun d => mkS (wordC d)).map PyData.str) i = .str (mkS (wordC (deedAt l i))) := itemOf_some (by
  rw [List.getElem?_map, List.getElem?_map, List.getElem?_eq_getElem h, deedAt_eq h]; rfl)
theorem rd_program_of {C : Cc} {A : Ad} {row : Nat} {l : List Deed} {s : Sl} (hl : GoodP 4 l) (h1 : l.length ≤ 40) (ls : Lsl C.K (encs l) s) : Ex C (t_program_of C.K A) [.d (.int (row : Nat)), .d (.str (mkS (rowC l))), .no, .no, .no, .no] { nx := fun _ => (Sl.d .none) = s, rt := fun s' _ => s' = s } := by
  have hrl := rowC_len l
  refine ex_seq (ex_set (s := own C.K []) (ev_lstO ea_nil) ?_)
  have words : PD C (tIf (tTest (tOp (rNeD C.K) (tVar 1) (tC (.str "")))) (tBM C.K "str" r_split (tVar 1) (tCons (tC (.str " ")) tNil)) (tLst tNil)) [.d (.int (row : Nat)), .d (.str (mkS (rowC l))), own C.K [], .no, .no, .no] (.list ((l.map fun d => mkS (wordC d)).map PyData.str)) := by
    by_cases hz : l = []
    · subst hz
      exact ev_if (b := false) (et_test (ev_is (ev_op (ev_var rfl) ev_str (o2_ne (sh_str (strOk_mk (rowC_lt hl))) (sh_str ok_e))) (by rw [eqv_str, lit_e]; rfl))) (fun z => nomatch z) fun _ => ev_lst ea_nil
    · have hne : ¬ (mkS (rowC l) = mkS []) := fun z => hz ((rowC_nil l).mp (mkS_inj z))
      refine ev_if (b := true) (et_test (ev_is (ev_op (ev_var rfl) ev_str (o2_ne (sh_str (strOk_mk (rowC_lt hl))) (sh_str ok_e))) (by rw [eqv_str, lit_e, beq_eq_false_iff_ne.mpr hne]; rfl))) (fun _ => ?_) fun z => nomatch z
      refine ev_bmS (ev_var rfl) (ea_one ev_str) (om_split (by decide +kernel) (by rw [mkS_len]; omega) ?_ .dat)
      rw [lit_sp]
      have := split_join (c := 32) (ps := l.map wordC) (fun z => hz (List.map_eq_nil_iff.mp z)) fun p hp => by
        obtain ⟨d, hd, rfl⟩ := List.mem_map.mp hp
        exact wordC_free (hl d hd) (.inl rfl)
      rw [List.map_map] at this
      exact this
  refine ex_seq (ex_for (ei_p (pi_enu (ds := (l.map fun d => mkS (wordC d)).map PyData.str) (ea_one words)) ⟨fun i ρ => ∃ s3 s4 s5, ρ = [.d (.int (row : Nat)), .d (.str (mkS (rowC l))), own C.K (encs (l.take i)), s3, s4, s5], ⟨_, _, _, rfl⟩, fun i ρ hi ⟨s3, s4, s5, e⟩ => ?_, fun ρ ⟨s3, s4, s5, e⟩ => ?_⟩))
  · subst e
    have hi : i < l.length := by simpa using hi
    rw [words_item hi]
    refine eg_tup rfl (egs_cons (eg_name (egs_cons (eg_name (egs_nil ?_)))))
    refine ex_seq (ex_set (s := .d (deedAt l i).enc) (ev_dat (ea_one (ev_var rfl)) ⟨deedAt l i, rfl, deedAt_good hl i, rfl⟩) ?_)
    refine ex_seq (ex_ifp (b := false) (et_is (et_or (b := false) (et_test (ev_is (ev_op (ev_var rfl) ev_non o2_isN) rfl)) fun _ => et_test (ev_op (ev_var rfl) ev_int o2_geI)) (by rw [decide_eq_false (by omega)]; rfl)) (fun z => nomatch z) fun _ => ex_next ?_)
    refine ex_app (xs := encs (l.take i)) (lr_own rfl) (ev_var rfl) (by rw [encs_len, List.length_take]; omega) ⟨.d (.int (i : Nat)), .d (.str (mkS (wordC (deedAt l i)))), .d (deedAt l i).enc, ?_⟩
    rw [List.take_succ_eq_append_getElem hi, ← encs_app, deedAt_eq hi]; rfl
  · subst e
    rw [List.length_map, List.length_map, List.take_length]
    exact ex_ret (ef_retL rfl ls (by decide))

/-! ### read -/
def t_read (K : PySem.W.Frag) (A : Ad) : TS :=
  (tSeq (tAsg (tBM K "str" r_split (tVar 0) (tCons (tC (.str "\n")) tNil)) (gName 1))
    (tSeq (tAsg (tLc (iRng1 (tCons (tCB (rMinA) (tCons (tC (.int 2)) (tCons (tCB (rLenA K) (tCons (tVar 1) tNil)) tNil))) tNil)) (gName 3) tYes (tUser (sp_program_of K A) (tCons (tVar 3) (tCons (tOp (rIx K) (tVar 1) (tVar 3)) tNil))) [3]) (gName 2))
    (tSeq (tIfS (tTest (tOp (rNeD K) (tCB (rLenA K) (tCons (tVar 1) tNil)) (tC (.int 2)))) tNever tNext)
    (tRet (tTup (tCons (tOp (rIx K) (tVar 2) (tC (.int 0))) (tCons (tOp (rIx K) (tVar 2) (tC (.int 1))) tNil)))))))
def sp_read (K : PySem.W.Frag) (A : Ad) : Sp := pairSp K fun ds xs ys rest => ∃ l r : List Deed, ds = [.str (mkS (textC l r))] ∧ GoodP 4 l ∧ GoodP 4 r ∧ l.length ≤ 40 ∧ r.length ≤ 40 ∧ xs = encs l ∧ ys = encs r ∧ rest = []
theorem rd_read {C : Cc} {A : Ad} {l r : List Deed} {s : Sl} (hl : GoodP 4 l) (hr : GoodP 4 r) (h1 : l.length ≤ 40) (h2 : r.length ≤ 40) (ps : Psl C.K (encs l) (encs r) [] s) : Ex C (t_read C.K A) [.d (.str (mkS (textC l r))), .no, .no, .no] { nx := fun _ => (Sl.d .none) = s, rt := fun s' _ => s' = s } := by
  have htl := textC_len l r
  have hsp : Txt.split (mkS (textC l r)) "\n" = [mkS (rowC l), mkS (rowC r)] := by
    rw [lit_nl]
    exact split_join (c := 10) (ps := [rowC l, rowC r]) (fun z => nomatch z) fun p hp => by
      rcases List.mem_cons.mp hp with e | hp
      · rw [e]; exact rowC_free hl
      · rw [List.mem_singleton.mp hp]; exact rowC_free hr
  refine ex_seq (ex_set (s := .d (.list ([mkS (rowC l), mkS (rowC r)].map PyData.str))) (ev_bmS (ev_var rfl) (ea_one ev_str) (om_split (by decide +kernel) (by rw [mkS_len]; omega) hsp .dat)) ?_)
  refine ex_seq (ex_set (s := .ow (.lol C.K [encs l, encs r])) (ev_lcO (n := 2) (item := fun i => .int (i : Nat)) (fun k => [.d (.str (mkS (textC l r))), .d (.list ([mkS (rowC l), mkS (rowC r)].map PyData.str)), .no, .d (.int (k : Nat))]) (fun k => if k = 0 then encs l else encs r) (pi_r1 (j := 2) (ea_one (ev_is (ev_call (ea_two ev_int (ev_call (ea_one (ev_var rfl)) (on_lenL (ds := [mkS (rowC l), mkS (rowC r)].map PyData.str)))) on_min) rfl)) (by decide)) (by decide) (fun k hk => gp_name (List.mem_singleton.mpr rfl)) (fun k hk => ?_)) ?_)
  · have : k = 0 ∨ k = 1 := by omega
    rcases this with e | e <;> subst e
    · exact ev_lstf (ds := encs l) (ea_two (ev_var rfl) (ev_op (ev_var rfl) (ev_var rfl) (o2_ixL (atI_nat (j := 0) rfl)))) ⟨0, l, rfl, hl, h1, rfl⟩ .own
    · exact ev_lstf (ds := encs r) (ea_two (ev_var rfl) (ev_op (ev_var rfl) (ev_var rfl) (o2_ixL (atI_nat (j := 1) rfl)))) ⟨1, r, rfl, hr, h2, rfl⟩ .own
  refine ex_seq (ex_ifp (b := false) (et_test (ev_is (ev_neI (ev_call (ea_one (ev_var rfl)) (on_lenL (ds := [mkS (rowC l), mkS (rowC r)].map PyData.str))) ev_int) rfl)) (fun z => nomatch z) fun _ => ex_next ?_)
  exact ex_ret (ef_pair2 (i := 2) (j := 2) (lr2_lol rfl ev_int ev_int) ea_nil ps (Nat.zero_le _) rfl)
end DL
set_option Elab.async false
set_option linter.all false
set_option maxRecDepth 100000
set_option maxHeartbeats 4000000
/-! EI: a comprehension within a comprehension. -/
namespace DL
open PySem PySem.Spec L2
theorem blkOk_in {X : Cx} {s : Shared} {H : Hp} {scope scope2 : Scope} {cl : List (Str × Addr)} {a : Addr} {fp : List Addr} {own : List (Str × Nat)} {N : List Str} {sc0 : Scope} (hN : X.N = N) (hs : X.env.scope = sc0) (h : blkC N (relS scope sc0) scope2 own = true) :
    BlkOk (X.blk s H scope (compEnvC scope cl a X.env) fp).N (X.blk s H scope (compEnvC scope cl a X.env) fp).env.scope scope2 own := by
  subst hN; subst hs
  exact blkOk_by h
end DL
set_option Elab.async false
set_option linter.all false
set_option maxRecDepth 100000
set_option maxHeartbeats 4000000
/-! FA: dicts whose keys are nested tuples of ints: what stands there; the rules. -/
namespace DL
open PySem PySem.Spec PyProof.Rows L2

/-! ### data as keys -/
mutual
def nk : D → NestedKey
  | .int i => .num i
  | .tuple ds => .tup (nks ds)
  | .none => .none
  | .bool _ => .none
  | .str _ => .none
  | .list _ => .none
  | .dict _ => .none
def nks : List D → List NestedKey
  | [] => []
  | d :: ds => nk d :: nks ds
end
mutual
def keyD : D → Bool
  | .int _ => true
  | .tuple ds => keyDs ds
  | .none => false
  | .bool _ => false
  | .str _ => false
  | .list _ => false
  | .dict _ => false
def keyDs : List D → Bool
  | [] => true
  | d :: ds => keyD d && keyDs ds
end
theorem keyDs_cons {d : D} {ds : List D} (h : keyDs (d :: ds) = true) : keyD d = true ∧ keyDs ds = true := by
  have h : (keyD d && keyDs ds) = true := h
  rwa [Bool.and_eq_true] at h
mutual
theorem nk_inj : ∀ (x y : D), keyD x = true → keyD y = true → nk x = nk y → x = y
  | .int i, y, _, hy, h => by
    cases y with
    | int j => have h : NestedKey.num i = NestedKey.num j := h; injection h with h; rw [h]
    | tuple ds => exact nomatch (show NestedKey.num i = NestedKey.tup (nks ds) from h)
    | _ => exact nomatch hy
  | .tuple xs, y, hx, hy, h => by
    cases y with
    | int j => exact nomatch (show NestedKey.tup (nks xs) = NestedKey.num j from h)
    | tuple ys =>
      have h : NestedKey.tup (nks xs) = NestedKey.tup (nks ys) := h
      injection h with h
      rw [nks_inj xs ys hx hy h]
    | _ => exact nomatch hy
  | .none, _, h, _, _ => nomatch h
  | .bool _, _, h, _, _ => nomatch h
  | .str _, _, h, _, _ => nomatch h
  | .list _, _, h, _, _ => nomatch h
  | .dict _, _, h, _, _ => nomatch h
theorem nks_inj : ∀ (xs ys : List D), keyDs xs = true → keyDs ys = true → nks xs = nks ys → xs = ys
  | [], ys, _, _, h => by
    cases ys with
    | nil => rfl
    | cons y ys => exact nomatch (show ([] : List NestedKey) = nk y :: nks ys from h)
  | x :: xs, ys, hx, hy, h => by
    cases ys with
    | nil => exact nomatch (show nk x :: nks xs = ([] : List NestedKey) from h)
    | cons y ys =>
      have h : nk x :: nks xs = nk y :: nks ys := h
      injection h with h1 h2
      obtain ⟨a1, a2⟩ := keyDs_cons hx
      obtain ⟨b1, b2⟩ := keyDs_cons hy
      rw [nk_inj x y a1 b1 h1, nks_inj xs ys a2 b2 h2]
end
mutual
theorem nk_hash (w w' : World) : ∀ x : D, keyD x = true → (nk x).hash w = (nk x).hash w'
  | .int _, _ => rfl
  | .tuple ds, h => by
    show reduceHash (Builtin.Tuple.tupleHashOf (NestedKey.hashes w (nks ds))) = reduceHash (Builtin.Tuple.tupleHashOf (NestedKey.hashes w' (nks ds)))
    rw [nks_hash w w' ds h]
  | .none, h => nomatch h
  | .bool _, h => nomatch h
  | .str _, h => nomatch h
  | .list _, h => nomatch h
  | .dict _, h => nomatch h
theorem nks_hash (w w' : World) : ∀ xs : List D, keyDs xs = true → NestedKey.hashes w (nks xs) = NestedKey.hashes w' (nks xs)
  | [], _ => rfl
  | x :: xs, h => by
    obtain ⟨a1, a2⟩ := keyDs_cons h
    show NestedKey.hash w (nk x) :: NestedKey.hashes w (nks xs) = NestedKey.hash w' (nk x) :: NestedKey.hashes w' (nks xs)
    rw [nk_hash w w' x a1, nks_hash w w' xs a2]
end
/-- a key -/
def KeyOk (d : D) : Prop := keyD d = true ∧ (nk d).depth ≤ 8

/-! ### look-up, store -/
section
variable {β : Type}
def lkN (l : List (D × β)) (k : D) : Option β := (l.find? fun p => decide (nk p.1 = nk k)).map (·.2)
theorem lkN_pos {p : D × β} {l : List (D × β)} {k : D} (e : nk p.1 = nk k) : lkN (p :: l) k = some p.2 := by simp [lkN, List.find?_cons, e]
theorem lkN_neg {p : D × β} {l : List (D × β)} {k : D} (e : ¬ nk p.1 = nk k) : lkN (p :: l) k = lkN l k := by simp [lkN, List.find?_cons, e]
def putN (l : List (D × β)) (k : D) (v : β) : List (D × β) := if (lkN l k).isSome = true then l.map (fun p => if nk p.1 = nk k then (p.1, v) else p) else l ++ [(k, v)]
end
abbrev RawN := List (D × Addr × V)
def putR (l : RawN) (k : D) (b : Addr) (v : V) : RawN := if (lkN l k).isSome = true then l.map (fun p => if nk p.1 = nk k then (p.1, p.2.1, v) else p) else l ++ [(k, b, v)]
theorem putR_len (l : RawN) (k : D) (b : Addr) (v : V) : (putR l k b v).length ≤ l.length + 1 := by
  unfold putR
  split
  · rw [List.length_map]; omega
  · rw [List.length_append]; show _ + 1 ≤ _; omega
theorem putR_key {l : RawN} {k : D} {b : Addr} {v : V} (hk : keyD k = true) (h : ∀ r ∈ l, keyD r.1 = true) : ∀ r ∈ putR l k b v, keyD r.1 = true := by
  unfold putR
  split
  · intro r hr
    obtain ⟨q, hq, rfl⟩ := List.mem_map.mp hr
    by_cases e : nk q.1 = nk k
    · rw [if_pos e]; exact h q hq
    · rw [if_neg e]; exact h q hq
  · intro r hr
    rcases List.mem_append.mp hr with hr | hr
    · exact h r hr
    · rw [List.mem_singleton.mp hr]; exact hk
/-- the raw entries and the machine's -/
abbrev PR : RawN → List (NestedKey × Addr × Value) → Prop := Paired fun p q => q.1 = nk p.1 ∧ q.2.1 = p.2.1 ∧ RelV p.2.2 q.2.2
theorem PR.at {raw : RawN} {xs : List (NestedKey × Addr × Value)} (h : PR raw xs) (k : D) : RelO ((lkN raw k).map (·.2)) ((atKey xs (nk k)).map (·.2)) := by
  induction h with
  | nil => exact True.intro
  | @cons p q ps qs r t ih =>
    obtain ⟨h1, _, h2⟩ := r
    by_cases e : nk p.1 = nk k
    · have e' : q.1 = nk k := h1.trans e
      have b : atKey (q :: qs) (nk k) = some q.2 := by simp [atKey, List.find?_cons, e']
      rw [lkN_pos e, b]; exact h2
    · have e' : ¬ q.1 = nk k := fun z => e (h1.symm.trans z)
      have b : atKey (q :: qs) (nk k) = atKey qs (nk k) := by simp [atKey, List.find?_cons, e']
      rw [lkN_neg e, b]; exact ih
theorem PR.repl {raw : RawN} {xs : List (NestedKey × Addr × Value)} (h : PR raw xs) (k : D) {y : V} {u : Value} (ry : RelV y u) : PR (raw.map fun p => if nk p.1 = nk k then (p.1, p.2.1, y) else p) (xs.map (putAt (nk k) u)) := by
  induction h with
  | nil => exact .nil
  | @cons p q ps qs r t ih =>
    rw [List.map_cons, List.map_cons]
    refine .cons ?_ ih
    obtain ⟨h1, h2, h3⟩ := r
    unfold putAt
    by_cases e : nk p.1 = nk k
    · rw [if_pos e, if_pos (h1.trans e)]; exact ⟨h1, h2, ry⟩
    · rw [if_neg e, if_neg (fun z => e (h1.symm.trans z))]; exact ⟨h1, h2, h3⟩
theorem relO_some {o : Option V} {u : Option Value} (r : RelO o u) : o.isSome = u.isSome := r.isSome_eq
theorem PR.put {raw : RawN} {xs : List (NestedKey × Addr × Value)} (h : PR raw xs) (k : D) (b : Addr) {y : V} {u : Value} (ry : RelV y u) : PR (putR raw k b y) (storedH xs (nk k) b u) := by
  have e : (lkN raw k).isSome = (atKey xs (nk k)).isSome := by
    have := relO_some (h.at k)
    rwa [Option.isSome_map, Option.isSome_map] at this
  unfold putR storedH
  rw [e]
  by_cases q : (atKey xs (nk k)).isSome = true
  · rw [if_pos q, if_pos q]; exact h.repl k ry
  · rw [if_neg q, if_neg q]; exact Paired.snoc h ⟨rfl, rfl, ry⟩
/-- the data that stand there -/
abbrev KvN (K : PySem.W.Frag) (Hb : Hp) : List (D × D) → RawN → Prop := Paired fun p r => r.1 = p.1 ∧ KeyOk p.1 ∧ Rp K Hb (.ref r.2.1) p.1 ∧ Rp K Hb r.2.2 p.2
section
variable {K : PySem.W.Frag} {Hb Hb' : Hp} {kvs : List (D × D)} {raw : RawN}
theorem KvN.mono (h : KvN K Hb kvs raw) (s : Same Hb Hb') : KvN K Hb' kvs raw := Paired.mapP h fun _ _ z => ⟨z.1, z.2.1, z.2.2.1.mono s, z.2.2.2.mono s⟩
theorem KvN.at (h : KvN K Hb kvs raw) (k : D) : (lkN kvs k = none ∧ lkN raw k = none) ∨ ∃ d b v, lkN kvs k = some d ∧ lkN raw k = some (b, v) ∧ Rp K Hb v d := by
  induction h with
  | nil => exact .inl ⟨rfl, rfl⟩
  | @cons p q ps qs r t ih =>
    obtain ⟨h1, _, _, h2⟩ := r
    by_cases e : nk p.1 = nk k
    · exact .inr ⟨p.2, q.2.1, q.2.2, lkN_pos e, lkN_pos (by rw [h1]; exact e), h2⟩
    · rw [lkN_neg e, lkN_neg (p := q) (by rw [h1]; exact e)]; exact ih
theorem KvN.put (h : KvN K Hb kvs raw) {k d : D} {b : Addr} {v : V} (hk : KeyOk k) (hb : Rp K Hb (.ref b) k) (hv : Rp K Hb v d) : KvN K Hb (putN kvs k d) (putR raw k b v) := by
  have e : (lkN kvs k).isSome = (lkN raw k).isSome := by
    rcases h.at k with ⟨e1, e2⟩ | ⟨_, _, _, e1, e2, _⟩ <;> rw [e1, e2] <;> rfl
  unfold putN putR
  rw [e]
  by_cases q : (lkN raw k).isSome = true
  · rw [if_pos q, if_pos q]
    clear q e
    induction h with
    | nil => exact .nil
    | @cons p q ps qs r t ih =>
      rw [List.map_cons, List.map_cons]
      refine .cons ?_ ih
      obtain ⟨h1, h2, h3, h4⟩ := r
      by_cases e : nk p.1 = nk k
      · rw [if_pos e, if_pos (by rw [h1]; exact e)]; exact ⟨h1, h2, h3, hv⟩
      · rw [if_neg e, if_neg (by rw [h1]; exact e)]; exact ⟨h1, h2, h3, h4⟩
  · rw [if_neg q, if_neg q]; exact Paired.snoc h ⟨rfl, hk, hb, hv⟩
theorem KvN.keys (h : KvN K Hb kvs raw) : ∀ r ∈ raw, KeyOk r.1 := by
  induction h with
  | nil => exact fun _ z => nomatch z
  | @cons p q ps qs r t ih =>
    intro x hx
    rcases List.mem_cons.mp hx with e | hx
    · rw [e, r.1]; exact r.2.1
    · exact ih x hx
theorem KvN.length (h : KvN K Hb kvs raw) : kvs.length = raw.length := Paired.length h
end

/-! ### the object -/
def entN (w : World) (x : NestedKey × Addr × Value) : DictEntry := ⟨x.1.hash w, .ref x.2.1, x.2.2⟩
def phiN (a : Addr) (ep : Nat) (raw : RawN) : Heap → Prop := fun h => raw.length ≤ sizeLine ∧ (a == sysModules) = false ∧ ∃ o es xs, h.get? a = some o ∧ o.ExactDict ∧ o.data = .dict es ep ∧ PR raw xs ∧ (∀ w, es.toList = xs.map (entN w)) ∧ (xs.map (·.1)).Nodup
def DN (a : Addr) (ep : Nat) (raw : RawN) : HO := .ext (phiN a ep raw)
theorem dn_ok {P : Program} {w : World} {H : Hp} {h : Heap} {a : Addr} {ep : Nat} {raw : RawN} (x : phiN a ep raw h) : ObjOk P w H h a (DN a ep raw) :=
  ⟨x, (let ⟨_, _, o, _, _, e, _⟩ := x; ⟨o, e⟩), fun h1 h2 x k => let ⟨z, hd, o, es, xs, e, r⟩ := x; ⟨z, hd, o, es, xs, k o e, r⟩⟩
theorem pr_mem {raw : RawN} {xs : List (NestedKey × Addr × Value)} (h : PR raw xs) : ∀ x ∈ xs, ∃ r ∈ raw, x.1 = nk r.1 ∧ x.2.1 = r.2.1 := by
  induction h with
  | nil => exact fun _ z => nomatch z
  | @cons p q ps qs r t ih =>
    intro x hx
    rcases List.mem_cons.mp hx with e | hx
    · rw [e]; exact ⟨p, List.mem_cons_self, r.1, r.2.1⟩
    · obtain ⟨r', h1, h2⟩ := ih x hx
      exact ⟨r', List.mem_cons_of_mem _ h1, h2⟩
theorem dn_mk {P : Program} {w : World} {h : Heap} {a : Addr} {raw : RawN} {xs : List (NestedKey × Addr × Value)} (z : raw.length ≤ sizeLine) (hd : (a == sysModules) = false) (pr : PR raw xs) (kd : ∀ r ∈ raw, keyD r.1 = true)
    (dd : h.DictOfH (nestedKind P w) a xs) : ∃ ep, phiN a ep raw h := by
  obtain ⟨o, es, ep, ho, hc, hdt, he, _, hn⟩ := dd
  refine ⟨ep, z, hd, o, es, xs, ho, hc, hdt, pr, fun v => ?_, hn⟩
  rw [he]
  refine List.map_congr_left fun x hx => ?_
  obtain ⟨r, hr, e, _⟩ := pr_mem pr x hx
  show DictEntry.mk (x.1.hash w) (.ref x.2.1) x.2.2 = DictEntry.mk (x.1.hash v) (.ref x.2.1) x.2.2
  rw [e, nk_hash w v r.1 (kd r hr)]
theorem dn_new {P : Program} {w : World} {H : Hp} (h : Heap) (hb : sysModules < h.objs.size) : ObjOk P w H (h.push { cls := .type "dict", data := .dict #[] }) h.objs.size (DN h.objs.size 0 []) :=
  dn_ok ⟨Nat.zero_le _, beq_eq_false_iff_ne.mpr (Ne.symm (Nat.ne_of_lt hb)), _, #[], [], Heap.get?_push_size _ rfl, ⟨rfl, rfl, rfl⟩, rfl, .nil, fun _ => rfl, List.nodup_nil⟩
section
variable {X : Cx} {pins : List (Addr × Obj)} {σ : L2.St} {H : Hp} {s : Shared}
mutual
theorem key_is (I : Inv X pins σ H s) : ∀ (d : D) (v : V) (u : Value), keyD d = true → Rp X.K H v d → RelV v u → NestedIs s.heap (nk d) u
  | .int i, v, u, _, h, r => by
    cases h
    obtain ⟨t, rfl⟩ := r
    exact .int i t
  | .tuple ds, v, u, hk, h, r => by
    cases h with
    | tup hs ha =>
      cases (show u = Value.ref _ from r)
      obtain ⟨its, rv, ⟨o, ho, hc, n, hd⟩, _⟩ := I.tuple hs
      exact .tup ho hc hd (by simpa using keys_is I ds _ its hk ha rv)
  | .none, _, _, h, _, _ => nomatch h
  | .bool _, _, _, h, _, _ => nomatch h
  | .str _, _, _, h, _, _ => nomatch h
  | .list _, _, _, h, _, _ => nomatch h
  | .dict _, _, _, h, _, _ => nomatch h
theorem keys_is (I : Inv X pins σ H s) : ∀ (ds : List D) (vs : List V) (us : List Value), keyDs ds = true → RpAll X.K H vs ds → Vals vs us → NestedAll s.heap (nks ds) us
  | [], _, _, _, h, r => by cases h; cases r; exact .nil
  | d :: ds, _, _, hk, h, r => by
    obtain ⟨k1, k2⟩ := keyDs_cons hk
    cases h with
    | cons h1 h2 =>
      cases r with
      | cons r1 r2 => exact .cons (key_is I d _ _ k1 h1 r1) (keys_is I ds _ _ k2 h2 r2)
end
theorem key_at (I : Inv X pins σ H s) {d : D} {b : Addr} (hk : KeyOk d) (h : Rp X.K H (.ref b) d) : (nestedKind X.prog X.w).is s.heap (nk d) b := ⟨key_is I d _ _ hk.1 h rfl, hk.2⟩
theorem dn_at {a : Addr} {ep : Nat} {raw : RawN} {kvs : List (D × D)} (I : Inv X pins σ H s) (e : H a = some (DN a ep raw)) (kv : KvN X.K H kvs raw) :
    raw.length ≤ sizeLine ∧ (a == sysModules) = false ∧ ∃ xs, PR raw xs ∧ s.heap.DictOfH (nestedKind X.prog X.w) a xs := by
  have x : ObjOk X.prog X.w H s.heap a (DN a ep raw) := I.hok a _ e
  obtain ⟨⟨z, hd, o, es, xs, ho, hc, hdt, pr, he, hn⟩, _, _⟩ := x
  refine ⟨z, hd, xs, pr, o, es, ep, ho, hc, hdt, he X.w, ?_, hn⟩
  have all : ∀ {l : List (D × D)} {m : RawN} {n : List (NestedKey × Addr × Value)}, KvN X.K H l m → PR m n → ∀ x ∈ n, (nestedKind X.prog X.w).is s.heap x.1 x.2.1 := by
    intro l m n h
    induction h generalizing n with
    | nil => intro q x hx; cases q; cases hx
    | @cons p q ps qs r t ih =>
      intro q x hx
      cases q with
      | cons r1 t1 =>
        rcases List.mem_cons.mp hx with e | hx
        · subst e
          rw [r1.1, r1.2.1, r.1]
          exact key_at I r.2.1 r.2.2.1
        · exact ih t1 x hx
  exact all kv pr
/-- .. its plain object -/
theorem dn_raw {a : Addr} {ep : Nat} {raw : RawN} (I : Inv X pins σ H s) (e : H a = some (DN a ep raw)) : (a == sysModules) = false ∧ ∃ (o : Obj) (es : Array DictEntry), s.heap.get? a = some o ∧ o.ExactDict ∧ o.data = .dict es ep ∧ es.size = raw.length ∧ ∀ (i : Nat) (r : D × Addr × V), raw[i]? = some r → ∃ en : DictEntry, es[i]? = some en ∧ en.key = .ref r.2.1 := by
  have x : ObjOk X.prog X.w H s.heap a (DN a ep raw) := I.hok a _ e
  obtain ⟨⟨z, hd, o, es, xs, ho, hc, hdt, pr, he, hn⟩, _, _⟩ := x
  have he := he X.w
  have l1 : es.size = raw.length := by
    have := congrArg List.length he
    rw [List.length_map, Array.length_toList] at this
    rw [this]; exact (Paired.length pr).symm
  refine ⟨hd, o, es, ho, hc, hdt, l1, fun i r hr => ?_⟩
  obtain ⟨q, hq, e1, e2, _⟩ := paired_get pr hr
  have : es[i]? = some (entN X.w q) := by rw [← Array.getElem?_toList, he, List.getElem?_map, hq]; rfl
  exact ⟨_, this, by show Value.ref q.2.1 = _; rw [e2]⟩
end

/-! ### the rules -/
def tNNew : TE := fun _ H Q => ∀ p, H p = none → Q (.ref p) (upd H p (DN p 0 []))
/-- {k: v} -/
def tNDisp (K : PySem.W.Frag) (tk tv : TE) : TE := fun σ H Q => ∀ p, H p = none → tk σ (upd H p (DN p 0 [])) fun x H1 => tv σ H1 fun y H2 => ∃ b d, x = .ref b ∧ KeyOk d ∧ Rp K H2 (.ref b) d ∧ H2 p = some (DN p 0 []) ∧ ∀ ep, Q (.ref p) (upd H2 p (DN p ep [(d, b, y)]))
/-- the dict at a holds kvs; y is the key k -/
structure NAt (K : PySem.W.Frag) (H : Hp) (x y : V) (a b : Addr) (ep : Nat) (raw : RawN) (kvs : List (D × D)) (k : D) : Prop where
  x : x = .ref a
  at_ : H a = some (DN a ep raw)
  kv : KvN K H kvs raw
  y : y = .ref b
  ok : KeyOk k
  key : Rp K H (.ref b) k
def IsN (H : Hp) (x : V) : Prop := ∃ a ep raw, x = .ref a ∧ H a = some (DN a ep raw)
def tNGet (K : PySem.W.Frag) (td ty : TE) : TE := fun σ H Q => td σ H fun x H1 => ty σ H1 fun y H2 => ∃ a b ep raw kvs k v, NAt K H2 x y a b ep raw kvs k ∧ (lkN raw k).map (·.2) = some v ∧ Q v H2
def tNGet1 (K : PySem.W.Frag) (td ty : TE) : TE := fun σ H Q => td σ H fun x H1 => IsN H1 x ∧ ty σ H1 fun y H2 => ∃ a b ep raw kvs k, NAt K H2 x y a b ep raw kvs k ∧ Q (((lkN raw k).map (·.2)).getD .non) H2
def tNGet2 (K : PySem.W.Frag) (td ty tx : TE) : TE := fun σ H Q => td σ H fun x H1 => IsN H1 x ∧ ty σ H1 fun y H2 => tx σ H2 fun z H3 => ∃ a b ep raw kvs k, NAt K H3 x y a b ep raw kvs k ∧ Q (((lkN raw k).map (·.2)).getD z) H3
def tNDef (K : PySem.W.Frag) (td ty tx : TE) : TE := fun σ H Q => td σ H fun x H1 => IsN H1 x ∧ ty σ H1 fun y H2 => tx σ H2 fun z H3 => ∃ a b ep raw kvs k, NAt K H3 x y a b ep raw kvs k ∧ raw.length < sizeLine ∧
  (∀ v, (lkN raw k).map (·.2) = some v → Q v H3) ∧ ((lkN raw k).map (·.2) = none → ∀ ep', Q z (upd H3 a (DN a ep' (putR raw k b z))))
def sNPut (K : PySem.W.Frag) (td ty tv : TE) : TS := fun E σ H => tv σ H fun v H1 => td σ H1 fun x H2 => ty σ H2 fun y H3 => ∃ a b ep raw kvs k, NAt K H3 x y a b ep raw kvs k ∧ raw.length < sizeLine ∧ ∀ ep', E.nx σ (upd H3 a (DN a ep' (putR raw k b v)))
section
variable {X : Cx} {o i e f value : Expr} {pos pos' apos cpos : Pos} {td ty tv tx tk : TE}
theorem nroom (hu : X.A.units + 65 < cLine) : (nestedKind X.prog X.w).room X.A.in1 := by
  show X.A.units + 1 + 8 < cLine
  omega
theorem nroom0 (hu : X.A.units + 65 < cLine) : (nestedKind X.prog X.w).room X.A := by
  show X.A.units + 8 < cLine
  omega
theorem pe_nnew : PE X (.Dict [] [] pos) tNNew := ⟨fun pins s σ H Q I h =>
  wpAny_Dict_empty ⟨.ref s.heap.objs.size, _, I.laid (a := s.heap.objs.size) (o := DN s.heap.objs.size 0 []) (t' := s.toks) (fun _ _ q => Heap.get?_push_of_some _ q) (Nat.le_refl _) (dn_new s.heap I.big), rfl, h _ (I.hok.fresh (Nat.le_refl _))⟩⟩
theorem dn_write {pins : List (Addr × Obj)} {σ : L2.St} {H : Hp} {s : Shared} {h' : Heap} {t' : Nat} {a : Addr} {ep : Nat} {raw : RawN} {ob : HO} (I : Inv X pins σ H s) (e : H a = some (DN a ep raw)) (hs : Heap.SameBut a s.heap h') (he : ∃ q, h'.get? a = some q)
    (new : ObjOk X.prog X.w (upd H a ob) h' a ob) : Inv X pins σ (upd H a ob) { s with heap := h', toks := t' } := d_write I (by rw [e]; exact True.intro) hs he new
theorem pe_ndisp1 (hu : X.A.units + 65 < cLine) (hk : PE X i tk) (hv : PE X value tv) : PE X (.Dict [some i] [value] pos) (tNDisp X.K tk tv) := by
  refine ⟨fun pins s σ H Q I q => ?_⟩
  have hn := I.hok.fresh (Nat.le_refl s.heap.objs.size)
  have I1 := I.laid (a := s.heap.objs.size) (o := DN s.heap.objs.size 0 []) (h' := s.heap.push { cls := .type "dict", data := .dict #[] }) (t' := s.toks) (fun _ _ q => Heap.get?_push_of_some _ q) (Nat.le_refl _) (dn_new s.heap I.big)
  have z0 := zip_pairTrees [some i] [value] X.env pos rfl rfl
  rw [arm_eval_Dict, z0, dictDisplay_pairs (pairTrees [some i] [value] X.env pos) (fun z => nomatch z) (by show 1 < 17; decide)]
  refine wpAny_bind (wpAny_standAt (wpAny_bind (wpAny_subDictH (knd := nestedKind X.prog X.w) (nroom0 hu) (by show 1 ≤ 15; decide) ?_)))
  refine pairTrees_cons_walk (thn (hk.run pins _ σ _ _ I1 (q _ hn)) fun u s1 ⟨x, H1, I1, rx, q1⟩ => thn (hv.run pins s1 σ H1 _ I1 q1) fun w2 s2 ⟨y, H2, I2, ry, b, d, ex, kd, kr, ed, q2⟩ => pairTrees_nil_walk ?_)
  subst ex
  obtain rfl : u = Value.ref b := rx
  have kn := key_at I2 kd kr
  obtain ⟨z, hd, xs, pr, dd⟩ := dn_at I2 ed .nil
  cases pr
  refine ⟨[(nk d, b, w2)], ⟨rfl, rfl, kn, trivial⟩, dd, fun h' tk' dd' hs => ?_⟩
  have pr : PR [(d, b, y)] (storedAllH [] [(nk d, b, w2)]) := .cons ⟨rfl, rfl, ry⟩ .nil
  obtain ⟨ep, new⟩ := dn_mk (show [(d, b, y)].length ≤ sizeLine by show 1 ≤ sizeLine; exact sz (by decide)) hd pr (fun r hr => by rw [List.mem_singleton.mp hr]; exact kd.1) dd'
  have he : ∃ q, h'.get? s.heap.objs.size = some q := let ⟨q, _, _, hq, _⟩ := dd'; ⟨q, hq⟩
  exact wpAny_pure ⟨.ref s.heap.objs.size, _, dn_write I2 ed hs he (dn_ok new), rfl, q2 ep⟩
theorem pe_nget (hu : X.A.units + 65 < cLine) (ho : PE X o td) (hi : PE X i ty) (hs : NoSl i) : PE X (.Subscript o i pos) (tNGet X.K td ty) := by
  refine ⟨fun pins s σ H Q I h => ?_⟩
  refine subD_of PySem.F.slot_dict_getitem.lookup hs (thn (ho.run pins s σ H _ I h) fun u s1 ⟨x, H1, I1, rx, q1⟩ => thn (hi.run pins s1 σ H1 _ I1 q1) fun iv s2 ⟨y, H2, I2, ry, a, b, ep, raw, kvs, k, v, N, l, q2⟩ => ?_)
  obtain ⟨rfl, ed, kv, rfl, kd, kr⟩ := N
  obtain rfl : u = Value.ref a := rx
  obtain rfl : iv = Value.ref b := ry
  obtain ⟨z, hd, xs, pr, dd⟩ := dn_at I2 ed kv
  obtain ⟨w', hw, rw'⟩ := RelO.some_of (v := v) (o := (atKey xs (nk k)).map (·.2)) (by rw [← l]; exact pr.at k)
  obtain ⟨p, hp, hp2⟩ := Option.map_eq_some_iff.mp hw
  exact ⟨dd.typeIs, wpAny_getItem_heap (nroom hu) (key_at I2 kd kr) dd hp (by rw [hp2]; exact ⟨v, H2, I2.tok _, rw', q2⟩)⟩
theorem isN_at {pins : List (Addr × Obj)} {σ : L2.St} {H : Hp} {s : Shared} {a : Addr} (I : Inv X pins σ H s) (h : IsN H (.ref a)) :
    s.TypeIs (.ref a) "dict" ∧ ∀ b, Value.ref a = .ref b → ∃ ob, s.heap.get? b = some ob ∧ ob.dict = none := by
  obtain ⟨a', ep, raw, e, ed⟩ := h
  cases e
  obtain ⟨_, o, _, ho, hc, _⟩ := dn_raw I ed
  exact ⟨⟨o, ho, hc.1⟩, fun b q => by cases q; exact ⟨o, ho, hc.2.1⟩⟩
theorem pe_nget1 (hu : X.A.units + 65 < cLine) (ho : PE X o td) (he : PE X e ty) (m : M1 X o "get" apos e cpos) : PE X (.Call (.Attribute o "get" apos) [e] [] cpos) (tNGet1 X.K td ty) := by
  refine ⟨fun pins s σ H Q I h => ?_⟩
  refine wpAny_Call_method m.base m.few m.line PySem.F.plainAttrs_dict PySem.F.slot_dict_get PySem.F.type_dict_get (thn (ho.run pins s σ H _ I h) fun u s1 ⟨x, H1, I1, rx, hN, q1⟩ => ?_)
  obtain ⟨a, ep0, raw0, rfl, _⟩ := id hN
  obtain rfl : u = Value.ref a := rx
  obtain ⟨t1, t2⟩ := isN_at I1 hN
  refine ⟨t1, t2, ?_⟩
  rw [m.trees]
  refine Calls.callWith_builtin rfl (Calls.evalArgs_plain (Calls.spliced_cons (thn (he.run pins s1 σ H1 _ I1 q1) fun iv s2 ⟨y, H2, I2, ry, a', b, ep, raw, kvs, k, N, q2⟩ => Calls.spliced_nil ?_)))
  obtain ⟨ea, ed, kv, rfl, kd, kr⟩ := N
  cases ea
  obtain rfl : iv = Value.ref b := ry
  obtain ⟨z, hd, xs, pr, dd⟩ := dn_at I2 ed kv
  exact call_meetsIn PySem.F.slot_dict_get dd.typeIs PySem.F.entry_dict_get (PySem.F.args_dict_get_2 _ _) (meetsH_dict_get (nestedKind X.prog X.w) a b hd) ⟨nroom hu, nk k, xs, key_at I2 kd kr, dd, _, H2, I2.tok _, (pr.at k).getD (d := .non) (d' := .none) rfl, q2⟩
theorem pe_nget2 (hu : X.A.units + 65 < cLine) (ho : PE X o td) (he : PE X e ty) (hf : PE X f tx) (m : M2 X o "get" apos e f cpos) : PE X (.Call (.Attribute o "get" apos) [e, f] [] cpos) (tNGet2 X.K td ty tx) := by
  refine ⟨fun pins s σ H Q I h => ?_⟩
  refine wpAny_Call_method m.base m.few m.line PySem.F.plainAttrs_dict PySem.F.slot_dict_get PySem.F.type_dict_get (thn (ho.run pins s σ H _ I h) fun u s1 ⟨x, H1, I1, rx, hN, q1⟩ => ?_)
  obtain ⟨a, ep0, raw0, rfl, _⟩ := id hN
  obtain rfl : u = Value.ref a := rx
  obtain ⟨t1, t2⟩ := isN_at I1 hN
  refine ⟨t1, t2, ?_⟩
  rw [m.trees]
  refine Calls.callWith_builtin rfl (Calls.evalArgs_plain (Calls.spliced_cons (thn (he.run pins s1 σ H1 _ I1 q1) fun iv s2 ⟨y, H2, I2, ry, q2⟩ =>
    Calls.spliced_cons (thn (hf.run pins s2 σ H2 _ I2 q2) fun fv s3 ⟨z0, H3, I3, rz, a', b, ep, raw, kvs, k, N, q3⟩ => Calls.spliced_nil ?_))))
  obtain ⟨ea, ed, kv, rfl, kd, kr⟩ := N
  cases ea
  obtain rfl : iv = Value.ref b := ry
  obtain ⟨z, hd, xs, pr, dd⟩ := dn_at I3 ed kv
  exact call_meetsIn PySem.F.slot_dict_get dd.typeIs PySem.F.entry_dict_get (PySem.F.args_dict_get_3 _ _ _) (meetsH_dict_get_default (nestedKind X.prog X.w) a b hd fv) ⟨nroom hu, nk k, xs, key_at I3 kd kr, dd, _, H3, I3.tok _, (pr.at k).getD rz, q3⟩
theorem pe_ndef (hu : X.A.units + 65 < cLine) (ho : PE X o td) (he : PE X e ty) (hf : PE X f tx) (m : M2 X o "setdefault" apos e f cpos) : PE X (.Call (.Attribute o "setdefault" apos) [e, f] [] cpos) (tNDef X.K td ty tx) := by
  refine ⟨fun pins s σ H Q I h => ?_⟩
  refine wpAny_Call_method m.base m.few m.line PySem.F.plainAttrs_dict PySem.F.slot_dict_setdefault PySem.F.type_dict_setdefault (thn (ho.run pins s σ H _ I h) fun u s1 ⟨x, H1, I1, rx, hN, q1⟩ => ?_)
  obtain ⟨a, ep0, raw0, rfl, _⟩ := id hN
  obtain rfl : u = Value.ref a := rx
  obtain ⟨t1, t2⟩ := isN_at I1 hN
  refine ⟨t1, t2, ?_⟩
  rw [m.trees]
  refine Calls.callWith_builtin rfl (Calls.evalArgs_plain (Calls.spliced_cons (thn (he.run pins s1 σ H1 _ I1 q1) fun iv s2 ⟨y, H2, I2, ry, q2⟩ =>
    Calls.spliced_cons (thn (hf.run pins s2 σ H2 _ I2 q2) fun fv s3 ⟨z0, H3, I3, rz, a', b, ep, raw, kvs, k, N, hl, q3, q4⟩ => Calls.spliced_nil ?_))))
  obtain ⟨ea, ed, kv, rfl, kd, kr⟩ := N
  cases ea
  obtain rfl : iv = Value.ref b := ry
  obtain ⟨z, hd, xs, pr, dd⟩ := dn_at I3 ed kv
  have hx : xs.length ≤ sizeLine := by rw [← Paired.length pr]; exact z
  refine call_setdefault_heap (hsz := hx) (nroom hu) (key_at I3 kd kr) hd dd (fun p hp => ?_) fun hn h' dd' hs => ?_
  · have rl := pr.at k
    rw [hp] at rl
    cases l : (lkN raw k).map (·.2) with
    | none => rw [l] at rl; exact rl.elim
    | some v => rw [l] at rl; exact ⟨v, H3, I3.tok _, rl, q3 v l⟩
  · have rl := pr.at k
    rw [hn] at rl
    have l : (lkN raw k).map (·.2) = none := by
      cases l : (lkN raw k).map (·.2) with
      | none => rfl
      | some v => rw [l] at rl; exact rl.elim
    have := putR_len raw k b z0
    obtain ⟨ep', new⟩ := dn_mk (show (putR raw k b z0).length ≤ sizeLine by omega) hd (pr.put k b rz) (putR_key kd.1 fun r hr => (kv.keys r hr).1) dd'
    have he : ∃ q, h'.get? a = some q := let ⟨q, _, _, hq, _⟩ := dd'; ⟨q, hq⟩
    exact ⟨z0, _, dn_write I3 ed hs he (dn_ok new), rz, q4 l ep'⟩
theorem ps_nput (hu : X.A.units + 65 < cLine) (ho : PE X o td) (hi : PE X i ty) (hv : PE X value tv) (hs : swapsWith value (some (.Subscript o i pos')) pos.line X.env = pure false) :
    PS X (.Assign [.Subscript o i pos'] value pos) (sNPut X.K td ty tv) := by
  refine ⟨fun pins s σ H D I h => ?_⟩
  refine wpAny_Assign_Subscript (thn (hv.run pins s σ H _ I h) fun r s1 ⟨v, H1, I1, rv, q1⟩ => thn (ho.run pins s1 σ H1 _ I1 q1) fun u s2 ⟨x, H2, I2, rx, q2⟩ => thn (hi.run pins s2 σ H2 _ I2 q2) fun iv s3 ⟨y, H3, I3, ry, a, b, ep, raw, kvs, k, N, hl, q3⟩ => ?_) hs
  obtain ⟨rfl, ed, kv, rfl, kd, kr⟩ := N
  obtain rfl : u = Value.ref a := rx
  obtain rfl : iv = Value.ref b := ry
  obtain ⟨z, hd, xs, pr, dd⟩ := dn_at I3 ed kv
  have hx : xs.length ≤ sizeLine := by rw [← Paired.length pr]; exact z
  refine wpAny_setItem_heap (hsz := hx) (nroom hu) (key_at I3 kd kr) dd fun h' dd' hs => ?_
  have := putR_len raw k b v
  obtain ⟨ep', new⟩ := dn_mk (show (putR raw k b v).length ≤ sizeLine by omega) hd (pr.put k b rv) (putR_key kd.1 fun r hr => (kv.keys r hr).1) dd'
  have he : ∃ q, h'.get? a = some q := let ⟨q, _, _, hq, _⟩ := dd'; ⟨q, hq⟩
  exact ⟨σ, _, dn_write I3 ed hs he (dn_ok new), q3 ep'⟩
end

/-! ### for k in d -/
def Itn (a : Addr) (ep : Nat) (raw : RawN) : It :=
  ⟨fun i H => H a = some (DN a ep raw) ∧ i < raw.length, fun i H x H' => H' = H ∧ ∃ r, raw[i]? = some r ∧ x = .ref r.2.1, fun i H => H a = some (DN a ep raw) ∧ raw.length ≤ i⟩
theorem turn_nkeys {P : Program} {w : World} {K : PySem.W.Frag} {tg : Expr} {a : Addr} {ep : Nat} {raw : RawN} (it : Addr) : Turn P w K tg (Itn a ep raw) [it] it (fun i h => h.IsKeyIter it a i raw.length ep) where
  mem := by simp
  obj := fun i h st b hb => by
    obtain rfl := List.mem_singleton.mp hb
    obtain ⟨oi, e, c, dd⟩ := st
    exact ⟨oi, e, fun v z => by rw [dd] at z; cases z⟩
  keep := fun i h h' st k => st.at fun oi e => k it (by simp) oi e
  item := by
    intro X hP hw hK hc i pins s σ H E I hf st hg
    subst hP hw hK
    obtain ⟨ed, hi⟩ := hg
    obtain ⟨f0, f1, f2, f3, f4, f5⟩ := hf it (by simp)
    obtain ⟨hs, o, es, hgd, hx, hdt, hsz, ent⟩ := dn_raw I ed
    obtain ⟨en, hen, hkey⟩ := ent i _ (List.getElem?_eq_getElem hi)
    refine next_key_item st hgd hdt hsz hen fun h' st' sb => ?_
    have I1 : Inv X pins σ H { s with heap := h' } := I.turned (t' := s.toks) (fun b ob hb e => (sb.2 b hb).trans e) f0 f1 f3 f4 f5
    obtain ⟨oi, e, c, dd⟩ := id st'
    exact ⟨en.key, rfl, go_of (s := { s with heap := h' }) e c dd (by decide) ⟨.ref raw[i].2.1, H, I1, hkey, ⟨rfl, raw[i], List.getElem?_eq_getElem hi, rfl⟩, st', fun b hb => (hf b hb).1⟩⟩
  done := by
    intro X hP hw hK hc i pins s σ H E I hf st hg
    subst hP hw hK
    obtain ⟨ed, hi⟩ := hg
    obtain ⟨f0, f1, f2, f3, f4, f5⟩ := hf it (by simp)
    obtain ⟨hs, o, es, hgd, hx, hdt, hsz, ent⟩ := dn_raw I ed
    exact next_key_end (I.ok.hd hc) st hgd hdt hsz hi fun h' eb => ⟨rfl, I.turned (t' := s.toks) (fun b ob hb e => eb b ob hb e) f0 f1 f3 f4 f5⟩
  self := fun A i s Q E st h => by
    refine wpAny_pyIter_slot st.typeIs PySem.F.slot_dict_keyiterator_iter (wpAny_call_entry PySem.F.slot_dict_keyiterator_iter st.typeIs PySem.F.entry_dict_keyiterator_iter ?_ (PySem.F.args_dict_keyiterator_iter_1 _))
    show wpAny _ _ (ret (.ref it)) _ _ s
    exact wpAny_pure ⟨_, rfl, "dict_keyiterator", _, st.typeIs, PySem.F.slot_dict_keyiterator_next.lookup, h⟩
def iNKeys (td : TE) : TI := fun σ H R => td σ H fun x H1 => ∃ a ep raw, x = .ref a ∧ H1 a = some (DN a ep raw) ∧ R (Itn a ep raw) H1
theorem pi_nkeys {X : Cx} {tg e : Expr} {td : TE} (he : PE X e td) : PI X tg e (iNKeys td) := by
  refine ⟨fun pins s σ H R I h => ?_⟩
  refine thn (he.run pins s σ H _ I h) fun u s1 ⟨x, H1, I1, rx, a, ep, raw, ex, ed, q⟩ => ?_
  subst ex
  obtain rfl : u = Value.ref a := rx
  obtain ⟨hs, o, es, hgd, hx, hdt, hsz, ent⟩ := dn_raw I1 ed
  refine iter_keys hs hgd hx hdt (pi_one (tk := s1.toks) I1 _ (turn_nkeys _) ⟨_, Heap.get?_push_size _ rfl, rfl, ?_⟩ q)
  rw [hsz] <;> rfl
end DL
set_option Elab.async false
set_option linter.all false
set_option maxRecDepth 100000
set_option maxHeartbeats 4000000
/-! FB: sorted of a dict whose keys are nested tuples. -/
namespace DL
open PySem PySem.Spec PyProof.Rows L2 SrtO PySem.W

mutual
theorem key_lay : ∀ d : D, keyD d = true → d.canLay0 = true
  | .int _, _ => rfl
  | .tuple ds, h => keys_lay ds h
  | .none, h => nomatch h
  | .bool _, h => nomatch h
  | .str _, h => nomatch h
  | .list _, h => nomatch h
  | .dict _, h => nomatch h
theorem keys_lay : ∀ ds : List D, keyDs ds = true → PyData.canLayAll0 ds = true
  | [], _ => rfl
  | d :: ds, h => by
    obtain ⟨h1, h2⟩ := keyDs_cons h
    show (PyData.canLay0 d && PyData.canLayAll0 ds) = true
    rw [key_lay d h1, keys_lay ds h2]; rfl
end
mutual
theorem reads_keep {h h' : Heap} (k : ∀ b o, h.get? b = some o → o.cls = .type "tuple" → h'.get? b = some o) : ∀ (d : D) (v : Value) (as : List Addr), keyD d = true → Reads h v d as → Reads h' v d as
  | .int _, _, _, _, r => by cases r; exact .int _ _
  | .tuple ds, _, _, hk, r => by
    cases r with
    | tuple h1 h2 h3 h4 => exact .tuple (k _ _ h1 h2) h2 h3 (readsAll_keep k ds _ _ hk h4)
  | .none, _, _, h, _ => nomatch h
  | .bool _, _, _, h, _ => nomatch h
  | .str _, _, _, h, _ => nomatch h
  | .list _, _, _, h, _ => nomatch h
  | .dict _, _, _, h, _ => nomatch h
theorem readsAll_keep {h h' : Heap} (k : ∀ b o, h.get? b = some o → o.cls = .type "tuple" → h'.get? b = some o) : ∀ (ds : List D) (vs : List Value) (as : List Addr), keyDs ds = true → ReadsAll h vs ds as → ReadsAll h' vs ds as
  | [], _, _, _, r => by cases r; exact .nil
  | d :: ds, _, _, hk, r => by
    obtain ⟨h1, h2⟩ := keyDs_cons hk
    cases r with
    | cons r1 r2 => exact .cons (reads_keep k d _ _ h1 r1) (readsAll_keep k ds _ _ h2 r2)
end
section
variable {prog : Program} {w : World} {A : Around} {E : Value → Shared → Prop} {s : Shared}
theorem katD {Q : Bool → Shared → Prop} : ∀ (xs ys : List D) (vs ws : List Value) (as bs : List Addr) (i : Nat) (fin : Bool), ReadsAll s.heap vs xs as → ReadsAll s.heap ws ys bs → alikeAll xs ys = true → A.units + PyData.depthAll xs < cLine →
    fin = decide (vs.length < ws.length) → Q (PyProof.Rows.lexLt itemOrd (keyToksAll xs) (keyToksAll ys)) s → KatLex prog w A false fin Q (vs.zip ws) i s
  | [], [], _, _, _, _, i, fin, ra, rb, _, _, hf, q => by
    cases ra; cases rb
    subst hf
    exact kat_nil q
  | [], y :: ys, _, _, _, _, i, fin, ra, rb, _, _, hf, q => by
    cases ra
    cases rb with
    | cons r rr =>
      have e : fin = true := by rw [hf]; exact decide_eq_true (Nat.succ_pos _)
      subst e
      exact kat_nil q
  | x :: xs, [], _, _, _, _, i, fin, ra, rb, _, _, hf, q => by
    cases rb
    cases ra with
    | cons r rr =>
      have e : fin = false := by rw [hf]; exact decide_eq_false (Nat.not_lt_zero _)
      subst e
      exact kat_nil q
  | x :: xs, y :: ys, _, _, _, _, i, fin, ra, rb, al, hu, hf, q => by
    obtain ⟨a1, a2⟩ := alike_all_cons al
    have hd : PyData.depthAll (x :: xs) = max x.depth (PyData.depthAll xs) := rfl
    cases ra with
    | @cons v vs _ _ as1 as2 r rr =>
      cases rb with
      | @cons u us _ _ bs1 bs2 t tt =>
        have hf' : fin = decide (vs.length < us.length) := by
          rw [hf]; simp only [List.length_cons, Nat.add_lt_add_iff_right]
        refine kat_cons (eqAt_alike x y A s v u as1 bs1 r t a1 (by omega) prog w _ _ ?_)
        refine kat_go (fun e => kat_yes ?_) (fun e => kat_no ?_)
        · rw [dataLt_all_yes a1 e] at q
          exact katD xs ys vs us as2 bs2 (i + 1) fin rr tt a2 (by omega) hf' q
        · rw [dataLt_all_no a1 e] at q
          exact kat_one v u (rcLt_alike x y A s v u as1 bs1 r t a1 (ne_none_of a1 e) (by omega) prog w _ _ q)
theorem cmpD {x y : Value} {dx dy : List D} {as bs : List Addr} {Q : Bool → Shared → Prop} (rx : Reads s.heap x (.tuple dx) as) (ry : Reads s.heap y (.tuple dy) bs) (al : alikeAll dx dy = true) (hu : A.units + PyData.depthAll dx < cLine)
    (q : Q (dataLt (.tuple dx) (.tuple dy)) s) : wpAny (model prog w) A (keyLt' (tuples' false) x y) Q E s := by
  cases rx with
  | @tuple a o vs n _ _ h1 h2 h3 h4 =>
    cases ry with
    | @tuple b o' us m _ _ k1 k2 k3 k4 =>
      rw [dataLt_tuple] at q
      exact kat_lt h1 h3 k1 k3 (katD dx dy vs.toList us.toList _ _ 0 _ h4 k4 al hu (by rw [Array.length_toList, Array.length_toList]) q)
/-- a tuple whose first item is a tuple -/
def Tup2 (d : D) : Prop := ∃ xs ys, d = .tuple (.tuple xs :: ys)
theorem firstsD {h : Heap} {dv : Value → D} : ∀ vs : List Value, (∀ v ∈ vs, (∃ as, Reads h v (dv v) as) ∧ Tup2 (dv v)) → ∃ fs, KatTups h vs fs ∧ fs.length = vs.length ∧ ∀ f ∈ fs, ∃ b o, f = Value.ref b ∧ h.get? b = some o ∧ o.cls = .type "tuple"
  | [], _ => ⟨[], .nil, rfl, fun _ z => nomatch z⟩
  | v :: vs, hh => by
    obtain ⟨fs, h1, h2, h3⟩ := firstsD vs fun u hu => hh u (List.mem_cons_of_mem _ hu)
    obtain ⟨⟨as, r⟩, xs, ys, e⟩ := hh v List.mem_cons_self
    rw [e] at r
    cases r with
    | @tuple a o us n _ _ g1 g2 g3 g4 =>
      have hz : ∀ (l : List Value) (as : List Addr), ReadsAll h l (.tuple xs :: ys) as → ∃ b ob l', l = .ref b :: l' ∧ h.get? b = some ob ∧ ob.cls = .type "tuple" := fun l as q => by
        cases q with
        | cons q1 q2 =>
          cases q1 with
          | tuple j1 j2 _ _ => exact ⟨_, _, _, rfl, j1, j2⟩
      obtain ⟨b, ob, l', el, j1, j2⟩ := hz _ _ g4
      refine ⟨.ref b :: fs, .cons g1 g2 g3 ?_ h1, by rw [List.length_cons, List.length_cons, h2], fun f hf => ?_⟩
      · rw [← Array.getElem?_toList, el]; rfl
      · rcases List.mem_cons.mp hf with e | hf
        · exact ⟨b, ob, e, j1, j2⟩
        · exact h3 f hf
theorem tup_sortable {a : Addr} {vs : List Value} {dv : Value → D} (h0 : 0 < vs.length) (hr : ∀ v ∈ vs, keyD (dv v) = true ∧ (∃ as, Reads s.heap v (dv v) as) ∧ (dv v).depth ≤ 16 ∧ Tup2 (dv v))
    (al : ∀ u ∈ vs, ∀ v ∈ vs, alike (dv u) (dv v) = true) (ha : ∀ o, s.heap.get? a = some o → o.cls ≠ .type "tuple") (hu : A.units + 16 < cLine) : SortableO prog w A s a vs fun v u => dataLt (dv v) (dv u) := by
  intro h' keep
  have hk : ∀ b o, s.heap.get? b = some o → o.cls = .type "tuple" → h'.get? b = some o := fun b o e c => keep b o (fun z => by subst z; exact ha o e c) e
  have hr' : ∀ v ∈ vs, ∃ as, Reads h' v (dv v) as := fun v hv => by
    obtain ⟨k1, ⟨as, r⟩, _⟩ := hr v hv
    exact ⟨as, reads_keep hk _ v as k1 r⟩
  obtain ⟨fs, f1, f2, f3⟩ := firstsD (h := h') (dv := dv) vs fun v hv => ⟨hr' v hv, (hr v hv).2.2.2⟩
  refine ⟨tuples' false, fun Q E hq => ?_, fun p q hp hq => ?_⟩
  · refine kat_kind (T := .type "tuple") f1 (by omega) (fun f hm => ?_) (by rfl) ?_
    · obtain ⟨b, o, rfl, ho, hc⟩ := f3 f hm
      have := (show Looks (model prog w) h' (typeOf (.ref b)) o.cls from (Looks.ld ho).andThen .now)
      rw [hc] at this
      exact this
    · have e : (Value.type "tuple" != Value.type "tuple") = false := by rfl
      rw [e]; exact hq
  · obtain ⟨as, r1⟩ := hr' p.1 hp
    obtain ⟨bs, r2⟩ := hr' q.1 hq
    obtain ⟨_, _, d1, xs, ys, e1⟩ := hr p.1 hp
    obtain ⟨_, _, d2, xs', ys', e2⟩ := hr q.1 hq
    have al1 := al p.1 hp q.1 hq
    show wpAny (model prog w) A (keyLt' (tuples' false) p.1 q.1) (fun r s' => s' = { s with heap := h' } ∧ r = dataLt (dv p.1) (dv q.1)) (fun _ _ => False) { s with heap := h' }
    rw [e1] at r1 d1 al1 ⊢
    rw [e2] at r2 al1 ⊢
    have d1' : PyData.depthAll (.tuple xs :: ys) + 1 ≤ 16 := d1
    exact cmpD (s := { s with heap := h' }) r1 r2 al1 (by omega) ⟨rfl, rfl⟩
theorem swoD (dv : Value → D) : Swo fun v u => dataLt (dv v) (dv u) := by
  refine ⟨fun x y h => ?_, fun x y z h1 h2 => ?_⟩
  · cases e : dataLt (dv y) (dv x) with
    | false => rfl
    | true =>
      have := lex_trans (O := itemOrd) _ _ _ h e
      rw [lex_irrefl] at this
      cases this
  · cases e : dataLt (dv z) (dv x) with
    | false => rfl
    | true =>
      rcases lex_negTrans (O := itemOrd) (keyToks (dv z)) (keyToks (dv y)) (keyToks (dv x)) e with q | q
      · have : dataLt (dv z) (dv y) = true := q
        rw [h2] at this; cases this
      · have : dataLt (dv y) (dv x) = true := q
        rw [h1] at this; cases this
end
/-- sorted(d) -/
def rSortN (K : PySem.W.Frag) : List V → Hp → VK → Prop := fun xs H Q => ∃ (a : Addr) (ep : Nat) (raw : RawN) (kvs : List (D × D)), ∃ G : Hp, Same G H ∧ xs = [V.ref a] ∧ H a = some (DN a ep raw) ∧ KvN K G kvs raw ∧ (∀ p ∈ kvs, p.1.depth ≤ 16 ∧ Tup2 p.1) ∧ (∀ p ∈ kvs, ∀ q ∈ kvs, alike p.1 q.1 = true) ∧
  ∀ (ys : List D) (vs : List V) (p : Addr), ys.Perm (kvs.map (·.1)) → ys.Pairwise (fun a b => dataLt b a = false) → RpAll K G vs ys → H p = none → Q (.ref p) (upd H p (.lst vs))
def vOf : Value → V
  | .ref b => .ref b
  | _ => .non
section
variable {X : Cx}
theorem kvn_mem {K : PySem.W.Frag} {H : Hp} {kvs : List (D × D)} {raw : RawN} (h : KvN K H kvs raw) : ∀ r ∈ raw, ∃ p ∈ kvs, r.1 = p.1 ∧ KeyOk p.1 ∧ Rp K H (.ref r.2.1) p.1 := by
  induction h with
  | nil => exact fun _ z => nomatch z
  | @cons p q ps qs r t ih =>
    intro x hx
    rcases List.mem_cons.mp hx with e | hx
    · rw [e]; exact ⟨p, List.mem_cons_self, r.1, r.2.1, r.2.2.1⟩
    · obtain ⟨p', h1, h2⟩ := ih x hx
      exact ⟨p', List.mem_cons_of_mem _ h1, h2⟩
theorem kvn_keys {K : PySem.W.Frag} {H : Hp} {kvs : List (D × D)} {raw : RawN} (h : KvN K H kvs raw) : raw.map (·.1) = kvs.map (·.1) := by
  induction h with
  | nil => rfl
  | @cons p q ps qs r t ih => rw [List.map_cons, List.map_cons, ih, r.1]
theorem cr_sortN (hc : X.calm = true) (hu : X.A.units + 65 < cLine) : CallR X (.builtin "sorted") (rSortN X.K) := by
  intro pins s σ H vs us Q I r h
  obtain ⟨a, ep, raw, kvs, G, sG, rfl, ed, kvG, hd1, hd2, q⟩ := h
  have kv := kvG.mono sG
  obtain ⟨u, rfl, ru⟩ := vals1 r
  cases ru
  obtain ⟨lo, o, es, hgd, hx, hdt, hsz, ent⟩ := dn_raw I ed
  obtain ⟨z, _, _⟩ := dn_at I ed kv
  have h16 : es.size ≤ sizeLine := by rw [hsz]; exact z
  refine Calls.call_function_entry kind_sorted plain_sorted entry_sorted (args_sorted1 _) ?_
  unfold Builtin.«sorted»
  refine wpAny_bind (m := checkCount "sorted" 1 1 _) (wpAny_pure ?_)
  refine wpAny_bind (kdu_collect (A := X.A.in1) (KdlSrc.rawDict (prog := X.prog) (w := X.w) (es := es) (ep := ep) lo) (I.ok.hd hc) ⟨o, hgd, hx, hdt⟩ h16 fun h' tk acc hk hacc => ?_)
  have I1 : Inv X pins σ H { s with heap := h', toks := tk } := I.kept hk
  have eacc : acc.toList = raw.map fun r => Value.ref r.2.1 := by
    refine List.ext_getElem? fun j => ?_
    rw [List.getElem?_map]
    cases er : raw[j]? with
    | none =>
      have : raw.length ≤ j := List.getElem?_eq_none_iff.mp er
      have hl : acc.toList.length ≤ j := by rw [Array.length_toList, hacc.1]; omega
      rw [List.getElem?_eq_none hl]; rfl
    | some r =>
      obtain ⟨en, e1, e2⟩ := ent j r er
      have hj : j < acc.toList.length := by rw [Array.length_toList, hacc.1]; exact (Array.getElem?_eq_some_iff.mp e1).1
      obtain ⟨hi, ev⟩ := hacc.2 j acc.toList[j] (by rw [← Array.getElem?_toList]; exact List.getElem?_eq_getElem hj)
      rw [List.getElem?_eq_getElem hj, ev]
      rw [Array.getElem?_eq_getElem hi] at e1
      rw [Option.some.inj e1, e2]; rfl
  have hl : acc.toList.length ≤ sizeLine := by rw [Array.length_toList, hacc.1]; exact h16
  refine wpAny_bind (wpAny_newList ?_ hl)
  have hoL : (h'.push (seqObj "list" acc.toList.toArray 0)).get? h'.objs.size = some (seqObj "list" acc.toList.toArray 0) := Heap.get?_push_size _ rfl
  show wpAny _ _ _ _ _ { s with heap := h'.push (seqObj "list" acc.toList.toArray 0), toks := tk }
  have facts : ∀ v ∈ acc.toList, ∃ r ∈ raw, ∃ p ∈ kvs, v = .ref r.2.1 ∧ SeqAt.readOf h' v = r.1 ∧ r.1 = p.1 ∧ KeyOk p.1 ∧ Rp X.K H (.ref r.2.1) p.1 ∧ ∃ as, Reads h' v p.1 as := fun v hv => by
    rw [eacc] at hv
    obtain ⟨r, hr, rfl⟩ := List.mem_map.mp hv
    obtain ⟨p, hp, e1, kd, rp⟩ := kvn_mem kv r hr
    obtain ⟨as, rd⟩ := Dp.reads I1 p.1 (.ref r.2.1) (.ref r.2.1) (rp_dp _ _ rp) rfl
    exact ⟨r, hr, p, hp, rfl, by rw [e1]; exact SeqAt.readOf_eq (key_lay _ kd.1) rd, e1, kd, rp, as, rd⟩
  have hk2 : ∀ b ob, h'.get? b = some ob → (h'.push (seqObj "list" acc.toList.toArray 0)).get? b = some ob := fun b ob e => Heap.get?_push_of_some _ e
  have sb : 2 ≤ acc.toList.length → SortableO X.prog X.w X.A.in1.in1 { s with heap := h'.push (seqObj "list" acc.toList.toArray 0), toks := tk } h'.objs.size acc.toList (fun v u => dataLt (SeqAt.readOf h' v) (SeqAt.readOf h' u)) := fun h2 => by
    refine tup_sortable (by omega) (fun v hv => ?_) (fun v hv u hu' => ?_) (fun ob e => ?_) (by show X.A.units + 1 + 1 + 16 < cLine; omega)
    · obtain ⟨r, hr, p, hp, e0, e1, e2, kd, rp, as, rd⟩ := facts v hv
      rw [e1, e2]
      exact ⟨kd.1, ⟨as, reads_keep (fun b ob e _ => hk2 b ob e) _ _ _ kd.1 rd⟩, (hd1 p hp).1, (hd1 p hp).2⟩
    · obtain ⟨r, hr, p, hp, e0, e1, e2, kd, rp, as, rd⟩ := facts v hv
      obtain ⟨r', hr', p', hp', e0', e1', e2', _⟩ := facts u hu'
      rw [e1, e2, e1', e2']
      exact hd2 p hp p' hp'
    · rw [hoL] at e; cases e
      intro z
      injection (show Value.type "list" = Value.type "tuple" from z) with z
      exact absurd z (by decide)
  refine wpAny_bind (wpAny_holding (wpAny_call_entry slot_list_sort ⟨_, hoL, rfl⟩ entry_list_sort (list_sort_ord (s := { s with heap := h'.push (seqObj "list" acc.toList.toArray 0), toks := tk }) (swoD (SeqAt.readOf h')) hoL hl sb fun out h1 h2 => ⟨_, rfl, ?_⟩) (args_list_sort _)))
  obtain ⟨e', he'⟩ := PyProof.Rows.sortedHeap_at (vs := acc.toList) (out := out.toArray) hoL
  have hm : ∀ v ∈ out, v ∈ acc.toList := fun v hv => h2.perm.mem_iff.mp hv
  have hrp : ∀ l : List Value, (∀ v ∈ l, v ∈ acc.toList) → RpAll X.K G (l.map vOf) (l.map (SeqAt.readOf h')) ∧ Vals (l.map vOf) l := fun l => by
    induction l with
    | nil => exact fun _ => ⟨.nil, .nil⟩
    | cons v l ih =>
      intro hl
      obtain ⟨i1, i2⟩ := ih fun u hu' => hl u (List.mem_cons_of_mem _ hu')
      obtain ⟨r, hr, p, hp, e0, e1, e2, kd, rp, _⟩ := facts v (hl v List.mem_cons_self)
      refine ⟨.cons ?_ i1, .cons ?_ i2⟩
      · obtain ⟨p', _, e3, _, rp'⟩ := kvn_mem kvG r hr
        rw [e1, e0, e3]; exact rp'
      · rw [e0]; rfl
  obtain ⟨r1, r2⟩ := hrp out hm
  have hlen : (out.map vOf).length ≤ sizeLine := by
    rw [List.length_map, h2.perm.length_eq]; exact hl
  refine wpAny_pure ⟨_, rfl, .ref h'.objs.size, upd H h'.objs.size (.lst (out.map vOf)), I1.laid (t' := tk) (fun b u e => ?_) (Nat.le_refl _)
    (show ObjOk X.prog X.w _ _ _ (.lst (out.map vOf)) from ⟨hlen, out, e', r2, he'⟩), rfl, q (out.map (SeqAt.readOf h')) _ _ ?_ ?_ r1 (I1.hok.fresh (Nat.le_refl _))⟩
  · have hb : b < h'.objs.size := Heap.lt_size e
    rw [PyProof.Rows.sortedHeap_old (Nat.ne_of_lt hb) (by rw [size_push']; exact Nat.lt_succ_of_lt hb)]
    exact Heap.get?_push_of_some _ e
  · have p1 := h2.perm.map (SeqAt.readOf h')
    have e2 : acc.toList.map (SeqAt.readOf h') = kvs.map (·.1) := by
      rw [← kvn_keys kv, eacc, List.map_map]
      refine List.map_congr_left fun r hr => ?_
      obtain ⟨p, hp, e1, kd, rp⟩ := kvn_mem kv r hr
      obtain ⟨as, rd⟩ := Dp.reads I1 p.1 (.ref r.2.1) (.ref r.2.1) (rp_dp _ _ rp) rfl
      show SeqAt.readOf h' (.ref r.2.1) = r.1
      rw [e1]; exact SeqAt.readOf_eq (key_lay _ kd.1) rd
    rwa [e2] at p1
  · exact List.pairwise_map.mpr h1
end
/-! ### dict(pairs) -/
/-- the pairs stored, one behind the other -/
def mergeR : RawN → List (D × Addr × V) → RawN
  | acc, [] => acc
  | acc, r :: rs => mergeR (putR acc r.1 r.2.1 r.2.2) rs
def rDictN (K : PySem.W.Frag) : List V → Hp → VK → Prop := fun xs H Q => ∃ (a : Addr) (ps : List Addr) (rs : RawN) (kvs : List (D × D)), xs = [V.ref a] ∧ SqL K H a (ps.map V.ref) ∧ KvN K H kvs rs ∧ Paired (fun p r => SqT K H p [V.ref r.2.1, r.2.2]) ps rs ∧
  ∀ ep p, H p = none → Q (.ref p) (upd H p (DN p ep (mergeR [] rs)))
section
variable {X : Cx} {pins : List (Addr × Obj)} {σ : L2.St} {H : Hp} {s : Shared}
theorem pairsN (I : Inv X pins σ H s) : ∀ {ps : List Addr} {rs : RawN}, Paired (fun p r => SqT X.K H p [V.ref r.2.1, r.2.2]) ps rs →
    ∃ xs : List (NestedKey × Addr × Value), PR rs xs ∧ xs.length = ps.length ∧ ∀ (j : Nat) (x : NestedKey × Addr × Value), xs[j]? = some x → ∃ p, ps[j]? = some p ∧ IsTup s.heap p #[Value.ref x.2.1, x.2.2]
  | _, _, .nil => ⟨[], .nil, rfl, fun j x e => by simp at e⟩
  | _, _, .cons (a := p) (b := r) h t => by
    obtain ⟨xs, h1, h2, h3⟩ := pairsN I t
    obtain ⟨its, rv, ht, _⟩ := I.tuple h
    obtain ⟨u, y, ei, ru, ry⟩ := vals2 rv
    subst ei
    cases (show u = Value.ref r.2.1 from ru)
    refine ⟨(nk r.1, r.2.1, y) :: xs, .cons ⟨rfl, rfl, ry⟩ h1, by rw [List.length_cons, List.length_cons, h2], fun j x e => ?_⟩
    cases j with
    | zero =>
      have e' : (nk r.1, r.2.1, y) = x := Option.some.inj e
      subst e'
      exact ⟨p, rfl, ht⟩
    | succ j =>
      obtain ⟨q, e1, e2⟩ := h3 j x (by simpa using e)
      exact ⟨q, by simpa using e1, e2⟩
theorem PR.merge : ∀ {rs : RawN} {xs : List (NestedKey × Addr × Value)} {acc : RawN} {ac : List (NestedKey × Addr × Value)}, PR rs xs → PR acc ac → PR (mergeR acc rs) (storedAllH ac xs)
  | _, _, _, _, .nil, h => h
  | _, _, _, _, .cons (a := p) (b := q) r t, h => by
    have h1 := h.put p.1 p.2.1 r.2.2
    rw [← r.1] at h1
    have e2 : q.2.1 = p.2.1 := r.2.1
    exact (PR.merge t (by rw [e2]; exact h1) : PR (mergeR (putR _ p.1 p.2.1 p.2.2) _) (storedAllH (storedH _ q.1 q.2.1 q.2.2) _))
theorem mergeR_key : ∀ {rs acc : RawN}, (∀ r ∈ rs, keyD r.1 = true) → (∀ r ∈ acc, keyD r.1 = true) → ∀ r ∈ mergeR acc rs, keyD r.1 = true
  | [], _, _, h => h
  | q :: rs, _, h1, h => mergeR_key (rs := rs) (fun r hr => h1 r (List.mem_cons_of_mem _ hr)) (putR_key (h1 q List.mem_cons_self) h)
theorem mergeR_len : ∀ (rs acc : RawN), (mergeR acc rs).length ≤ acc.length + rs.length
  | [], _ => Nat.le_refl _
  | q :: rs, acc => by
    have h1 := mergeR_len rs (putR acc q.1 q.2.1 q.2.2)
    have h2 := putR_len acc q.1 q.2.1 q.2.2
    show (mergeR (putR acc q.1 q.2.1 q.2.2) rs).length ≤ _
    rw [List.length_cons]; omega
end
theorem cr_dictN {X : Cx} (hc : X.calm = true) (hu : X.A.units + 65 < cLine) : CallR X (.type "dict") (rDictN X.K) := by
  intro pins s σ H vs us Q I r h
  obtain ⟨a, ps, rs, kvs, rfl, hq, kv, hp, q⟩ := h
  obtain ⟨u, rfl, ru⟩ := vals1 r
  cases ru
  obtain ⟨its, rv, hl, hz⟩ := I.list hq
  have ei := refs_at rv
  subst ei
  obtain ⟨xs, pr, hxl, hx⟩ := pairsN I hp
  have hlen : ps.length = rs.length := Paired.length hp
  have hz : ps.length ≤ sizeLine := by rwa [List.length_map] at hz
  have pa := PairArg.list (prog := X.prog) (w := X.w) a ((ps.map Value.ref).toArray) (fun j => ps.getD j 0) (xs.map fun x => (Value.ref x.2.1, x.2.2))
  have keys : ∀ h' : Heap, (∀ b o, b ≠ s.heap.objs.size → b ∉ ([] : List Addr) → s.heap.get? b = some o → h'.get? b = some o) → ∀ x ∈ xs, (nestedKind X.prog X.w).is h' x.1 x.2.1 := fun h' hk x hx' => by
    obtain ⟨r, hr, e1, e2⟩ := pr_mem pr x hx'
    obtain ⟨p, hp', e3, kd, rp⟩ := kvn_mem kv r hr
    rw [e1, e2, e3]
    exact nestedKind_stays.stays (fun b o _ _ e _ => hk b o (Nat.ne_of_lt (Heap.lt_size e)) (fun z => nomatch z) e) (key_at I kd rp)
  refine call_dict_pairsH (knd := nestedKind X.prog X.w) (ps := xs) pa (I.ok.hd hc) (by show X.A.units + 1 + 1 + 8 < cLine; omega) ⟨hl, ?_, fun j k v e => ?_⟩ ⟨by rw [List.length_map], fun i key v e => ?_⟩ keys (by rw [List.length_map, hxl]; exact hz) fun h' tk dd' hk => ?_
  · rw [List.size_toArray, List.length_map, List.length_map, hxl]
  · rw [List.getElem?_map] at e
    cases ex : xs[j]? with
    | none => rw [ex] at e; cases e
    | some x =>
      rw [ex] at e
      obtain ⟨p, e1, o, ho, hcl, n, hd⟩ := hx j x ex
      have e := Option.some.inj e
      have e2 : ps.getD j 0 = p := by rw [List.getD_eq_getElem?_getD, e1]; rfl
      have ek : Value.ref x.2.1 = k := congrArg Prod.fst e
      have ev : x.2.2 = v := congrArg Prod.snd e
      subst ek; subst ev
      refine ⟨?_, .inl ?_⟩
      · show (ps.map Value.ref).toArray[j]? = some (Value.ref (ps.getD j 0))
        rw [e2, List.getElem?_toArray, List.getElem?_map, e1]; rfl
      · show s.heap.IsTuple (ps.getD j 0) _
        rw [e2]; exact ⟨o, ho, hcl, n, hd⟩
  · have e : (xs.map fun x => (Value.ref x.2.1, x.2.2))[i]? = some (key, v) := e
    rw [List.getElem?_map] at e
    cases ex : xs[i]? with
    | none => rw [ex] at e; cases e
    | some x =>
      rw [ex] at e
      have e := Option.some.inj e
      have ev : x.2.2 = v := congrArg Prod.snd e
      exact ⟨x.1, x.2.1, by rw [← ev], (congrArg Prod.fst e).symm⟩
  · have I1 := I.kept (h' := s.heap) (t' := s.toks) fun b o e => e
    have lo : (s.heap.objs.size == sysModules) = false := beq_eq_false_iff_ne.mpr (Ne.symm (Nat.ne_of_lt I.big))
    have hml := mergeR_len rs []
    rw [List.length_nil, Nat.zero_add] at hml
    have hkd : ∀ r ∈ rs, keyD r.1 = true := fun r hr => by
      obtain ⟨p, _, e3, kd, _⟩ := kvn_mem kv r hr
      rw [e3]; exact kd.1
    obtain ⟨ep, new⟩ := dn_mk (show (mergeR [] rs).length ≤ sizeLine by omega) lo (PR.merge pr .nil) (mergeR_key hkd fun _ z => nomatch z) dd'
    exact ⟨.ref s.heap.objs.size, _, I.laid (t' := tk) (fun b o e => hk b o (fun z => nomatch z) e) (Nat.le_refl _) (dn_ok new), rfl, q ep _ (I.hok.fresh (Nat.le_refl _))⟩
end DL
set_option Elab.async false
set_option linter.all false
set_option maxRecDepth 100000
set_option maxHeartbeats 4000000
/-! FC: such dicts in the calculus: owned, frozen; what they are asked. -/
namespace DL
open PySem PySem.Spec PyProof.Rows L2

/-- a dict that one slot alone holds -/
def Res.dct (K : PySem.W.Frag) (kvs : List (D × D)) : Res where
  holds := fun Hb H v fp => ∃ a ep raw, v = .ref a ∧ fp = [a] ∧ H a = some (DN a ep raw) ∧ KvN K Hb kvs raw
  mono := fun ⟨a, ep, raw, e, ef, ha, kv⟩ s k => ⟨a, ep, raw, e, ef, (k a (by rw [ef]; exact List.mem_singleton.mpr rfl)).trans ha, kv.mono s⟩
/-- a dict that nobody will change -/
def Res.dctF (K : PySem.W.Frag) (kvs : List (D × D)) : Res where
  holds := fun Hb H v fp => ∃ a ep raw, v = .ref a ∧ fp = [] ∧ Hb a = some (DN a ep raw) ∧ KvN K Hb kvs raw
  mono := fun ⟨a, ep, raw, e, ef, ha, kv⟩ s k => ⟨a, ep, raw, e, ef, s _ _ ha, kv.mono s⟩
section
variable (C : Cc)
/-- a dict is told, to be looked at -/
def VD (te : TE) (ρ : List Sl) (kvs : List (D × D)) : Prop := ∀ σ Hb H fp, EnvW C σ ρ Hb H fp → ∀ Q : VK, (∀ a ep raw Hb' H', Step [] Hb H Hb' H' → H' a = some (DN a ep raw) → KvN C.K Hb' kvs raw → Q (.ref a) H') → te σ H Q
/-- .. a frozen one -/
def VDF (te : TE) (ρ : List Sl) (kvs : List (D × D)) : Prop := ∀ σ Hb H fp, EnvW C σ ρ Hb H fp → ∀ Q : VK, (∀ a ep raw Hb' H', Step [] Hb H Hb' H' → Hb' a = some (DN a ep raw) → KvN C.K Hb' kvs raw → Q (.ref a) H') → te σ H Q
end
section
variable {C : Cc} {ρ : List Sl} {te td ty tx tk tv : TE} {kvs : List (D × D)} {i : Nat} {x z : D} {ds : List D} {s : Sl} {P : Sl → List Sl → Prop}
theorem vd_of (h : VDF C te ρ kvs) : VD C te ρ kvs := fun σ Hb H fp W Q q => h σ Hb H fp W Q fun a ep raw Hb' H' t e kv => q a ep raw Hb' H' t (t.s _ _ e) kv
theorem vd_var (hi : ρ[i]? = some (.ow (.dct C.K kvs))) : VD C (tVar i) ρ kvs := fun σ Hb H fp W Q q => by
  obtain ⟨v, ev, a, ep, raw, rfl, ef, ha, kv⟩ := W.owns hi
  exact ⟨_, ev, q a ep raw Hb H (Step.refl W.same) ha kv⟩
theorem vf_var (hi : ρ[i]? = some (.ow (.dctF C.K kvs))) : VDF C (tVar i) ρ kvs := fun σ Hb H fp W Q q => by
  obtain ⟨v, ev, a, ep, raw, rfl, ef, ha, kv⟩ := W.owns hi
  exact ⟨_, ev, q a ep raw Hb H (Step.refl W.same) ha kv⟩
theorem vf_ev (h : PEv C te ρ (.ow (.dctF C.K kvs))) : VDF C te ρ kvs := fun σ Hb H fp W Q q => h σ Hb H fp W Q fun v Hb' H' fv t ⟨u, eu, a, ep, raw, e, ef, ha, kv⟩ _ => by
  cases eu; subst e
  exact q a ep raw Hb' H' t ha kv
theorem rp_ref {K : PySem.W.Frag} {H : Hp} {v : V} (h : Rp K H v (.tuple ds)) : ∃ b, v = .ref b := by
  cases h; exact ⟨_, rfl⟩
theorem ev_nget (hd : VD C td ρ kvs) (hy : PD C ty ρ (.tuple ds)) (hk : KeyOk (.tuple ds)) (hl : lkN kvs (.tuple ds) = some z) : PD C (tNGet C.K td ty) ρ z := fun σ Hb H fp W Q q =>
  hd σ Hb H fp W _ fun a ep raw Hb1 H1 t1 ha kv => hy σ Hb1 H1 fp (W.step t1) _ fun y Hb2 H2 _ t2 ⟨_, ey, ry⟩ _ => by
    cases ey
    obtain ⟨b, rfl⟩ := rp_ref ry
    rcases (kv.mono t2.b).at (.tuple ds) with ⟨e1, _⟩ | ⟨d, b', v, e1, e2, hv⟩
    · rw [hl] at e1; cases e1
    · rw [hl] at e1; cases e1
      exact ⟨a, b, ep, raw, kvs, .tuple ds, v, ⟨rfl, t2.same _ _ ha, (kv.mono t2.b).mono t2.s, rfl, hk, ry.mono t2.s⟩, by rw [e2]; rfl, (q.after (t1.trans0 t2)).flat t2.s hv⟩
theorem ev_nget1 (hd : VD C td ρ kvs) (hy : PD C ty ρ (.tuple ds)) (hk : KeyOk (.tuple ds)) (e : (lkN kvs (.tuple ds)).getD .none = z) : PD C (tNGet1 C.K td ty) ρ z := fun σ Hb H fp W Q q =>
  hd σ Hb H fp W _ fun a ep raw Hb1 H1 t1 ha kv => ⟨⟨a, ep, raw, rfl, ha⟩, hy σ Hb1 H1 fp (W.step t1) _ fun y Hb2 H2 _ t2 ⟨_, ey, ry⟩ _ => by
    cases ey
    obtain ⟨b, rfl⟩ := rp_ref ry
    refine ⟨a, b, ep, raw, kvs, .tuple ds, ⟨rfl, t2.same _ _ ha, (kv.mono t2.b).mono t2.s, rfl, hk, ry.mono t2.s⟩, ?_⟩
    rcases (kv.mono t2.b).at (.tuple ds) with ⟨e1, e2⟩ | ⟨d, b', v, e1, e2, hv⟩
    · rw [e1] at e; rw [e2]; subst e
      exact (q.after (t1.trans0 t2)).flat t2.s .non
    · rw [e1] at e; rw [e2]; subst e
      exact (q.after (t1.trans0 t2)).flat t2.s hv⟩
theorem ev_nget2 (hd : VD C td ρ kvs) (hy : PD C ty ρ (.tuple ds)) (hx : PD C tx ρ x) (hk : KeyOk (.tuple ds)) (e : (lkN kvs (.tuple ds)).getD x = z) : PD C (tNGet2 C.K td ty tx) ρ z := fun σ Hb H fp W Q q =>
  hd σ Hb H fp W _ fun a ep raw Hb1 H1 t1 ha kv => ⟨⟨a, ep, raw, rfl, ha⟩, hy σ Hb1 H1 fp (W.step t1) _ fun y Hb2 H2 _ t2 ⟨_, ey, ry⟩ _ => hx σ Hb2 H2 fp ((W.step t1).step t2) _ fun w Hb3 H3 _ t3 ⟨_, ew, rw'⟩ _ => by
    cases ey; cases ew
    obtain ⟨b, rfl⟩ := rp_ref ry
    have t23 := t2.trans0 t3
    refine ⟨a, b, ep, raw, kvs, .tuple ds, ⟨rfl, t23.same _ _ ha, (kv.mono t23.b).mono t23.s, rfl, hk, (ry.mono t3.b).mono t3.s⟩, ?_⟩
    rcases (kv.mono t23.b).at (.tuple ds) with ⟨e1, e2⟩ | ⟨d, b', v, e1, e2, hv⟩
    · rw [e1] at e; rw [e2]; subst e
      exact (q.after (t1.trans0 t23)).flat t23.s rw'
    · rw [e1] at e; rw [e2]; subst e
      exact (q.after (t1.trans0 t23)).flat t23.s hv⟩
theorem ev_nnew : PEv C tNNew ρ (.ow (.dct C.K [])) := fun σ Hb H fp W Q q p hp => by
  have hb : Hb p = none := by
    cases e : Hb p with
    | none => rfl
    | some o => rw [W.same p o e] at hp; cases hp
  exact q (.ref p) Hb _ [p] (Step.newO W.same hp) ⟨_, rfl, p, 0, [], rfl, rfl, upd_same, .nil⟩ fun a ha => by
    obtain rfl := List.mem_singleton.mp ha
    exact ⟨hb, by rw [upd_same]; exact fun z => (nomatch z), hp⟩
/-- a new object, frozen behind some steps -/
theorem step_frz {Hb H Hb2 H2 : Hp} {p : Addr} {o : HO} (t : Step [] Hb H Hb2 H2) (hp : H p = none) (hb : Hb2 p = none) : Step [] Hb H (upd Hb2 p o) (upd H2 p o) where
  b := fun x u e => by rw [upd_ne (ne_of_none (t.b x u e) hb)]; exact t.b x u e
  s := fun x u e => by
    by_cases hx : x = p
    · subst hx; rw [upd_same] at e; rw [upd_same]; exact e
    · rw [upd_ne hx] at e; rw [upd_ne hx]; exact t.s x u e
  k := fun x u _ e => by rw [upd_ne (ne_of_none e hp)]; exact t.same x u e
  f := fun x hx => by rw [upd_ne (fun z => hx (by rw [z]; exact hp))]; exact t.f x hx
  t := fun x hx => by rw [upd_ne (fun z => hx (by rw [z]; exact hp))]; exact t.t x hx
theorem ev_ndisp (hk : PD C tk ρ (.tuple ds)) (hv : PD C tv ρ x) (kd : KeyOk (.tuple ds)) : PEv C (tNDisp C.K tk tv) ρ (.ow (.dctF C.K [(.tuple ds, x)])) := fun σ Hb H fp W Q q p hp => by
  have t0 := Step.newO (M := []) (o := DN p 0 []) W.same hp
  have hb : Hb p = none := by
    cases e : Hb p with
    | none => rfl
    | some o => rw [W.same p o e] at hp; cases hp
  refine hk σ Hb _ fp (W.step t0) _ fun y Hb1 H1 _ t1 ⟨_, ey, ry⟩ _ => hv σ Hb1 H1 fp ((W.step t0).step t1) _ fun w Hb2 H2 _ t2 ⟨_, ew, rw'⟩ _ => ?_
  cases ey; cases ew
  obtain ⟨b, rfl⟩ := rp_ref ry
  have t12 := t1.trans0 t2
  have ep2 : H2 p = some (DN p 0 []) := t12.same _ _ upd_same
  have hb2 : Hb2 p = none := (t12.f p (by rw [upd_same]; exact fun z => nomatch z)).trans hb
  refine ⟨b, .tuple ds, rfl, kd, (ry.mono t2.b).mono t2.s, ep2, fun ep => ?_⟩
  have t := step_frz (o := DN p ep [(.tuple ds, b, w)]) (t0.trans0 t12) hp hb2
  have sb : Same Hb2 (upd Hb2 p (DN p ep [(.tuple ds, b, w)])) := fun z u e => by rw [upd_ne (ne_of_none e hb2)]; exact e
  exact q (.ref p) _ _ [] t ⟨_, rfl, p, ep, _, rfl, rfl, upd_same, .cons ⟨rfl, kd, (ry.mono t2.b).mono sb, rw'.mono sb⟩ .nil⟩ fun _ z => nomatch z
/-- the slot's dict is frozen -/
theorem ef_nfrz (hi : ρ[i]? = some (.ow (.dct C.K kvs))) (p : P (.ow (.dctF C.K kvs)) (ρ.set i (.ow (.dctF C.K kvs)))) (h0 : i ≠ 0 := by decide) : Ev C (tVar i) ρ P := fun σ Hb H fp W Q q => by
  obtain ⟨v, ev, a, ep, raw, rfl, ef, ha, kv⟩ := W.owns hi
  have ma : a ∈ fp i := by rw [ef]; exact List.mem_singleton.mpr rfl
  obtain ⟨f1, f2, f3⟩ := W.fr i a ma
  have hC : C.H a = none := f3.resolve_left fun z => h0 z.2
  have W1 := W.dropAt i
  have n1 : ¬ In (fun j => if j = i then [] else fp j) a := fun ⟨j, hj⟩ => by
    have hj : a ∈ (if j = i then [] else fp j) := hj
    by_cases e : j = i
    · rw [if_pos e] at hj; cases hj
    · rw [if_neg e] at hj; exact e (W.dj j i a hj ma)
  have W2 := W1.freeze f1 n1 hC ha
  have sb : Same Hb (upd Hb a (DN a ep raw)) := fun x u e => by rw [upd_ne (ne_of_none e f1)]; exact e
  have ok : (Res.dctF C.K kvs).holds (upd Hb a (DN a ep raw)) H (.ref a) [] := ⟨a, ep, raw, rfl, rfl, upd_same, kv.mono sb⟩
  have W3 : EnvW C σ (ρ.set i (.ow (.dctF C.K kvs))) (upd Hb a (DN a ep raw)) H (fun j => if j = i then [] else fp j) := by
    refine ⟨W2.st, by have := W2.len; rwa [List.length_set] at this ⊢, fun j u s h1 h2 => ?_, W2.dj, W2.fr⟩
    by_cases hj : j = i
    · subst hj
      have := (List.getElem?_eq_some_iff.mp h2).1
      rw [List.length_set] at this
      rw [List.getElem?_set_self this] at h2
      rw [ev] at h1
      cases h1; cases h2
      refine ⟨_, rfl, ?_⟩
      show (Res.dctF C.K kvs).holds _ _ _ (if j = j then [] else fp j)
      rw [if_pos rfl]
      exact ok
    · rw [List.getElem?_set_ne (Ne.symm hj)] at h2
      exact W2.sl j u s h1 (by rw [List.getElem?_set_ne (Ne.symm hj)]; exact h2)
  refine ⟨_, ev, q (.ref a) (.ow (.dctF C.K kvs)) _ _ H _ [] ⟨sb, fun _ _ _ e => e, fun x hx e => ?_, fun x hx => .inl (hx.elim (fun z => nomatch z) (in_drop x))⟩ ⟨W3, ⟨_, rfl, ok⟩, fun _ z => nomatch z⟩ p⟩
  rw [upd_ne (fun z => hx ⟨i, by rw [z]; exact ma⟩)]
theorem EnvW.nwr {σ : L2.St} {Hb H : Hp} {fp : Nat → List Addr} {a : Addr} {ep : Nat} {raw : RawN} {kvs' : List (D × D)} (W : EnvW C σ ρ Hb H fp) (ev : σ[i]? = some (some (.ref a))) (ef : fp i = [a]) (kv : KvN C.K Hb kvs' raw) :
    EnvW C σ (ρ.set i (.ow (.dct C.K kvs'))) Hb (upd H a (DN a ep raw)) (fun j => if j = i then [a] else fp j) ∧ Fr (In fp) Hb H Hb (upd H a (DN a ep raw)) (In fun j => if j = i then [a] else fp j) := by
  have ma : a ∈ fp i := by rw [ef]; exact List.mem_singleton.mpr rfl
  obtain ⟨f1, f2, f3⟩ := W.fr i a ma
  have t : Step (fp i) Hb H Hb (upd H a (DN a ep raw)) := Step.wr W.same f1 ma
  refine ⟨W.write t (fun b hb => hb) (List.getElem?_eq_some_iff.mp ev).1 (fun v' e' => by
    rw [ev] at e'; cases e'
    exact ⟨_, rfl, a, ep, raw, rfl, rfl, upd_same, kv⟩) fun b hb => .inl (by rw [List.mem_singleton.mp hb]; exact ma), ?_⟩
  exact ⟨Same.refl _, fun b o hn e => t.k b o (fun z => hn ⟨i, z⟩) e, fun _ _ _ => rfl, fun b ⟨j, hj⟩ => by
    have hj : b ∈ (if j = i then [a] else fp j) := hj
    by_cases e : j = i
    · rw [if_pos e] at hj; exact .inl ⟨i, by rw [List.mem_singleton.mp hj]; exact ma⟩
    · rw [if_neg e] at hj; exact .inl ⟨j, hj⟩⟩
/-- d[k] = v -/
theorem ex_nput {Po : Po} (hi : ρ[i]? = some (.ow (.dct C.K kvs))) (hv : PD C tv ρ x) (hy : PD C ty ρ (.tuple ds)) (kd : KeyOk (.tuple ds)) (hl : kvs.length < 10000000) (p : Po.nx (ρ.set i (.ow (.dct C.K (putN kvs (.tuple ds) x))))) :
    Ex C (sNPut C.K (tVar i) ty tv) ρ Po := fun σ Hb H fp E W q =>
  hv σ Hb H fp W _ fun w Hb1 H1 _ t1 ⟨_, ew, rw'⟩ _ => by
    cases ew
    have W1 := W.step t1
    obtain ⟨v, ev, a, ep, raw, rfl, ef, ha, kv⟩ := W1.owns hi
    refine ⟨_, ev, hy σ Hb1 H1 fp W1 _ fun y Hb2 H2 _ t2 ⟨_, ey, ry⟩ _ => ?_⟩
    cases ey
    obtain ⟨b, rfl⟩ := rp_ref ry
    have W2 := W1.step t2
    have kv2 := kv.mono t2.b
    refine ⟨a, b, ep, raw, kvs, .tuple ds, ⟨rfl, t2.same _ _ ha, kv2.mono t2.s, rfl, kd, ry.mono t2.s⟩, szl (by rw [← kv.length]; exact hl), fun ep' => ?_⟩
    obtain ⟨W3, fr3⟩ := W2.nwr (ep := ep') ev ef (kv2.put kd ry (rw'.mono t2.b))
    exact q.nx σ _ Hb2 _ _ ((Fr.of (t1.trans0 t2)).etrans fr3) W3 p
/-- d.setdefault(k, v) -/
theorem ef_ndef (hi : ρ[i]? = some (.ow (.dct C.K kvs))) (hy : PD C ty ρ (.tuple ds)) (hx : PD C tx ρ x) (kd : KeyOk (.tuple ds)) (hl : kvs.length < 10000000)
    (p1 : ∀ z, lkN kvs (.tuple ds) = some z → P (.d z) ρ) (p2 : lkN kvs (.tuple ds) = none → P (.d x) (ρ.set i (.ow (.dct C.K (kvs ++ [(.tuple ds, x)]))))) : Ev C (tNDef C.K (tVar i) ty tx) ρ P := fun σ Hb H fp W Q q => by
  obtain ⟨v, ev, a, ep, raw, rfl, ef, ha, kv⟩ := W.owns hi
  refine ⟨_, ev, ⟨a, ep, raw, rfl, ha⟩, hy σ Hb H fp W _ fun y Hb1 H1 _ t1 ⟨_, ey, ry⟩ _ => hx σ Hb1 H1 fp (W.step t1) _ fun w Hb2 H2 _ t2 ⟨_, ew, rw'⟩ _ => ?_⟩
  cases ey; cases ew
  obtain ⟨b, rfl⟩ := rp_ref ry
  have t := t1.trans0 t2
  have W2 := W.step t
  have kv2 := kv.mono t.b
  refine ⟨a, b, ep, raw, kvs, .tuple ds, ⟨rfl, t.same _ _ ha, kv2.mono t.s, rfl, kd, (ry.mono t2.b).mono t2.s⟩, szl (by rw [← kv.length]; exact hl), fun v hv => ?_, fun hn ep' => ?_⟩
  · rcases kv2.at (.tuple ds) with ⟨e1, e2⟩ | ⟨d, b', v', e1, e2, hv'⟩
    · rw [e2] at hv; cases hv
    · rw [e2] at hv
      have ev : v' = v := Option.some.inj hv
      rw [ev] at hv'
      exact q v (.d d) ρ Hb2 H2 fp [] ((Fr.of t).to fun a z => z.elim (fun z => nomatch z) id) ⟨W2, ⟨_, rfl, hv'⟩, fun _ z => nomatch z⟩ (p1 d e1)
  · have hn' : lkN kvs (.tuple ds) = none := by
      rcases kv2.at (.tuple ds) with ⟨e1, e2⟩ | ⟨d, b', v', e1, e2, hv'⟩
      · exact e1
      · rw [e2] at hn; cases hn
    have kp := kv2.put kd (ry.mono t2.b) rw'
    have e : putN kvs (.tuple ds) x = kvs ++ [(.tuple ds, x)] := by unfold putN; rw [hn']; rfl
    rw [e] at kp
    obtain ⟨W3, fr3⟩ := W2.nwr (ep := ep') ev ef kp
    exact q w (.d x) _ Hb2 _ _ [] (((Fr.of t).etrans fr3).to fun a z => z.elim (fun z => nomatch z) id) ⟨W3, ⟨_, rfl, rw'⟩, fun _ z => nomatch z⟩ (p2 hn')
/-- for k in d -/
theorem pi_n (h : VDF C td ρ kvs) : PEvI C (iNKeys td) ρ kvs.length (itemOf (kvs.map (·.1))) := fun σ Hb H fp W R q =>
  h σ Hb H fp W _ fun a ep raw Hb1 H1 t ha kv => ⟨a, ep, raw, rfl, t.s _ _ ha, q _ Hb1 H1 t ⟨fun Hb' H' s1 s2 => ⟨s2 _ _ (s1 _ _ ha), by rw [kv.length]; exact Nat.le_refl _⟩, fun i Hb' H' hi s1 s2 => ⟨⟨s2 _ _ (s1 _ _ ha), by rw [← kv.length]; exact hi⟩, fun y H2 ⟨e1, r, e2, e3⟩ => by
    subst e1; subst e3
    refine ⟨Hb', Step.refl s2, ?_⟩
    obtain ⟨p, hp, e4⟩ : ∃ p, kvs[i]? = some p ∧ (r.1 = p.1 ∧ KeyOk p.1 ∧ Rp C.K Hb1 (.ref r.2.1) p.1 ∧ Rp C.K Hb1 r.2.2 p.2) := by
      obtain ⟨r', hr', g⟩ := paired_get kv (List.getElem?_eq_getElem hi)
      rw [hr'] at e2; cases e2
      exact ⟨_, List.getElem?_eq_getElem hi, g⟩
    have : itemOf (kvs.map (·.1)) i = p.1 := itemOf_some (by rw [List.getElem?_map, hp]; rfl)
    rw [this]
    exact e4.2.2.1.mono s1⟩⟩⟩
def mergeN (acc : List (D × D)) : List (D × D) → List (D × D)
  | [] => acc
  | p :: ps => mergeN (putN acc p.1 p.2) ps
theorem KvN.merge {K : PySem.W.Frag} {Hb : Hp} : ∀ {ps acc : List (D × D)} {rs ar : RawN}, KvN K Hb ps rs → KvN K Hb acc ar → KvN K Hb (mergeN acc ps) (mergeR ar rs)
  | _, _, _, _, .nil, h => h
  | _, _, _, _, .cons (a := p) (b := r) g t, h => by
    have h1 := h.put g.2.1 g.2.2.1 g.2.2.2
    exact (KvN.merge t (by rw [g.1]; exact h1) : KvN K Hb (mergeN (putN _ p.1 p.2) _) (mergeR (putR _ r.1 r.2.1 r.2.2) _))
theorem mergeN_nodup : ∀ (ps acc : List (D × D)), ((acc ++ ps).map fun p => nk p.1).Nodup → mergeN acc ps = acc ++ ps
  | [], acc, _ => by rw [List.append_nil]; rfl
  | p :: ps, acc, h => by
    have e : putN acc p.1 p.2 = acc ++ [p] := by
      have : lkN acc p.1 = none := by
        unfold lkN
        rw [List.find?_eq_none.mpr]; rfl
        intro q hq e
        have e := of_decide_eq_true e
        rw [List.map_append, List.nodup_append] at h
        exact h.2.2 _ (List.mem_map.mpr ⟨q, hq, rfl⟩) _ (List.mem_map.mpr ⟨p, List.mem_cons_self, rfl⟩) e
      unfold putN
      rw [this]; rfl
    show mergeN (putN acc p.1 p.2) ps = _
    rw [e, mergeN_nodup ps (acc ++ [p]) (by rwa [List.append_assoc]), List.append_assoc]; rfl
/-- dict(pairs) -/
theorem ev_dictN {te : TE} (h : PD C te ρ (.list (kvs.map fun p => .tuple [p.1, p.2]))) (kd : ∀ p ∈ kvs, KeyOk p.1 ∧ ∃ ds, p.1 = .tuple ds) (nd : (kvs.map fun p => nk p.1).Nodup) : PEv C (tCB (rDictN C.K) (tCons te tNil)) ρ (.ow (.dctF C.K kvs)) := fun σ Hb H fp W Q q =>
  h σ Hb H fp W _ fun v Hb1 H1 _ t1 ⟨_, e1, h1⟩ _ => by
    cases e1
    cases h1 with
    | @lst a vs _ hs ha =>
      have conv : ∀ (l : List (D × D)) (us : List V), (∀ p ∈ l, KeyOk p.1 ∧ ∃ ds, p.1 = .tuple ds) → RpAll C.K Hb1 us (l.map fun p => .tuple [p.1, p.2]) → ∃ (ps : List Addr) (rs : RawN), us = ps.map V.ref ∧ KvN C.K Hb1 l rs ∧ Paired (fun p r => SqT C.K Hb1 p [V.ref r.2.1, r.2.2]) ps rs := fun l => by
        induction l with
        | nil => intro us _ hu; cases hu; exact ⟨[], [], rfl, .nil, .nil⟩
        | cons p l ih =>
          intro us hk hu
          cases hu with
          | cons g1 g2 =>
            obtain ⟨ps, rs, e1, e2, e3⟩ := ih _ (fun p hp => hk p (List.mem_cons_of_mem _ hp)) g2
            obtain ⟨k1, ds, k2⟩ := hk p List.mem_cons_self
            cases g1 with
            | tup j1 j2 =>
              cases j2 with
              | cons j2 j3 =>
                cases j3 with
                | cons j3 j4 =>
                  cases j4
                  obtain ⟨b, rfl⟩ := rp_ref (by rw [← k2]; exact j2)
                  exact ⟨_ :: ps, (p.1, b, _) :: rs, by rw [e1]; rfl, .cons ⟨rfl, k1, j2, j3⟩ e2, .cons j1 e3⟩
      obtain ⟨ps, rs, e1, e2, e3⟩ := conv kvs vs kd ha
      subst e1
      refine ⟨a, ps, rs, kvs, rfl, .of (t1.s _ _ hs), e2.mono t1.s, Paired.mapP e3 fun _ _ g => same_sqt t1.s g, fun ep p hp => ?_⟩
      have hp0 : H p = none := by
        cases e : H p with
        | none => rfl
        | some o => rw [t1.same _ _ e] at hp; cases hp
      have hb : Hb1 p = none := by
        cases e : Hb1 p with
        | none => rfl
        | some o => rw [t1.s _ _ e] at hp; cases hp
      have km := KvN.merge e2 (acc := []) (ar := []) .nil
      rw [mergeN_nodup kvs [] nd, List.nil_append] at km
      have sb : Same Hb1 (upd Hb1 p (DN p ep (mergeR [] rs))) := fun z u e => by rw [upd_ne (ne_of_none e hb)]; exact e
      exact q (.ref p) _ _ [] (step_frz t1 hp0 hb) ⟨_, rfl, p, ep, _, rfl, rfl, upd_same, km.mono sb⟩ fun _ z => nomatch z
/-- sorted(d) -/
theorem ev_sortN {zs : List D} (h : VD C td ρ kvs) (hd1 : ∀ p ∈ kvs, p.1.depth ≤ 16 ∧ Tup2 p.1) (hd2 : ∀ p ∈ kvs, ∀ q ∈ kvs, PySem.W.alike p.1 q.1 = true)
    (hz : ∀ ys : List D, ys.Perm (kvs.map (·.1)) → ys.Pairwise (fun a b => PySem.W.dataLt b a = false) → ys = zs) (l : Lsl C.K zs s) : PEv C (tCB (rSortN C.K) (tCons td tNil)) ρ s := fun σ Hb H fp W Q q =>
  h σ Hb H fp W _ fun a ep raw Hb1 H1 t1 ha kv => ⟨a, ep, raw, kvs, Hb1, t1.s, rfl, ha, kv, hd1, hd2, fun ys vs p h1 h2 h3 hp => by
    have := hz ys h1 h2
    subst this
    exact lst_new l (q.after t1) t1.s hp h3⟩
end
end DL
set_option Elab.async false
set_option linter.all false
set_option maxRecDepth 100000
set_option maxHeartbeats 4000000
/-! FD: what comes by some order, level by level: plain Lean. -/
namespace DL
open PySem

instance : DecidableEq BN := fun a b => if h : a.mem = b.mem ∧ a.s0 = b.s0 ∧ a.s1 = b.s1 then .isTrue (by
    cases a; cases b
    obtain ⟨h1, h2, h3⟩ := h
    simp only at h1 h2 h3
    rw [h1, h2, h3]) else .isFalse fun e => h (by rw [e]; exact ⟨rfl, rfl, rfl⟩)
instance : DecidableEq OS := fun a b => if h : a.b = b.b ∧ a.i = b.i ∧ a.j = b.j then .isTrue (by
    cases a; cases b
    obtain ⟨h1, h2, h3⟩ := h
    simp only at h1 h2 h3
    rw [h1, h2, h3]) else .isFalse fun e => h (by rw [e]; exact ⟨rfl, rfl, rfl⟩)

/-! ### tables -/
section
variable {κ β : Type} [DecidableEq κ]
def lkA (l : List (κ × β)) (k : κ) : Option β := (l.find? fun p => decide (p.1 = k)).map (·.2)
def putA (l : List (κ × β)) (k : κ) (v : β) : List (κ × β) := if (lkA l k).isSome = true then l.map (fun p => if p.1 = k then (p.1, v) else p) else l ++ [(k, v)]
theorem lkA_pos {p : κ × β} {l : List (κ × β)} {k : κ} (e : p.1 = k) : lkA (p :: l) k = some p.2 := by simp [lkA, List.find?_cons, e]
theorem lkA_neg {p : κ × β} {l : List (κ × β)} {k : κ} (e : ¬ p.1 = k) : lkA (p :: l) k = lkA l k := by simp [lkA, List.find?_cons, e]
theorem lkA_mem {k : κ} {v : β} : ∀ {l : List (κ × β)}, lkA l k = some v → (k, v) ∈ l
  | [], h => nomatch h
  | p :: l, h => by
    by_cases e : p.1 = k
    · rw [lkA_pos e] at h
      cases h
      rw [← e]; exact List.mem_cons_self
    · rw [lkA_neg e] at h
      exact List.mem_cons_of_mem _ (lkA_mem h)
theorem lkA_none {k : κ} : ∀ {l : List (κ × β)}, lkA l k = none → ∀ p ∈ l, p.1 ≠ k
  | [], _, _, h => nomatch h
  | p :: l, h, q, hq => by
    by_cases e : p.1 = k
    · rw [lkA_pos e] at h; cases h
    · rw [lkA_neg e] at h
      rcases List.mem_cons.mp hq with z | z
      · rw [z]; exact e
      · exact lkA_none h q z
theorem lkA_of {k : κ} {v : β} : ∀ {l : List (κ × β)}, (l.map (·.1)).Nodup → (k, v) ∈ l → lkA l k = some v
  | [], _, h => nomatch h
  | p :: l, nd, h => by
    rw [List.map_cons, List.nodup_cons] at nd
    rcases List.mem_cons.mp h with e | h
    · subst e; exact lkA_pos rfl
    · have ne : ¬ p.1 = k := fun e => nd.1 (List.mem_map.mpr ⟨(k, v), h, e.symm⟩)
      rw [lkA_neg ne]; exact lkA_of nd.2 h
theorem mem_putA {l : List (κ × β)} {k : κ} {v : β} {p : κ × β} : p ∈ putA l k v ↔ p = (k, v) ∨ (p ∈ l ∧ p.1 ≠ k) := by
  unfold putA
  cases h : lkA l k with
  | none =>
    rw [if_neg (fun z => nomatch z), List.mem_append, List.mem_singleton]
    constructor
    · rintro (z | z)
      · exact .inr ⟨z, lkA_none h p z⟩
      · exact .inl z
    · rintro (z | z)
      · exact .inr z
      · exact .inl z.1
  | some w =>
    rw [if_pos (show (some w).isSome = true from rfl), List.mem_map]
    have hm := lkA_mem h
    constructor
    · rintro ⟨q, hq, e⟩
      by_cases hk : q.1 = k
      · rw [if_pos hk] at e
        rw [← e, hk]; exact .inl rfl
      · rw [if_neg hk] at e
        rw [← e]; exact .inr ⟨hq, hk⟩
    · rintro (z | z)
      · exact ⟨(k, w), hm, by rw [if_pos rfl, z]⟩
      · exact ⟨p, z.1, if_neg z.2⟩
theorem putA_nodup {l : List (κ × β)} {k : κ} {v : β} (nd : (l.map (·.1)).Nodup) : ((putA l k v).map (·.1)).Nodup := by
  unfold putA
  cases h : lkA l k with
  | none =>
    rw [if_neg (fun z => nomatch z), List.map_append, List.nodup_append]
    refine ⟨nd, List.nodup_cons.mpr ⟨fun z => (nomatch z), List.nodup_nil⟩, fun a ha b hb e => ?_⟩
    obtain ⟨p, hp, rfl⟩ := List.mem_map.mp ha
    have hb : b ∈ [k] := hb
    rw [List.mem_singleton.mp hb] at e
    exact lkA_none h p hp e
  | some w =>
    rw [if_pos (show (some w).isSome = true from rfl), List.map_map]
    have : ((fun p : κ × β => p.1) ∘ fun p => if p.1 = k then (p.1, v) else p) = fun p => p.1 := by
      funext p
      show (if p.1 = k then (p.1, v) else p).1 = p.1
      by_cases e : p.1 = k
      · rw [if_pos e]
      · rw [if_neg e]
    rw [this]; exact nd
theorem putA_len (l : List (κ × β)) (k : κ) (v : β) : (putA l k v).length ≤ l.length + 1 := by
  unfold putA
  split
  · rw [List.length_map]; omega
  · rw [List.length_append]; exact Nat.le_refl _
end

/-! ### orders as texts -/
def ltO (a b : List Bool) : Bool := decide (a.map sgn < b.map sgn)
theorem ltO_irrefl (a : List Bool) : ltO a a = false := decide_eq_false (List.lt_irrefl _)
theorem ltO_trans {a b c : List Bool} (h1 : ltO a b = true) (h2 : ltO b c = true) : ltO a c = true := decide_eq_true (List.lt_trans (of_decide_eq_true h1) (of_decide_eq_true h2))
theorem ltO_asym {a b : List Bool} (h1 : ltO a b = true) : ltO b a = false := by
  cases h : ltO b a with
  | false => rfl
  | true => have := ltO_trans h1 h; rw [ltO_irrefl] at this; cases this
theorem sgn_inj {a b : Bool} (h : sgn a = sgn b) : a = b := by cases a <;> cases b <;> first | rfl | exact absurd h (by decide)
theorem sgns_inj : ∀ {a b : List Bool}, a.map sgn = b.map sgn → a = b
  | [], [], _ => rfl
  | [], _ :: _, h => nomatch h
  | _ :: _, [], h => nomatch h
  | x :: a, y :: b, h => by
    rw [List.map_cons, List.map_cons] at h
    obtain ⟨h1, h2⟩ := List.cons.inj h
    rw [sgn_inj h1, sgns_inj h2]
theorem ltO_total {a b : List Bool} (h1 : ltO a b = false) (h2 : ltO b a = false) : a = b := by
  have h1 := of_decide_eq_false h1
  have h2 := of_decide_eq_false h2
  rw [List.not_lt] at h1 h2
  exact sgns_inj (List.le_antisymm h2 h1)
theorem ltO_le {a b c : List Bool} (h1 : ltO a b = true) (h2 : ltO c b = false) : ltO a c = true := by
  cases h : ltO b c with
  | true => exact ltO_trans h1 h
  | false => rw [ltO_total h2 h]; exact h1
/-- a sign more behind both -/
theorem lt_snoc : ∀ {a b : List Nat} (x y : Nat), a.length = b.length → a < b → a ++ [x] < b ++ [y]
  | [], [], _, _, _, h => absurd h (List.lt_irrefl _)
  | [], _ :: _, _, _, h, _ => nomatch h
  | _ :: _, [], _, _, h, _ => nomatch h
  | a :: as, b :: bs, x, y, hl, h => by
    rw [List.cons_lt_cons_iff] at h
    rw [List.cons_append, List.cons_append, List.cons_lt_cons_iff]
    rcases h with h | ⟨e, h⟩
    · exact .inl h
    · exact .inr ⟨e, lt_snoc x y (by simpa using hl) h⟩
theorem ltO_snoc {a b : List Bool} (c : Bool) (hl : a.length = b.length) (h : ltO b a = false) : ltO (b ++ [c]) (a ++ [c]) = false := by
  cases h2 : ltO a b with
  | true =>
    refine ltO_asym (decide_eq_true ?_)
    rw [List.map_append, List.map_append]
    exact lt_snoc _ _ (by rw [List.length_map, List.length_map]; exact hl) (of_decide_eq_true h2)
  | false => rw [ltO_total h h2]; exact ltO_irrefl _

/-! ### the least order of each state -/
section
variable {f : List Bool → OS}
def less (c : List Bool) : Option (List Bool) → Bool
  | none => true
  | some v => ltO c v
def offer (acc : List (OS × List Bool)) (s : OS) (c : List Bool) : List (OS × List Bool) := if less c (lkA acc s) = true then putA acc s c else acc
structure Lst (acc : List (OS × List Bool)) (P : List Bool → Prop) (f : List Bool → OS) : Prop where
  nd : (acc.map (·.1)).Nodup
  own : ∀ p ∈ acc, P p.2 ∧ p.1 = f p.2 ∧ ∀ c, P c → f c = p.1 → ltO c p.2 = false
  all : ∀ c, P c → ∃ p ∈ acc, p.1 = f c
theorem Lst.nil : Lst [] (fun _ => False) f := ⟨List.nodup_nil, fun _ h => (nomatch h), fun _ h => False.elim h⟩
theorem Lst.congr {acc : List (OS × List Bool)} {P P' : List Bool → Prop} (h : Lst acc P f) (e : ∀ c, P c ↔ P' c) : Lst acc P' f :=
  ⟨h.nd, fun p hp => let ⟨a, b, c⟩ := h.own p hp; ⟨(e _).mp a, b, fun x hx => c x ((e _).mpr hx)⟩, fun c hc => h.all c ((e c).mpr hc)⟩
theorem Lst.offer {acc : List (OS × List Bool)} {P : List Bool → Prop} (h : Lst acc P f) (c : List Bool) : Lst (offer acc (f c) c) (fun x => P x ∨ x = c) f := by
  unfold DL.offer
  cases hl : lkA acc (f c) with
  | none =>
    have no := lkA_none hl
    show Lst (if true = true then putA acc (f c) c else acc) _ f
    rw [if_pos rfl]
    refine ⟨putA_nodup h.nd, fun p hp => ?_, fun x hx => ?_⟩
    · rcases mem_putA.mp hp with e | ⟨hp, ne⟩
      · subst e
        refine ⟨.inr rfl, rfl, fun x hx e => ?_⟩
        rcases hx with hx | hx
        · obtain ⟨q, hq, eq⟩ := h.all x hx
          exact absurd (eq.trans e) (no q hq)
        · rw [hx]; exact ltO_irrefl c
      · obtain ⟨a, b, d⟩ := h.own p hp
        refine ⟨.inl a, b, fun x hx e => ?_⟩
        rcases hx with hx | hx
        · exact d x hx e
        · rw [hx] at e; exact absurd e.symm ne
    · rcases hx with hx | hx
      · obtain ⟨q, hq, eq⟩ := h.all x hx
        exact ⟨q, mem_putA.mpr (.inr ⟨hq, no q hq⟩), eq⟩
      · rw [hx]; exact ⟨_, mem_putA.mpr (.inl rfl), rfl⟩
  | some v =>
    have hm := lkA_mem hl
    obtain ⟨va, vb, vc⟩ := h.own _ hm
    show Lst (if ltO c v = true then putA acc (f c) c else acc) _ f
    by_cases hc : ltO c v = true
    · rw [if_pos hc]
      refine ⟨putA_nodup h.nd, fun p hp => ?_, fun x hx => ?_⟩
      · rcases mem_putA.mp hp with e | ⟨hp, ne⟩
        · subst e
          refine ⟨.inr rfl, rfl, fun x hx e => ?_⟩
          rcases hx with hx | hx
          · cases q : ltO x c with
            | false => rfl
            | true =>
              have := vc x hx e
              rw [ltO_trans q hc] at this; cases this
          · rw [hx]; exact ltO_irrefl c
        · obtain ⟨a, b, d⟩ := h.own p hp
          refine ⟨.inl a, b, fun x hx e => ?_⟩
          rcases hx with hx | hx
          · exact d x hx e
          · rw [hx] at e; exact absurd e.symm ne
      · by_cases e : f x = f c
        · exact ⟨_, mem_putA.mpr (.inl rfl), e.symm⟩
        · rcases hx with hx | hx
          · obtain ⟨q, hq, eq⟩ := h.all x hx
            exact ⟨q, mem_putA.mpr (.inr ⟨hq, fun z => e (eq.symm.trans z)⟩), eq⟩
          · rw [hx] at e; exact absurd rfl e
    · rw [if_neg hc]
      refine ⟨h.nd, fun p hp => ?_, fun x hx => ?_⟩
      · obtain ⟨a, b, d⟩ := h.own p hp
        refine ⟨.inl a, b, fun x hx e => ?_⟩
        rcases hx with hx | hx
        · exact d x hx e
        · subst hx
          have := lkA_of h.nd (show (f x, p.2) ∈ acc by rw [e]; exact hp)
          rw [hl] at this
          rw [← Option.some.inj this]
          cases q : ltO x v with
          | false => rfl
          | true => exact absurd q hc
      · rcases hx with hx | hx
        · exact h.all x hx
        · rw [hx]; exact ⟨_, hm, rfl⟩
end

/-! ### level by level -/
section
variable (mem : List Nat) (l r : List Deed)
def stuck (s : OS) (b : Bool) : Bool := if b = true then decide (s.j = r.length) else decide (s.i = l.length)
def turn (acc : List (OS × List Bool)) (p : OS × List Bool) (b : Bool) : List (OS × List Bool) := if stuck l r p.1 b = true then acc else offer acc (OS.step l r p.1 b) (p.2 ++ [b])
def nextL (lev : List (OS × List Bool)) : List (OS × List Bool) := lev.foldl (fun acc p => turn l r (turn l r acc p false) p true) []
def levels : Nat → List (OS × List Bool)
  | 0 => [(⟨⟨mem, [], []⟩, 0, 0⟩, [])]
  | t + 1 => nextL l r (levels t)
/-- part of an order -/
def Part (t : Nat) (os : List Bool) : Prop := os.length = t ∧ os.count false ≤ l.length ∧ os.count true ≤ r.length
variable {mem l r}
theorem Part.pre {t : Nat} {os : List Bool} {b : Bool} (h : Part l r (t + 1) (os ++ [b])) : Part l r t os := by
  obtain ⟨h1, h2, h3⟩ := h
  rw [List.length_append] at h1
  rw [List.count_append] at h2 h3
  exact ⟨Nat.succ.inj h1, by omega, by omega⟩
theorem part_snoc {t : Nat} {os : List Bool} (h : Part l r t os) (b : Bool) : Part l r (t + 1) (os ++ [b]) ↔ stuck l r (ordTo mem l r os) b = false := by
  obtain ⟨h1, h2, h3⟩ := h
  unfold stuck Part
  rw [ordTo_i, ordTo_j, List.length_append, List.count_append, List.count_append]
  cases b with
  | true =>
    rw [if_pos rfl, decide_eq_false_iff_not]
    simp
    omega
  | false =>
    rw [if_neg (fun z => nomatch z), decide_eq_false_iff_not]
    simp
    omega
theorem levels_ok : ∀ t, Lst (levels mem l r t) (Part l r t) (ordTo mem l r)
  | 0 => by
    refine ⟨List.nodup_cons.mpr ⟨fun z => (nomatch z), List.nodup_nil⟩, fun p hp => ?_, fun c hc => ?_⟩
    · rw [List.mem_singleton.mp hp]
      exact ⟨⟨rfl, Nat.zero_le _, Nat.zero_le _⟩, rfl, fun c hc _ => by
        rw [List.length_eq_zero_iff.mp hc.1]; exact ltO_irrefl _⟩
    · refine ⟨_, List.mem_singleton.mpr rfl, ?_⟩
      rw [List.length_eq_zero_iff.mp hc.1]; rfl
  | t + 1 => by
    have ih := levels_ok t
    -- the fold
    have key : ∀ (lev acc : List (OS × List Bool)) (P : List Bool → Prop), (∀ p ∈ lev, Part l r t p.2 ∧ p.1 = ordTo mem l r p.2) → Lst acc P (ordTo mem l r) →
        Lst (lev.foldl (fun acc p => turn l r (turn l r acc p false) p true) acc) (fun c => P c ∨ ∃ p ∈ lev, ∃ b, c = p.2 ++ [b] ∧ Part l r (t + 1) c) (ordTo mem l r) := fun lev => by
      induction lev with
      | nil => exact fun acc P _ h => h.congr fun c => ⟨.inl, fun z => Or.elim z id fun ⟨_, h, _⟩ => nomatch h⟩
      | cons p lev ih =>
        intro acc P hk h
        obtain ⟨k1, k2⟩ := hk p List.mem_cons_self
        have one : ∀ (acc : List (OS × List Bool)) (P : List Bool → Prop) (b : Bool), Lst acc P (ordTo mem l r) → Lst (turn l r acc p b) (fun c => P c ∨ (c = p.2 ++ [b] ∧ Part l r (t + 1) c)) (ordTo mem l r) := fun acc P b h => by
          unfold turn
          have pb := part_snoc (mem := mem) k1 b
          rw [← k2] at pb
          cases hs : stuck l r p.1 b with
          | true =>
            rw [if_pos rfl]
            refine h.congr fun c => ⟨.inl, fun z => Or.elim z id fun ⟨e, hp⟩ => ?_⟩
            rw [e] at hp
            rw [pb.mp hp] at hs; cases hs
          | false =>
            rw [if_neg (fun z => nomatch z)]
            have e : OS.step l r p.1 b = ordTo mem l r (p.2 ++ [b]) := by rw [ordTo_snoc, k2]
            rw [e]
            refine (h.offer _).congr fun c => ⟨fun z => Or.elim z .inl fun z => .inr ⟨z, ?_⟩, fun z => Or.elim z .inl fun z => .inr z.1⟩
            rw [z]; exact pb.mpr hs
        have h2 := one _ _ true (one acc P false h)
        refine (ih _ _ (fun q hq => hk q (List.mem_cons_of_mem _ hq)) h2).congr fun c => ?_
        constructor
        · rintro (((z | z) | z) | ⟨q, hq, b, e, hp⟩)
          · exact .inl z
          · exact .inr ⟨p, List.mem_cons_self, false, z.1, z.2⟩
          · exact .inr ⟨p, List.mem_cons_self, true, z.1, z.2⟩
          · exact .inr ⟨q, List.mem_cons_of_mem _ hq, b, e, hp⟩
        · rintro (z | ⟨q, hq, b, e, hp⟩)
          · exact .inl (.inl (.inl z))
          · rcases List.mem_cons.mp hq with eq | hq
            · subst eq
              cases b with
              | false => exact .inl (.inl (.inr ⟨e, hp⟩))
              | true => exact .inl (.inr ⟨e, hp⟩)
            · exact .inr ⟨q, hq, b, e, hp⟩
    have h := key (levels mem l r t) [] _ (fun p hp => ⟨(ih.own p hp).1, (ih.own p hp).2.1⟩) Lst.nil
    -- the least of the level gives the least of the next
    have rep : ∀ c, Part l r (t + 1) c → ∃ p ∈ levels mem l r t, ∃ b, Part l r (t + 1) (p.2 ++ [b]) ∧ ordTo mem l r (p.2 ++ [b]) = ordTo mem l r c ∧ ltO c (p.2 ++ [b]) = false := fun c hc => by
      obtain ⟨c1, b, e⟩ : ∃ c1 b, c = c1 ++ [b] := by
        have : c ≠ [] := fun z => by rw [z] at hc; exact nomatch hc.1
        exact ⟨c.dropLast, c.getLast this, (List.dropLast_concat_getLast this).symm⟩
      subst e
      have h1 := hc.pre
      obtain ⟨p, hp, ep⟩ := ih.all c1 h1
      obtain ⟨o1, o2, o3⟩ := ih.own p hp
      have e1 : ordTo mem l r p.2 = ordTo mem l r c1 := o2.symm.trans ep
      refine ⟨p, hp, b, ?_, ?_, ltO_snoc b (o1.1.trans h1.1.symm) (o3 c1 h1 ep.symm)⟩
      · rw [part_snoc (mem := mem) o1, e1]
        exact (part_snoc (mem := mem) h1 b).mp hc
      · rw [ordTo_snoc, ordTo_snoc, e1]
    refine ⟨h.nd, fun p hp => ?_, fun c hc => ?_⟩
    · obtain ⟨a, b, d⟩ := h.own p hp
      rcases a with a | ⟨q, hq, b', e, hpt⟩
      · exact False.elim a
      · refine ⟨hpt, b, fun c hc e2 => ?_⟩
        obtain ⟨q2, hq2, b2, p2, e3, l3⟩ := rep c hc
        have := d _ (.inr ⟨q2, hq2, b2, rfl, p2⟩) (e3.trans e2)
        cases z : ltO c p.2 with
        | false => rfl
        | true =>
          have := ltO_le z this
          rw [l3] at this; cases this
    · obtain ⟨q2, hq2, b2, p2, e3, l3⟩ := rep c hc
      obtain ⟨p, hp, e⟩ := h.all _ (.inr ⟨q2, hq2, b2, rfl, p2⟩)
      exact ⟨p, hp, e.trans e3⟩
theorem offer_len (acc : List (OS × List Bool)) (s : OS) (c : List Bool) : (offer acc s c).length ≤ acc.length + 1 := by
  unfold offer
  by_cases h : less c (lkA acc s) = true
  · rw [if_pos h]; exact putA_len _ _ _
  · rw [if_neg h]; exact Nat.le_succ _
theorem turn_len (acc : List (OS × List Bool)) (p : OS × List Bool) (b : Bool) : (turn l r acc p b).length ≤ acc.length + 1 := by
  unfold turn
  split
  · exact Nat.le_succ _
  · exact offer_len _ _ _
theorem nextL_len : ∀ (lev acc : List (OS × List Bool)), (lev.foldl (fun acc p => turn l r (turn l r acc p false) p true) acc).length ≤ acc.length + 2 * lev.length
  | [], acc => Nat.le_refl _
  | p :: lev, acc => by
    have h1 := nextL_len lev (turn l r (turn l r acc p false) p true)
    have h2 := turn_len (l := l) (r := r) (turn l r acc p false) p true
    have h3 := turn_len (l := l) (r := r) acc p false
    rw [List.foldl_cons, List.length_cons]
    omega
theorem levels_len : ∀ t, (levels mem l r t).length ≤ 2 ^ t
  | 0 => Nat.le_refl _
  | t + 1 => by
    have h1 := levels_len t
    have h2 := nextL_len (l := l) (r := r) (levels mem l r t) []
    rw [List.length_nil] at h2
    show (nextL l r (levels mem l r t)).length ≤ 2 ^ (t + 1)
    unfold nextL
    rw [Nat.pow_succ]
    omega
end
/-- all that comes by some order, each with its first order -/
def known (mem : List Nat) (l r : List Deed) : List (BN × List Bool) := (levels mem l r (l.length + r.length)).map fun p => (p.1.b, p.2)
section
variable {mem : List Nat} {l r : List Deed}
theorem part_ord {os : List Bool} : Part l r (l.length + r.length) os ↔ OrdOk l r os := by
  unfold Part OrdOk
  have := count_tot os
  constructor
  · rintro ⟨h1, h2, h3⟩; omega
  · rintro ⟨h1, h2⟩; omega
theorem lev_full {p : OS × List Bool} (h : p ∈ levels mem l r (l.length + r.length)) : p.1 = ⟨p.1.b, l.length, r.length⟩ := by
  obtain ⟨a, b, _⟩ := (levels_ok (mem := mem) (l := l) (r := r) _).own p h
  have o := part_ord.mp a
  have e1 : p.1.i = l.length := by rw [b, ordTo_i]; exact o.1
  have e2 : p.1.j = r.length := by rw [b, ordTo_j]; exact o.2
  cases hp : p.1 with
  | mk b i j =>
    rw [hp] at e1 e2
    have e1 : i = l.length := e1
    have e2 : j = r.length := e2
    rw [e1, e2]
theorem nodup_map_on {α β : Type} {f : α → β} : ∀ {l : List α}, (∀ x ∈ l, ∀ y ∈ l, f x = f y → x = y) → l.Nodup → (l.map f).Nodup
  | [], _, _ => List.nodup_nil
  | x :: l, h, nd => by
    rw [List.nodup_cons] at nd
    rw [List.map_cons, List.nodup_cons]
    refine ⟨fun z => ?_, nodup_map_on (fun a ha b hb => h a (List.mem_cons_of_mem _ ha) b (List.mem_cons_of_mem _ hb)) nd.2⟩
    obtain ⟨y, hy, e⟩ := List.mem_map.mp z
    exact nd.1 (h y (List.mem_cons_of_mem _ hy) x List.mem_cons_self e ▸ hy)
theorem known_nd : ((known mem l r).map (·.1)).Nodup := by
  unfold known
  rw [List.map_map]
  have h := (levels_ok (mem := mem) (l := l) (r := r) (l.length + r.length)).nd
  have e : ((fun p : BN × List Bool => p.1) ∘ fun p : OS × List Bool => (p.1.b, p.2)) = (fun s : OS => s.b) ∘ fun p : OS × List Bool => p.1 := rfl
  rw [e, ← List.map_map]
  refine nodup_map_on (fun x hx y hy he => ?_) h
  obtain ⟨p, hp, rfl⟩ := List.mem_map.mp hx
  obtain ⟨q, hq, rfl⟩ := List.mem_map.mp hy
  rw [lev_full hp, lev_full hq]
  have he : p.1.b = q.1.b := he
  rw [he]
theorem known_own {p : BN × List Bool} (h : p ∈ known mem l r) : OrdOk l r p.2 ∧ p.1 = ordOf mem l r p.2 ∧ ∀ os, OrdOk l r os → ordOf mem l r os = p.1 → ltO os p.2 = false := by
  unfold known at h
  obtain ⟨q, hq, rfl⟩ := List.mem_map.mp h
  obtain ⟨a, b, c⟩ := (levels_ok (mem := mem) (l := l) (r := r) _).own q hq
  refine ⟨part_ord.mp a, by show q.1.b = _; rw [b]; rfl, fun os ho e => c os (part_ord.mpr ho) ?_⟩
  have e : (ordTo mem l r os).b = q.1.b := e
  rw [lev_full hq, ← e]
  have e1 : (ordTo mem l r os).i = l.length := by rw [ordTo_i]; exact ho.1
  have e2 : (ordTo mem l r os).j = r.length := by rw [ordTo_j]; exact ho.2
  cases hz : ordTo mem l r os with
  | mk b i j =>
    rw [hz] at e1 e2
    have e1 : i = l.length := e1
    have e2 : j = r.length := e2
    rw [e1, e2]
theorem known_all {os : List Bool} (h : OrdOk l r os) : ∃ p ∈ known mem l r, p.1 = ordOf mem l r os := by
  obtain ⟨p, hp, e⟩ := (levels_ok (mem := mem) (l := l) (r := r) _).all os (part_ord.mpr h)
  exact ⟨_, List.mem_map.mpr ⟨p, hp, rfl⟩, by show p.1.b = _; rw [e]; rfl⟩
theorem known_len (h1 : l.length ≤ 6) (h2 : r.length ≤ 6) : (known mem l r).length ≤ 4096 := by
  unfold known
  rw [List.length_map]
  have := levels_len (mem := mem) (l := l) (r := r) (l.length + r.length)
  have h3 : 2 ^ (l.length + r.length) ≤ 2 ^ 12 := Nat.pow_le_pow_right (by decide) (by omega)
  have h4 : (2 : Nat) ^ 12 = 4096 := by decide
  omega
end
end DL
set_option Elab.async false
set_option linter.all false
set_option maxRecDepth 100000
set_option maxHeartbeats 4000000
/-! FE: step_of, known_by. -/
namespace DL
open PySem PySem.Spec L2

/-! ### a state as data -/
def encS (s : OS) : D := .tuple [.tuple (encN s.b.s0), .tuple (encN s.b.s1), .tuple (encN s.b.mem), .int (s.i : Nat), .int (s.j : Nat)]
theorem keyDs_encN : ∀ ns : List Nat, keyDs (encN ns) = true
  | [] => rfl
  | n :: ns => by
    show (true && keyDs (encN ns)) = true
    rw [keyDs_encN ns]; rfl
theorem depth_encN : ∀ ns : List Nat, NestedKey.depthAll (nks (encN ns)) = 0
  | [] => rfl
  | n :: ns => by
    show max 0 (NestedKey.depthAll (nks (encN ns))) = 0
    rw [depth_encN ns]; rfl
theorem encN_inj {a b : List Nat} (h : encN a = encN b) : a = b := by
  unfold encN at h
  have := congrArg (List.map fun d : D => match d with | .int i => i.toNat | _ => 0) h
  rw [List.map_map, List.map_map] at this
  have e : ((fun d : D => match d with | .int i => i.toNat | _ => 0) ∘ fun n : Nat => (.int (n : Nat) : D)) = id := funext fun n => by show ((n : Nat) : Int).toNat = n; omega
  rwa [e, List.map_id, List.map_id] at this
theorem keyS (s : OS) : KeyOk (encS s) := by
  refine ⟨?_, ?_⟩
  · show (keyDs (encN s.b.s0) && (keyDs (encN s.b.s1) && (keyDs (encN s.b.mem) && (true && (true && true))))) = true
    rw [keyDs_encN, keyDs_encN, keyDs_encN]; rfl
  · show max (NestedKey.depthAll (nks (encN s.b.s0)) + 1) (max (NestedKey.depthAll (nks (encN s.b.s1)) + 1) (max (NestedKey.depthAll (nks (encN s.b.mem)) + 1) (max 0 (max 0 0)))) + 1 ≤ 8
    rw [depth_encN, depth_encN, depth_encN]; decide
theorem keyO (b : BN) : KeyOk (encO b) := by
  refine ⟨?_, ?_⟩
  · show (keyDs (encN b.s0) && (keyDs (encN b.s1) && (keyDs (encN b.mem) && true))) = true
    rw [keyDs_encN, keyDs_encN, keyDs_encN]; rfl
  · show max (NestedKey.depthAll (nks (encN b.s0)) + 1) (max (NestedKey.depthAll (nks (encN b.s1)) + 1) (max (NestedKey.depthAll (nks (encN b.mem)) + 1) 0)) + 1 ≤ 8
    rw [depth_encN, depth_encN, depth_encN]; decide
theorem tuple_inj {a b : List D} (h : (.tuple a : D) = .tuple b) : a = b := by injection h
theorem encO_inj {a b : BN} (h : encO a = encO b) : a = b := by
  have h := tuple_inj h
  obtain ⟨h1, h⟩ := List.cons.inj h
  obtain ⟨h2, h⟩ := List.cons.inj h
  obtain ⟨h3, _⟩ := List.cons.inj h
  have e1 := encN_inj (tuple_inj h1)
  have e2 := encN_inj (tuple_inj h2)
  have e3 := encN_inj (tuple_inj h3)
  cases a; cases b
  simp only at e1 e2 e3
  rw [e1, e2, e3]
theorem encS_inj {a b : OS} (h : encS a = encS b) : a = b := by
  have h := tuple_inj h
  obtain ⟨h1, h⟩ := List.cons.inj h
  obtain ⟨h2, h⟩ := List.cons.inj h
  obtain ⟨h3, h⟩ := List.cons.inj h
  obtain ⟨h4, h⟩ := List.cons.inj h
  obtain ⟨h5, _⟩ := List.cons.inj h
  have eb : a.b = b.b := encO_inj (by unfold encO; rw [h1, h2, h3])
  have h4 : ((a.i : Nat) : Int) = (b.i : Nat) := by injection h4
  have h5 : ((a.j : Nat) : Int) = (b.j : Nat) := by injection h5
  have h4 : a.i = b.i := by omega
  have h5 : a.j = b.j := by omega
  cases a; cases b
  simp only at eb h4 h5
  rw [eb, h4, h5]
theorem nkS {a b : OS} : nk (encS a) = nk (encS b) ↔ a = b := ⟨fun h => encS_inj (nk_inj _ _ (keyS a).1 (keyS b).1 h), fun h => by rw [h]⟩
theorem nkO {a b : BN} : nk (encO a) = nk (encO b) ↔ a = b := ⟨fun h => encO_inj (nk_inj _ _ (keyO a).1 (keyO b).1 h), fun h => by rw [h]⟩
/-! tables as data -/
section
variable {κ β : Type} [DecidableEq κ] {e : κ → D} {g : β → D} (he : ∀ a b, nk (e a) = nk (e b) ↔ a = b)
include he
theorem lkN_enc (k : κ) : ∀ l : List (κ × β), lkN (l.map fun p => (e p.1, g p.2)) (e k) = (lkA l k).map g
  | [] => rfl
  | p :: l => by
    rw [List.map_cons]
    by_cases h : p.1 = k
    · rw [lkA_pos h, lkN_pos ((he _ _).mpr h)]; rfl
    · rw [lkA_neg h, lkN_neg (fun z => h ((he _ _).mp z)), lkN_enc k l]
theorem putN_enc (k : κ) (v : β) (l : List (κ × β)) : putN (l.map fun p => (e p.1, g p.2)) (e k) (g v) = (putA l k v).map fun p => (e p.1, g p.2) := by
  unfold putN putA
  rw [lkN_enc he, Option.isSome_map]
  by_cases h : (lkA l k).isSome = true
  · rw [if_pos h, if_pos h, List.map_map, List.map_map]
    refine List.map_congr_left fun p _ => ?_
    show (if nk (e p.1) = nk (e k) then (e p.1, g v) else (e p.1, g p.2)) = (e (if p.1 = k then (p.1, v) else p).1, g (if p.1 = k then (p.1, v) else p).2)
    by_cases z : p.1 = k
    · rw [if_pos ((he _ _).mpr z), if_pos z]
    · rw [if_neg (fun q => z ((he _ _).mp q)), if_neg z]
  · rw [if_neg h, if_neg h, List.map_append]; rfl
end
def ordD (os : List Bool) : D := .str (ordS os)
def encL (l : List (OS × List Bool)) : List (D × D) := l.map fun p => (encS p.1, ordD p.2)
def encK (l : List (BN × List Bool)) : List (D × D) := l.map fun p => (encO p.1, ordD p.2)
theorem encL_len (l : List (OS × List Bool)) : (encL l).length = l.length := List.length_map _
theorem encL_keys (l : List (OS × List Bool)) : (encL l).map (·.1) = l.map fun p => encS p.1 := by unfold encL; rw [List.map_map]; rfl

/-! ### step_of -/
def t_step_of (K : PySem.W.Frag) (A : Ad) : TS :=
  (tSeq (tAsg (tCB (rIntA) (tCons (tOp (rEqD K) (tVar 3) (tC (.str "r"))) tNil)) (gName 4))
    (tSeq (tAsg (tOp (rIx K) (tVar 0) (tOp (rAddA K) (tC (.int 3)) (tVar 4))) (gName 5))
    (tSeq (tIfS (tTest (tOp (rEqD K) (tVar 5) (tCB (rLenA K) (tCons (tOp (rIx K) (tTup (tCons (tVar 1) (tCons (tVar 2) tNil))) (tVar 4)) tNil)))) (tRet (tC .non)) tNext)
    (tSeq (tAsg (tMake A.aBench (sp_Bench_init K A) [] E0 (tCons (tOp (rIx K) (tVar 0) (tC (.int 2))) tNil)) (gName 6))
    (tSeq (tDrop (tMeth A.aBench "do" (sp_Bench_do K A) [] E0 (tVar 6) (tCons (tVar 4) (tCons (tOp (rIx K) (tOp (rIx K) (tTup (tCons (tVar 1) (tCons (tVar 2) tNil))) (tVar 4)) (tVar 5)) tNil))))
    (tSeq (tAsg (tLst (tCons (tOp (rAddA K) (tOp (rIx K) (tVar 0) (tC (.int 0))) (tCB (rTupleA K) (tCons (tOp (rIx K) (tFld K (tVar 6) "seen") (tC (.int 0))) tNil))) (tCons (tOp (rAddA K) (tOp (rIx K) (tVar 0) (tC (.int 1))) (tCB (rTupleA K) (tCons (tOp (rIx K) (tFld K (tVar 6) "seen") (tC (.int 1))) tNil))) tNil))) (gName 7))
    (tRet (tTup (tCons (tOp (rIx K) (tVar 7) (tC (.int 0))) (tCons (tOp (rIx K) (tVar 7) (tC (.int 1))) (tCons (tCB (rTupleA K) (tCons (tFld K (tVar 6) "memory") tNil)) (tCons (tOp rSubA (tOp (rAddA K) (tOp (rIx K) (tVar 0) (tC (.int 3))) (tC (.int 1))) (tVar 4)) (tCons (tOp (rAddA K) (tOp (rIx K) (tVar 0) (tC (.int 4))) (tVar 4)) tNil)))))))))))))
def stepRel (ds : List D) (x : D) : Prop := ∃ (s : OS) (l r : List Deed) (o : Bool), ds = [encS s, encP l, encP r, .str (one (sgn o))] ∧ GoodP s.b.mem.length l ∧ GoodP s.b.mem.length r ∧ s.i ≤ l.length ∧ s.j ≤ r.length ∧ s.b.Low 1000 ∧ x = if stuck l r s o = true then .none else encS (OS.step l r s o)
def sp_step_of (K : PySem.W.Frag) (A : Ad) : Sp := datSp K stepRel
/-- what is seen of one deed by a bench whose lists are empty -/
theorem act_new (b : BN) (door : Nat) (d : Deed) : (b.act door d).s0 = b.s0 ++ ((⟨b.mem, [], []⟩ : BN).act door d).s0 ∧ (b.act door d).s1 = b.s1 ++ ((⟨b.mem, [], []⟩ : BN).act door d).s1 ∧ (b.act door d).mem = ((⟨b.mem, [], []⟩ : BN).act door d).mem := by
  cases d with
  | rest => simp [BN.act]
  | read c =>
    unfold BN.act BN.see
    by_cases h : door = 0 <;> simp [h]
  | write c w => simp [BN.act]
theorem encN_cat (a b : List Nat) : encN a ++ encN b = encN (a ++ b) := by unfold encN; rw [List.map_append]
theorem rd_step_of {C : Cc} {A : Ad} {s : OS} {l r : List Deed} {o : Bool} (B : BenchOk C.K A) (hl : GoodP s.b.mem.length l) (hr : GoodP s.b.mem.length r) (hi : s.i ≤ l.length) (hj : s.j ≤ r.length) (low : s.b.Low 1000) :
    Ex C (t_step_of C.K A) [.d (encS s), .d (encP l), .d (encP r), .d (.str (one (sgn o))), .no, .no, .no, .no] (retD (if stuck l r s o = true then .none else encS (OS.step l r s o))) := by
  have lowE : (⟨s.b.mem, [], []⟩ : BN).Low 1 := ⟨Nat.zero_le _, Nat.zero_le _⟩
  have low0 : (⟨s.b.mem, [], []⟩ : BN).Low lowN := lowE.up (by decide)
  refine ex_seq (ex_set (door_int (ev_var rfl)) ?_)
  cases o with
  | false =>
    have eL : PD C (tCB (rLenA C.K) (tCons (tOp (rIx C.K) (tTup (tCons (tVar 1) (tCons (tVar 2) tNil))) (tVar 4)) tNil)) [.d (encS s), .d (encP l), .d (encP r), .d (.str (one (sgn false))), .d (.int 0), .d (.int (s.i : Nat)), .no, .no] (.int (l.length : Nat)) :=
      ev_is (ev_call (ea_one (ev_op (ev_tup (ea_two (ev_var rfl) (ev_var rfl))) (ev_var rfl) (o2_ixT (atI_nat (j := 0) rfl)))) (on_lenL (ds := encs l))) (by rw [encs_len])
    refine ex_seq (ex_set (s := .d (.int (s.i : Nat))) (ev_op (ev_var rfl) (ev_is (y := .int ((3 : Nat) : Int)) (ev_op ev_int (ev_var rfl) o2_addI) rfl) (o2_ixT (atI_nat (j := 3) rfl))) ?_)
    refine ex_seq (ex_ifp (b := decide (s.i = l.length)) (et_test (ev_is (ev_eqI (ev_var rfl) eL) (by congr 1; rw [Bool.eq_iff_iff]; simp; omega))) (fun e => ?_) fun e => ex_next ?_)
    · exact ex_ret (ef_d ev_non (by show Sl.d PyData.none = _; rw [if_pos (show stuck l r s false = true from e)]))
    have hn : s.i < l.length := by have := of_decide_eq_false e; omega
    have es : (if stuck l r s false = true then PyData.none else encS (OS.step l r s false)) = encS (OS.step l r s false) := if_neg (by rw [show stuck l r s false = false from e]; exact fun z => nomatch z)
    rw [es]
    refine ex_seq (ex_asg (ef_bench (mem := s.b.mem) (ev_op (ev_var rfl) ev_int (o2_ixT (atI_nat (j := 2) rfl))) fun h => ?_))
    refine ex_seq (ex_drop (ef_do (door := 0) (d := deedAt l s.i) rfl (ev_var rfl) (ev_op (ev_op (ev_tup (ea_two (ev_var rfl) (ev_var rfl))) (ev_var rfl) (o2_ixT (atI_nat (j := 0) rfl))) (ev_var rfl) (o2_ixL (encs_atI hn))) (by decide) (deedAt_good hl _) low0 ?_))
    obtain ⟨a0, a1, a2⟩ := act_new s.b 0 (deedAt l s.i)
    have lw := BN.act_low lowE 0 (deedAt l s.i)
    generalize hb : (⟨s.b.mem, [], []⟩ : BN).act 0 (deedAt l s.i) = b1 at a0 a1 a2 lw ⊢
    refine ex_seq (ex_set (s := .d (.list [.tuple (encN (s.b.s0 ++ b1.s0)), .tuple (encN (s.b.s1 ++ b1.s1))])) (ev_lst (ea_two (ev_is (ev_op (ev_op (ev_var rfl) ev_int (o2_ixT (atI_nat (j := 0) rfl))) (ev_tupOf (lr_seen0 B rfl ev_int)) (o2_addT ?_)) (by rw [encN_cat])) (ev_is (ev_op (ev_op (ev_var rfl) ev_int (o2_ixT (atI_nat (j := 1) rfl))) (ev_tupOf (lr_seen1 B rfl ev_int)) (o2_addT ?_)) (by rw [encN_cat])))) ?_)
    · rw [encN_len', encN_len']; have := low.1; have := lw.1; omega
    · rw [encN_len', encN_len']; have := low.2; have := lw.2; omega
    refine ex_ret (ef_d (ev_is (ev_tup (ea_cons (ev_op (ev_var rfl) ev_int (o2_ixL (atI_nat (j := 0) rfl))) (ea_cons (ev_op (ev_var rfl) ev_int (o2_ixL (atI_nat (j := 1) rfl))) (ea_cons (ev_tupOf (lr_mem B rfl)) (ea_two (ev_is (y := .int ((s.i + 1 : Nat) : Int)) (ev_op (ev_op (ev_op (ev_var rfl) ev_int (o2_ixT (atI_nat (j := 3) rfl))) ev_int o2_addI) (ev_var rfl) o2_subI) (congrArg PyData.int (by simp))) (ev_is (y := .int ((s.j : Nat) : Int)) (ev_op (ev_op (ev_var rfl) ev_int (o2_ixT (atI_nat (j := 4) rfl))) (ev_var rfl) o2_addI) (by congr 1))))))) ?_) rfl)
    show PyData.tuple _ = PyData.tuple [.tuple (encN (s.b.act 0 (deedAt l s.i)).s0), .tuple (encN (s.b.act 0 (deedAt l s.i)).s1), .tuple (encN (s.b.act 0 (deedAt l s.i)).mem), .int ((s.i + 1 : Nat) : Int), .int ((s.j : Nat) : Int)]
    rw [a0, a1, a2]
  | true =>
    have eL : PD C (tCB (rLenA C.K) (tCons (tOp (rIx C.K) (tTup (tCons (tVar 1) (tCons (tVar 2) tNil))) (tVar 4)) tNil)) [.d (encS s), .d (encP l), .d (encP r), .d (.str (one (sgn true))), .d (.int 1), .d (.int (s.j : Nat)), .no, .no] (.int (r.length : Nat)) :=
      ev_is (ev_call (ea_one (ev_op (ev_tup (ea_two (ev_var rfl) (ev_var rfl))) (ev_var rfl) (o2_ixT (atI_nat (j := 1) rfl)))) (on_lenL (ds := encs r))) (by rw [encs_len])
    refine ex_seq (ex_set (s := .d (.int (s.j : Nat))) (ev_op (ev_var rfl) (ev_is (y := .int ((4 : Nat) : Int)) (ev_op ev_int (ev_var rfl) o2_addI) rfl) (o2_ixT (atI_nat (j := 4) rfl))) ?_)
    refine ex_seq (ex_ifp (b := decide (s.j = r.length)) (et_test (ev_is (ev_eqI (ev_var rfl) eL) (by congr 1; rw [Bool.eq_iff_iff]; simp; omega))) (fun e => ?_) fun e => ex_next ?_)
    · exact ex_ret (ef_d ev_non (by show Sl.d PyData.none = _; rw [if_pos (show stuck l r s true = true from e)]))
    have hn : s.j < r.length := by have := of_decide_eq_false e; omega
    have es : (if stuck l r s true = true then PyData.none else encS (OS.step l r s true)) = encS (OS.step l r s true) := if_neg (by rw [show stuck l r s true = false from e]; exact fun z => nomatch z)
    rw [es]
    refine ex_seq (ex_asg (ef_bench (mem := s.b.mem) (ev_op (ev_var rfl) ev_int (o2_ixT (atI_nat (j := 2) rfl))) fun h => ?_))
    refine ex_seq (ex_drop (ef_do (door := 1) (d := deedAt r s.j) rfl (ev_var rfl) (ev_op (ev_op (ev_tup (ea_two (ev_var rfl) (ev_var rfl))) (ev_var rfl) (o2_ixT (atI_nat (j := 1) rfl))) (ev_var rfl) (o2_ixL (encs_atI hn))) (by decide) (deedAt_good hr _) low0 ?_))
    obtain ⟨a0, a1, a2⟩ := act_new s.b 1 (deedAt r s.j)
    have lw := BN.act_low lowE 1 (deedAt r s.j)
    generalize hb : (⟨s.b.mem, [], []⟩ : BN).act 1 (deedAt r s.j) = b1 at a0 a1 a2 lw ⊢
    refine ex_seq (ex_set (s := .d (.list [.tuple (encN (s.b.s0 ++ b1.s0)), .tuple (encN (s.b.s1 ++ b1.s1))])) (ev_lst (ea_two (ev_is (ev_op (ev_op (ev_var rfl) ev_int (o2_ixT (atI_nat (j := 0) rfl))) (ev_tupOf (lr_seen0 B rfl ev_int)) (o2_addT ?_)) (by rw [encN_cat])) (ev_is (ev_op (ev_op (ev_var rfl) ev_int (o2_ixT (atI_nat (j := 1) rfl))) (ev_tupOf (lr_seen1 B rfl ev_int)) (o2_addT ?_)) (by rw [encN_cat])))) ?_)
    · rw [encN_len', encN_len']; have := low.1; have := lw.1; omega
    · rw [encN_len', encN_len']; have := low.2; have := lw.2; omega
    refine ex_ret (ef_d (ev_is (ev_tup (ea_cons (ev_op (ev_var rfl) ev_int (o2_ixL (atI_nat (j := 0) rfl))) (ea_cons (ev_op (ev_var rfl) ev_int (o2_ixL (atI_nat (j := 1) rfl))) (ea_cons (ev_tupOf (lr_mem B rfl)) (ea_two (ev_is (y := .int ((s.i : Nat) : Int)) (ev_op (ev_op (ev_op (ev_var rfl) ev_int (o2_ixT (atI_nat (j := 3) rfl))) ev_int o2_addI) (ev_var rfl) o2_subI) (congrArg PyData.int (by simp))) (ev_is (y := .int ((s.j + 1 : Nat) : Int)) (ev_op (ev_op (ev_var rfl) ev_int (o2_ixT (atI_nat (j := 4) rfl))) (ev_var rfl) o2_addI) (by congr 1))))))) ?_) rfl)
    show PyData.tuple _ = PyData.tuple [.tuple (encN (s.b.act 1 (deedAt r s.j)).s0), .tuple (encN (s.b.act 1 (deedAt r s.j)).s1), .tuple (encN (s.b.act 1 (deedAt r s.j)).mem), .int ((s.i : Nat) : Int), .int ((s.j + 1 : Nat) : Int)]
    rw [a0, a1, a2]
end DL
set_option Elab.async false
set_option linter.all false
set_option maxRecDepth 100000
set_option maxHeartbeats 4000000
/-! FF: known_by, need_few, need_tried, explained, outcomes. -/
namespace DL
open PySem PySem.Spec L2

def t_known_by (K : PySem.W.Frag) (A : Ad) : TS :=
  (tSeq (tAsg (tNDisp K (tTup (tCons (tTup tNil) (tCons (tTup tNil) (tCons (tCB (rTupleA K) (tCons (tVar 0) tNil)) (tCons (tC (.int 0)) (tCons (tC (.int 0)) tNil)))))) (tC (.str ""))) (gName 3))
    (tSeq (tFor (iRng1 (tCons (tOp (rAddA K) (tCB (rLenA K) (tCons (tVar 1) tNil)) (tCB (rLenA K) (tCons (tVar 2) tNil))) tNil)) (gName 4) (tSeq (tAsg tNNew (gName 5))
    (tSeq (tFor (iNKeys (tVar 3)) (gName 6) (tFor (iTup K (tTup (tCons (tC (.str "l")) (tCons (tC (.str "r")) tNil)))) (gName 7) (tSeq (tAsg (tUser (sp_step_of K A) (tCons (tVar 6) (tCons (tVar 1) (tCons (tVar 2) (tCons (tVar 7) tNil))))) (gName 8))
    (tIfS (tAnd (tTest (tOp rNotNA (tVar 8) (tC .non))) (tTest (tOp rLtA (tOp (rAddA K) (tNGet K (tVar 3) (tVar 6)) (tVar 7)) (tNGet2 K (tVar 5) (tVar 8) (tC (.str "s")))))) (sNPut K (tVar 5) (tVar 8) (tOp (rAddA K) (tNGet K (tVar 3) (tVar 6)) (tVar 7))) tNext))))
    (tAsg (tVar 5) (gName 3)))))
    (tRet (tCB (rDictN K) (tCons (tLc (iNKeys (tVar 3)) (gName 6) tYes (tTup (tCons (tSl (rSlX K) (tVar 6) tNoPart (tPart (tC (.int 3)))) (tCons (tNGet K (tVar 3) (tVar 6)) tNil))) [6]) tNil)))))
def kbRel (K : PySem.W.Frag) (ds : List D) (S : Sl → Prop) : Prop := ∃ (mem : List Nat) (l r : List Deed), ds = [.tuple (encN mem), encP l, encP r] ∧ GoodP mem.length l ∧ GoodP mem.length r ∧ l.length ≤ 6 ∧ r.length ≤ 6 ∧ S = fun s => s = .ow (Res.dctF K (encK (known mem l r)))
def sp_known_by (K : PySem.W.Frag) (A : Ad) : Sp := pureSp K (kbRel K)
theorem ordS_ne (os : List Bool) (o : Bool) : (ordS (os ++ [o])).cps.toList < ("s" : Str).cps.toList := by
  have e : ("s" : Str).cps.toList = [115] := by decide +kernel
  rw [e, ordS_list]
  cases os with
  | nil =>
    show [sgn o] < [115]
    rw [List.cons_lt_cons_iff]
    left
    cases o <;> decide
  | cons b os =>
    show sgn b :: _ < [115]
    rw [List.cons_lt_cons_iff]
    left
    cases b <;> decide
theorem ltO_ordS (a b : List Bool) : decide ((ordS a).cps.toList < (ordS b).cps.toList) = ltO a b := by rw [ordS_list, ordS_list]; rfl
theorem itemS {lev : List (OS × List Bool)} {k : Nat} (h : k < lev.length) : itemOf ((encL lev).map (·.1)) k = encS lev[k].1 := itemOf_some (by
  rw [encL_keys, List.getElem?_map, List.getElem?_eq_getElem h]; rfl)
theorem lev_at {lev : List (OS × List Bool)} (nd : (lev.map (·.1)).Nodup) {k : Nat} (h : k < lev.length) : lkN (encL lev) (encS lev[k].1) = some (ordD lev[k].2) := by
  unfold encL
  rw [lkN_enc (fun _ _ => nkS), lkA_of nd (show (lev[k].1, lev[k].2) ∈ lev from List.getElem_mem h)]; rfl
section
variable {C : Cc} {A : Ad} {mem : List Nat} {l r : List Deed}
/-- one sign tried at one state -/
theorem ex_try {lev acc : List (OS × List Bool)} {k : Nat} {o : Bool} {x4 s8 : Sl} {P : Po} (nd : (lev.map (·.1)).Nodup) (hk : k < lev.length) (gl : GoodP lev[k].1.b.mem.length l) (gr : GoodP lev[k].1.b.mem.length r) (hi : lev[k].1.i ≤ l.length) (hj : lev[k].1.j ≤ r.length) (low : lev[k].1.b.Low 1000)
    (ho : lev[k].2.length ≤ 1000) (ha : acc.length ≤ 100000)
    (p : ∀ s, P.nx [.d (.tuple (encN mem)), .d (encP l), .d (encP r), .ow (.dctF C.K (encL lev)), x4, .ow (.dct C.K (encL (turn l r acc lev[k] o))), .d (encS lev[k].1), .d (.str (one (sgn o))), s]) :
    Ex C (tSeq (tAsg (tUser (sp_step_of C.K A) (tCons (tVar 6) (tCons (tVar 1) (tCons (tVar 2) (tCons (tVar 7) tNil))))) (gName 8))
    (tIfS (tAnd (tTest (tOp rNotNA (tVar 8) (tC .non))) (tTest (tOp rLtA (tOp (rAddA C.K) (tNGet C.K (tVar 3) (tVar 6)) (tVar 7)) (tNGet2 C.K (tVar 5) (tVar 8) (tC (.str "s")))))) (sNPut C.K (tVar 5) (tVar 8) (tOp (rAddA C.K) (tNGet C.K (tVar 3) (tVar 6)) (tVar 7))) tNext))
      [.d (.tuple (encN mem)), .d (encP l), .d (encP r), .ow (.dctF C.K (encL lev)), x4, .ow (.dct C.K (encL acc)), .d (encS lev[k].1), .d (.str (one (sgn o))), s8] P := by
  refine ex_seq (ex_set (ev_dat (f := stepRel) (ea_cons (ev_var rfl) (ea_cons (ev_var rfl) (ea_two (ev_var rfl) (ev_var rfl)))) ⟨lev[k].1, l, r, o, rfl, gl, gr, hi, hj, low, rfl⟩) ?_)
  cases hs : stuck l r lev[k].1 o with
  | true =>
    rw [if_pos rfl]
    refine ex_ifp (b := false) (et_is (et_and (b := false) (c := true) (et_test (ev_is (ev_op (ev_var rfl) ev_non o2_notN) rfl)) fun z => nomatch z) rfl) (fun z => nomatch z) fun _ => ex_next ?_
    have : turn l r acc lev[k] o = acc := by unfold turn; rw [if_pos hs]
    rw [this] at p
    exact p _
  | false =>
    rw [if_neg (fun z => nomatch z)]
    have et : turn l r acc lev[k] o = offer acc (OS.step l r lev[k].1 o) (lev[k].2 ++ [o]) := by unfold turn; rw [if_neg (by rw [hs]; exact fun z => nomatch z)]
    rw [et] at p
    generalize hS : OS.step l r lev[k].1 o = S at p ⊢
    have word : ∀ {x5 s : Sl}, PD C (tOp (rAddA C.K) (tNGet C.K (tVar 3) (tVar 6)) (tVar 7)) [.d (.tuple (encN mem)), .d (encP l), .d (encP r), .ow (.dctF C.K (encL lev)), x4, x5, .d (encS lev[k].1), .d (.str (one (sgn o))), s] (ordD (lev[k].2 ++ [o])) := fun {x5 s} =>
      ev_is (ev_op (x := .str (ordS lev[k].2)) (ev_nget (vd_of (vf_var rfl)) (ev_var rfl) (keyS _) (lev_at nd hk)) (ev_var rfl) (o2_addS (by rw [ordS_len]; show _ + 1 ≤ _; omega))) (by rw [ordS_one, ordS_app]; rfl)
    have old : PD C (tNGet2 C.K (tVar 5) (tVar 8) (tC (.str "s"))) [.d (.tuple (encN mem)), .d (encP l), .d (encP r), .ow (.dctF C.K (encL lev)), x4, .ow (.dct C.K (encL acc)), .d (encS lev[k].1), .d (.str (one (sgn o))), .d (encS S)] (((lkA acc S).map ordD).getD (.str "s")) :=
      ev_nget2 (vd_var rfl) (ev_var rfl) ev_str (keyS _) (by show (lkN (encL acc) (encS S)).getD _ = _; unfold encL; rw [lkN_enc (fun _ _ => nkS)])
    have test : PD C (tOp rLtA (tOp (rAddA C.K) (tNGet C.K (tVar 3) (tVar 6)) (tVar 7)) (tNGet2 C.K (tVar 5) (tVar 8) (tC (.str "s")))) [.d (.tuple (encN mem)), .d (encP l), .d (encP r), .ow (.dctF C.K (encL lev)), x4, .ow (.dct C.K (encL acc)), .d (encS lev[k].1), .d (.str (one (sgn o))), .d (encS S)]
        (.bool (less (lev[k].2 ++ [o]) (lkA acc S))) := by
      cases hl : lkA acc S with
      | none =>
        rw [hl] at old
        exact ev_is (ev_op word old o2_ltS) (by rw [decide_eq_true (ordS_ne _ _)]; rfl)
      | some v =>
        rw [hl] at old
        exact ev_is (ev_op word old o2_ltS) (by rw [ltO_ordS]; rfl)
    refine ex_ifp (et_and (b := true) (et_test (ev_is (ev_op (ev_var rfl) ev_non o2_notN) rfl)) fun _ => et_test test) (fun e => ?_) fun e => ex_next ?_
    · rw [Bool.true_and] at e
      refine ex_nput rfl word (ev_var rfl) (keyS _) (by rw [encL_len]; omega) ?_
      have eo : offer acc S (lev[k].2 ++ [o]) = putA acc S (lev[k].2 ++ [o]) := by unfold offer; exact if_pos e
      rw [eo] at p
      have ep : putN (encL acc) (encS S) (ordD (lev[k].2 ++ [o])) = encL (putA acc S (lev[k].2 ++ [o])) := putN_enc (fun _ _ => nkS) S _ acc
      show P.nx [_, _, _, _, _, .ow (.dct C.K (putN (encL acc) (encS S) (ordD (lev[k].2 ++ [o])))), _, _, _]
      rw [ep]
      exact p _
    · rw [Bool.true_and] at e
      have eo : offer acc S (lev[k].2 ++ [o]) = acc := by unfold offer; exact if_neg (by rw [e]; exact fun z => nomatch z)
      rw [eo] at p
      exact p _
theorem fold_take {lev : List (OS × List Bool)} {k : Nat} (h : k < lev.length) : (lev.take (k + 1)).foldl (fun acc p => turn l r (turn l r acc p false) p true) [] = turn l r (turn l r ((lev.take k).foldl (fun acc p => turn l r (turn l r acc p false) p true) []) lev[k] false) lev[k] true := by
  rw [List.take_succ_eq_append_getElem h, List.foldl_append]; rfl
theorem rd_known_by (hl : GoodP mem.length l) (hr : GoodP mem.length r) (l6 : l.length ≤ 6) (r6 : r.length ≤ 6) : Ex C (t_known_by C.K A) [.d (.tuple (encN mem)), .d (encP l), .d (encP r), .no, .no, .no, .no, .no, .no]
    { nx := fun _ => (Sl.d .none) = .ow (Res.dctF C.K (encK (known mem l r))), rt := fun s _ => s = .ow (Res.dctF C.K (encK (known mem l r))) } := by
  refine ex_seq (ex_set (s := .ow (.dctF C.K (encL (levels mem l r 0)))) (ev_ndisp (ds := [.tuple [], .tuple [], .tuple (encN mem), .int 0, .int 0]) (x := ordD []) (ev_tup (ea_cons (ev_tup ea_nil) (ea_cons (ev_tup ea_nil) (ea_cons (ev_call (ea_one (ev_var rfl)) on_tupleT) (ea_two ev_int ev_int))))) (ev_is ev_str (congrArg PyData.str ordS_nil)) (keyS ⟨⟨mem, [], []⟩, 0, 0⟩)) ?_)
  have hlev : ∀ t, t ≤ 12 → (levels mem l r t).length ≤ 4096 := fun t ht => by
    have h1 := levels_len (mem := mem) (l := l) (r := r) t
    have h3 : 2 ^ t ≤ 2 ^ 12 := Nat.pow_le_pow_right (by decide) ht
    have h4 : (2 : Nat) ^ 12 = 4096 := by decide
    omega
  refine ex_seq (ex_for (ei_p (pi_r1 (j := ((l.length + r.length : Nat) : Int)) (ea_one (ev_is (ev_op (ev_call (ea_one (ev_var rfl)) (on_lenL (ds := encs l))) (ev_call (ea_one (ev_var rfl)) (on_lenL (ds := encs r))) o2_addI) (by rw [encs_len, encs_len]; congr 1))) (by omega)) ⟨fun t ρ => ∃ s4 s5 s6 s7 s8, ρ = [.d (.tuple (encN mem)), .d (encP l), .d (encP r), .ow (.dctF C.K (encL (levels mem l r t))), s4, s5, s6, s7, s8], ⟨_, _, _, _, _, rfl⟩, fun t ρ ht ⟨s4, s5, s6, s7, s8, e⟩ => ?_, fun ρ ⟨s4, s5, s6, s7, s8, e⟩ => ?_⟩))
  · subst e
    have ht : t < l.length + r.length := by omega
    have ok := levels_ok (mem := mem) (l := l) (r := r) t
    have hn := hlev t (by omega)
    have facts : ∀ k (hk : k < (levels mem l r t).length), (levels mem l r t)[k].1 = ordTo mem l r (levels mem l r t)[k].2 ∧ Part l r t (levels mem l r t)[k].2 := fun k hk => ⟨(ok.own _ (List.getElem_mem hk)).2.1, (ok.own _ (List.getElem_mem hk)).1⟩
    have enext : levels mem l r (t + 1) = nextL l r (levels mem l r t) := rfl
    generalize levels mem l r t = lev at ok hn facts enext ⊢
    refine eg_name (ex_seq (ex_set (s := .ow (.dct C.K (encL []))) ev_nnew ?_))
    refine ex_seq (ex_for (ei_p (pi_n (vf_var rfl)) ⟨fun k ρ => ∃ s6 s7 s8, ρ = [.d (.tuple (encN mem)), .d (encP l), .d (encP r), .ow (.dctF C.K (encL lev)), .d (.int (t : Nat)), .ow (.dct C.K (encL ((lev.take k).foldl (fun acc p => turn l r (turn l r acc p false) p true) []))), s6, s7, s8], ⟨_, _, _, rfl⟩, fun k ρ hk ⟨s6, s7, s8, e⟩ => ?_, fun ρ ⟨s6, s7, s8, e⟩ => ?_⟩))
    · subst e
      rw [encL_len] at hk
      rw [itemS hk]
      have ft := fold_take (l := l) (r := r) hk
      have hacc := nextL_len (l := l) (r := r) (lev.take k) []
      rw [List.length_nil, List.length_take] at hacc
      generalize (lev.take k).foldl (fun acc p => turn l r (turn l r acc p false) p true) [] = acc at hacc ft ⊢
      obtain ⟨f1, f2, f3, f4⟩ := facts k hk
      have em : lev[k].1.b.mem.length = mem.length := by rw [f1, ordTo_mem]
      have ei : lev[k].1.i ≤ l.length := by rw [f1, ordTo_i]; exact f3
      have ej : lev[k].1.j ≤ r.length := by rw [f1, ordTo_j]; exact f4
      have elow : lev[k].1.b.Low 1000 := by rw [f1]; exact (ordTo_low mem l r _).up (by omega)
      have tl := turn_len (l := l) (r := r) acc lev[k] false
      refine eg_name (ex_for (ei_p (pi_t (ds := [.str (one (sgn false)), .str (one (sgn true))]) (ev_tup (ea_two ev_l ev_r))) ⟨fun m ρ => ∃ s7 s8, ρ = [.d (.tuple (encN mem)), .d (encP l), .d (encP r), .ow (.dctF C.K (encL lev)), .d (.int (t : Nat)), .ow (.dct C.K (encL (if m = 0 then acc else if m = 1 then turn l r acc lev[k] false else turn l r (turn l r acc lev[k] false) lev[k] true))), .d (encS lev[k].1), s7, s8], ⟨_, _, rfl⟩, fun m ρ hm ⟨s7, s8, e⟩ => ?_, fun ρ ⟨s7, s8, e⟩ => ?_⟩))
      · subst e
        have hm : m < 2 := hm
        have : m = 0 ∨ m = 1 := by omega
        rcases this with e | e <;> subst e
        · exact eg_name (ex_try (A := A) ok.nd hk (by rw [em]; exact hl) (by rw [em]; exact hr) ei ej elow (by omega) (by show acc.length ≤ _; omega) fun s => ⟨_, _, rfl⟩)
        · exact eg_name (ex_try (A := A) ok.nd hk (by rw [em]; exact hl) (by rw [em]; exact hr) ei ej elow (by omega) (by show (turn l r acc lev[k] false).length ≤ _; omega) fun s => ⟨_, _, rfl⟩)
      · subst e
        exact ⟨.d (encS lev[k].1), s7, s8, by rw [ft]; rfl⟩
    · subst e
      rw [encL_len, List.take_length]
      exact ex_asg (ef_nfrz (i := 5) rfl ⟨.d (.int (t : Nat)), .ow (.dctF C.K (encL (lev.foldl (fun acc p => turn l r (turn l r acc p false) p true) []))), s6, s7, s8, by rw [enext]; rfl⟩)
  · subst e
    have e1 : ((l.length + r.length : Nat) : Int).toNat = l.length + r.length := by omega
    rw [e1]
    have hn := hlev (l.length + r.length) (by omega)
    have ok := levels_ok (mem := mem) (l := l) (r := r) (l.length + r.length)
    have knd := known_nd (mem := mem) (l := l) (r := r)
    unfold known at knd ⊢
    generalize levels mem l r (l.length + r.length) = lev at ok hn knd ⊢
    refine ex_ret (ef_p (ev_dictN (kvs := encK (lev.map fun p => (p.1.b, p.2))) (ev_lc (fun k => [.d (.tuple (encN mem)), .d (encP l), .d (encP r), .ow (.dctF C.K (encL lev)), s4, s5, .d (itemOf ((encL lev).map (·.1)) k), s7, s8]) (fun _ => true) (fun k => .tuple [encO (itemOf (lev.map fun p => (encO p.1.b : D)) k |> fun _ => (lev.getD k (⟨⟨[], [], []⟩, 0, 0⟩, [])).1.b), ordD (lev.getD k (⟨⟨[], [], []⟩, 0, 0⟩, [])).2]) (pi_n (vf_var rfl)) (by rw [encL_len]; omega) (fun k hk => gp_name (List.mem_singleton.mpr rfl)) (fun k hk => fun σ Hb H fp W Q q => q Hb H (Step.refl W.same)) (fun k hk _ => ?_) ?_) (fun p hp => ?_) ?_) rfl)
    · rw [encL_len] at hk
      rw [itemS hk, List.getD_eq_getElem?_getD, List.getElem?_eq_getElem hk]
      refine ev_tup (ea_two (ev_is (ev_sl (ev_var rfl) eo_no (eo_part (ev_int (i := ((3 : Nat) : Int)))) os_tup) ?_) (ev_nget (vd_of (vf_var rfl)) (ev_var rfl) (keyS _) (lev_at ok.nd hk)))
      rw [cut_pre]; rfl
    · have e2 : made (encL lev).length (fun _ => true) (fun k => (.tuple [encO ((fun _ => (lev.getD k (⟨⟨[], [], []⟩, 0, 0⟩, [])).1.b) (itemOf (lev.map fun p => (encO p.1.b : D)) k)), ordD (lev.getD k (⟨⟨[], [], []⟩, 0, 0⟩, [])).2] : D)) = (encK (lev.map fun p => (p.1.b, p.2))).map fun p => .tuple [p.1, p.2] := by
        rw [made_all, encL_len]
        unfold encK
        rw [List.map_map, List.map_map]
        refine List.ext_getElem (by simp) fun k h1 h2 => ?_
        have hk : k < lev.length := by simpa using h1
        simp only [List.getElem_map, List.getElem_range, Function.comp]
        rw [List.getD_eq_getElem?_getD, List.getElem?_eq_getElem hk]; rfl
      rw [e2]; exact .dat
    · unfold encK at hp
      obtain ⟨q, _, rfl⟩ := List.mem_map.mp hp
      exact ⟨keyO _, _, rfl⟩
    · unfold encK
      rw [List.map_map]
      have e3 : ((fun p : D × D => nk p.1) ∘ fun p : BN × List Bool => (encO p.1, ordD p.2)) = (fun b : BN => nk (encO b)) ∘ fun p : BN × List Bool => p.1 := rfl
      rw [e3, ← List.map_map]
      exact nodup_map_on (fun a _ b _ e => nkO.mp e) knd
end
end DL
set_option Elab.async false
set_option linter.all false
set_option maxRecDepth 100000
set_option maxHeartbeats 4000000
/-! FG: need_few, need_tried, explained, outcomes. -/
namespace DL
open PySem PySem.Spec L2 PySem.W PyProof.Rows

/-! ### outcomes in their order -/
theorem toksN : ∀ (a b : List Nat) (x y : List (Int ⊕ List Nat)), keyToksAll (encN a) ++ x = keyToksAll (encN b) ++ y → a = b ∧ x = y
  | [], [], x, y, h => by
    have h : Sum.inl 0 :: x = Sum.inl 0 :: y := h
    exact ⟨rfl, (List.cons.inj h).2⟩
  | [], n :: b, x, y, h => by
    have h : (Sum.inl 0 : Int ⊕ List Nat) :: x = Sum.inl 1 :: (keyToks (.int (n : Nat)) ++ keyToksAll (encN b) ++ y) := h
    have := (List.cons.inj h).1
    injection this with this
    exact absurd this (by decide)
  | n :: a, [], x, y, h => by
    have h : (Sum.inl 1 : Int ⊕ List Nat) :: (keyToks (.int (n : Nat)) ++ keyToksAll (encN a) ++ x) = Sum.inl 0 :: y := h
    have := (List.cons.inj h).1
    injection this with this
    exact absurd this (by decide)
  | n :: a, m :: b, x, y, h => by
    have h : (Sum.inl 1 : Int ⊕ List Nat) :: ((Sum.inl ((n : Nat) : Int) :: keyToksAll (encN a)) ++ x) = Sum.inl 1 :: ((Sum.inl ((m : Nat) : Int) :: keyToksAll (encN b)) ++ y) := h
    obtain ⟨e1, e2⟩ := List.cons.inj (List.cons.inj h).2
    obtain ⟨e3, e4⟩ := toksN a b x y e2
    have e1 : ((n : Nat) : Int) = (m : Nat) := by injection e1
    exact ⟨by rw [e3, show n = m by omega], e4⟩
theorem toksO (b : BN) : keyToks (encO b) = Sum.inl 1 :: (keyToksAll (encN b.s0) ++ (Sum.inl 1 :: (keyToksAll (encN b.s1) ++ (Sum.inl 1 :: (keyToksAll (encN b.mem) ++ [Sum.inl 0]))))) := by
  unfold encO
  simp only [keyToks, keyToksAll]
theorem dl_total {a b : BN} (h1 : dataLt (encO a) (encO b) = false) (h2 : dataLt (encO b) (encO a) = false) : a = b := by
  have h := lex_total (O := itemOrd) _ _ h1 h2
  rw [toksO, toksO] at h
  obtain ⟨e1, h⟩ := toksN _ _ _ _ (List.cons.inj h).2
  obtain ⟨e2, h⟩ := toksN _ _ _ _ (List.cons.inj h).2
  obtain ⟨e3, _⟩ := toksN _ _ _ _ (List.cons.inj h).2
  cases a; cases b
  simp only at e1 e2 e3
  rw [e1, e2, e3]
def leB (a b : BN) : Bool := !dataLt (encO b) (encO a)
theorem leB_tr (a b c : BN) (h1 : leB a b = true) (h2 : leB b c = true) : leB a c = true := by
  unfold leB at *
  cases e : dataLt (encO c) (encO a) with
  | false => rfl
  | true =>
    rcases lex_negTrans (O := itemOrd) (keyToks (encO c)) (keyToks (encO b)) (keyToks (encO a)) e with q | q
    · have q : dataLt (encO c) (encO b) = true := q
      rw [q] at h2; cases h2
    · have q : dataLt (encO b) (encO a) = true := q
      rw [q] at h1; cases h1
theorem leB_tot (a b : BN) : (leB a b || leB b a) = true := by
  unfold leB
  cases e : dataLt (encO b) (encO a) with
  | false => rfl
  | true =>
    cases e2 : dataLt (encO a) (encO b) with
    | false => rfl
    | true =>
      have := lex_trans (O := itemOrd) _ _ _ e e2
      rw [lex_irrefl] at this; cases this
def sortB (l : List BN) : List BN := l.mergeSort leB
theorem sortB_perm (l : List BN) : (sortB l).Perm l := List.mergeSort_perm _ _
theorem sortB_pair (l : List BN) : (sortB l).Pairwise fun a b => leB a b = true := List.pairwise_mergeSort leB_tr leB_tot l
theorem sortB_eq {l m : List BN} (h : l.Perm m) : sortB l = sortB m :=
  List.Perm.eq_of_pairwise (le := fun a b => leB a b = true) (fun a b _ _ h1 h2 => by
    unfold leB at h1 h2
    exact dl_total (by simpa using h2) (by simpa using h1)) (sortB_pair l) (sortB_pair m) (((sortB_perm l).trans h).trans (sortB_perm m).symm)
theorem sortB_uniq {l : List BN} {ys : List D} (hp : ys.Perm (l.map encO)) (hs : ys.Pairwise fun a b => dataLt b a = false) : ys = (sortB l).map encO := by
  have hp2 : ys.Perm ((sortB l).map encO) := hp.trans ((sortB_perm l).map encO).symm
  refine List.Perm.eq_of_pairwise (le := fun a b => dataLt b a = false) (fun a b ha hb h1 h2 => ?_) hs ?_ hp2
  · obtain ⟨c, _, rfl⟩ := List.mem_map.mp (hp2.mem_iff.mp ha)
    obtain ⟨d, _, rfl⟩ := List.mem_map.mp hb
    rw [dl_total h2 h1]
  · refine List.pairwise_map.mpr ((sortB_pair l).imp fun {a b} h => ?_)
    unfold leB at h
    simpa using h
theorem alike_encN : ∀ a b : List Nat, alikeAll (encN a) (encN b) = true
  | [], _ => by show alikeAll [] _ = true; simp only [alikeAll]
  | _ :: _, [] => by show alikeAll (_ :: _) [] = true; simp only [alikeAll]
  | n :: a, m :: b => by
    show alikeAll (.int (n : Nat) :: encN a) (.int (m : Nat) :: encN b) = true
    simp only [alikeAll, alike, alike_encN a b, Bool.and_self]
theorem alike_encO (a b : BN) : alike (encO a) (encO b) = true := by
  unfold encO
  simp only [alikeAll, alike, alike_encN, Bool.and_self]
theorem dep_encN : ∀ ns : List Nat, PyData.depthAll (encN ns) = 0
  | [] => rfl
  | n :: ns => by
    show max 0 (PyData.depthAll (encN ns)) = 0
    rw [dep_encN ns]; rfl
theorem dep_encO (b : BN) : (encO b).depth ≤ 16 := by
  show max (PyData.depthAll (encN b.s0) + 1) (max (PyData.depthAll (encN b.s1) + 1) (max (PyData.depthAll (encN b.mem) + 1) 0)) + 1 ≤ 16
  rw [dep_encN, dep_encN, dep_encN]; decide
/-- sorted of a dict of outcomes -/
theorem ev_sortO {C : Cc} {ρ : List Sl} {td : TE} {s : Sl} {l : List (BN × List Bool)} (h : VD C td ρ (encK l)) (ls : Lsl C.K ((sortB (l.map (·.1))).map encO) s) : PEv C (tCB (rSortN C.K) (tCons td tNil)) ρ s := by
  refine ev_sortN h (fun p hp => ?_) (fun p hp q hq => ?_) (fun ys h1 h2 => ?_) ls
  · obtain ⟨x, _, rfl⟩ := List.mem_map.mp hp
    exact ⟨dep_encO _, _, _, rfl⟩
  · obtain ⟨x, _, rfl⟩ := List.mem_map.mp hp
    obtain ⟨y, _, rfl⟩ := List.mem_map.mp hq
    exact alike_encO _ _
  · refine sortB_uniq ?_ h2
    have : (encK l).map (·.1) = (l.map (·.1)).map encO := by unfold encK; rw [List.map_map, List.map_map]; rfl
    rwa [this] at h1

/-! ### need_few, need_tried -/
def t_need_few (K : PySem.W.Frag) (A : Ad) : TS :=
  (tSeq (tDrop (tUser (sp_need_memory K A) (tCons (tVar 0) tNil)))
    (tDrop (tUser (sp_need_both K A) (tCons (tCB (rLenA K) (tCons (tVar 0) tNil)) (tCons (tVar 1) (tCons (tVar 2) (tCons (tC (.int 40)) tNil)))))))
def sp_need_few (K : PySem.W.Frag) (A : Ad) : Sp := datSp K fun ds x => ∃ (mem : List Nat) (l r : List Deed), ds = [.tuple (encN mem), encP l, encP r] ∧ MemOk mem ∧ GoodP mem.length l ∧ GoodP mem.length r ∧ l.length ≤ 40 ∧ r.length ≤ 40 ∧ x = .none
theorem rd_need_few {C : Cc} {A : Ad} {mem : List Nat} {l r : List Deed} (hm : MemOk mem) (hl : GoodP mem.length l) (hr : GoodP mem.length r) (l1 : l.length ≤ 40) (r1 : r.length ≤ 40) : Ex C (t_need_few C.K A) [.d (.tuple (encN mem)), .d (encP l), .d (encP r)] (retD .none) := by
  refine ex_seq (ex_drop (ef_d (ev_dat (x := .none) (ea_one (ev_var rfl)) ⟨mem, rfl, hm, rfl⟩) ?_))
  exact ex_drop (ef_d (ev_dat (x := .none) (ea_cons (ev_call (ea_one (ev_var rfl)) (on_lenT (ds := encN mem))) (ea_cons (ev_var rfl) (ea_two (ev_var rfl) (ev_int (i := ((40 : Nat) : Int)))))) ⟨mem.length, 40, l, r, by rw [encN_len'], hl, hr, l1, r1, rfl⟩) rfl)
def t_need_tried (K : PySem.W.Frag) (A : Ad) : TS :=
  (tIfS (tOr (tTest (tOp rGtA (tCB (rLenA K) (tCons (tVar 0) tNil)) (tC (.int 6)))) (tTest (tOp rGtA (tCB (rLenA K) (tCons (tVar 1) tNil)) (tC (.int 6))))) tNever tNext)
def sp_need_tried (K : PySem.W.Frag) (A : Ad) : Sp := datSp K fun ds x => ∃ l r : List Deed, ds = [encP l, encP r] ∧ l.length ≤ 6 ∧ r.length ≤ 6 ∧ x = .none
theorem rd_need_tried {C : Cc} {A : Ad} {l r : List Deed} (l1 : l.length ≤ 6) (r1 : r.length ≤ 6) : Ex C (t_need_tried C.K A) [.d (encP l), .d (encP r)] (retD .none) := by
  have e1 := encs_len l
  have e2 := encs_len r
  refine ex_ifp (b := false) (et_is (et_or (et_test (ev_op (ev_call (ea_one (ev_var rfl)) (on_lenL (ds := encs l))) ev_int o2_gtI)) fun _ => et_test (ev_op (ev_call (ea_one (ev_var rfl)) (on_lenL (ds := encs r))) ev_int o2_gtI)) ?_) (fun z => nomatch z) fun _ => ex_next rfl
  rw [decide_eq_false (by omega), decide_eq_false (by omega)]; rfl

/-! ### explained, outcomes -/
def t_explained (K : PySem.W.Frag) (A : Ad) : TS :=
  (tSeq (tDrop (tUser (sp_need_few K A) (tCons (tVar 0) (tCons (tVar 1) (tCons (tVar 2) tNil)))))
    (tSeq (tDrop (tUser (sp_need_memory K A) (tCons (tVar 5) tNil)))
    (tSeq (tIfS (tTest (tOp (rNeD K) (tCB (rLenA K) (tCons (tVar 5) tNil)) (tCB (rLenA K) (tCons (tVar 0) tNil)))) tNever tNext)
    (tSeq (tDrop (tUser (sp_need_tried K A) (tCons (tVar 1) (tCons (tVar 2) tNil))))
    (tRet (tNGet1 K (tUser (sp_known_by K A) (tCons (tVar 0) (tCons (tVar 1) (tCons (tVar 2) tNil)))) (tTup (tCons (tCB (rTupleA K) (tCons (tVar 3) tNil)) (tCons (tCB (rTupleA K) (tCons (tVar 4) tNil)) (tCons (tCB (rTupleA K) (tCons (tVar 5) tNil)) tNil))))))))))
def exD : Option (List Bool) → D
  | none => .none
  | some os => ordD os
def sp_explained (K : PySem.W.Frag) (A : Ad) : Sp := datSp K fun ds x => ∃ (mem : List Nat) (l r : List Deed) (b : BN), ds = [.tuple (encN mem), encP l, encP r, .list (encN b.s0), .list (encN b.s1), .tuple (encN b.mem)] ∧ MemOk mem ∧ MemOk b.mem ∧ b.mem.length = mem.length ∧ GoodP mem.length l ∧ GoodP mem.length r ∧ l.length ≤ 6 ∧ r.length ≤ 6 ∧ x = exD (lkA (known mem l r) b)
theorem ev_known {C : Cc} {A : Ad} {ρ : List Sl} {i j k : Nat} {mem : List Nat} {l r : List Deed} (hi : ρ[i]? = some (.d (.tuple (encN mem)))) (hj : ρ[j]? = some (.d (encP l))) (hk : ρ[k]? = some (.d (encP r))) (gl : GoodP mem.length l) (gr : GoodP mem.length r) (l1 : l.length ≤ 6) (r1 : r.length ≤ 6) :
    VDF C (tUser (sp_known_by C.K A) (tCons (tVar i) (tCons (tVar j) (tCons (tVar k) tNil)))) ρ (encK (known mem l r)) :=
  vf_ev (ev_user (rel := kbRel C.K) (ea_cons (ev_var hi) (ea_two (ev_var hj) (ev_var hk))) ⟨mem, l, r, rfl, gl, gr, l1, r1, rfl⟩ fun s' e => e)
theorem rd_explained {C : Cc} {A : Ad} {mem : List Nat} {l r : List Deed} {b : BN} (hm : MemOk mem) (hb : MemOk b.mem) (he : b.mem.length = mem.length) (hl : GoodP mem.length l) (hr : GoodP mem.length r) (l1 : l.length ≤ 6) (r1 : r.length ≤ 6) :
    Ex C (t_explained C.K A) [.d (.tuple (encN mem)), .d (encP l), .d (encP r), .d (.list (encN b.s0)), .d (.list (encN b.s1)), .d (.tuple (encN b.mem))] (retD (exD (lkA (known mem l r) b))) := by
  refine ex_seq (ex_drop (ef_d (ev_dat (x := .none) (ea_cons (ev_var rfl) (ea_two (ev_var rfl) (ev_var rfl))) ⟨mem, l, r, rfl, hm, hl, hr, by omega, by omega, rfl⟩) ?_))
  refine ex_seq (ex_drop (ef_d (ev_dat (x := .none) (ea_one (ev_var rfl)) ⟨b.mem, rfl, hb, rfl⟩) ?_))
  refine ex_seq (ex_ifp (b := false) (et_test (ev_is (ev_neI (ev_call (ea_one (ev_var rfl)) (on_lenT (ds := encN b.mem))) (ev_call (ea_one (ev_var rfl)) (on_lenT (ds := encN mem)))) (by rw [encN_len', encN_len', he, beq_self_eq_true]; rfl))) (fun z => nomatch z) fun _ => ex_next ?_)
  refine ex_seq (ex_drop (ef_d (ev_dat (x := .none) (ea_two (ev_var rfl) (ev_var rfl)) ⟨l, r, rfl, l1, r1, rfl⟩) ?_))
  refine ex_ret (ef_d (ev_nget1 (vd_of (ev_known rfl rfl rfl hl hr l1 r1)) (ev_tup (ea_cons (ev_call (ea_one (ev_var rfl)) on_tupleL) (ea_two (ev_call (ea_one (ev_var rfl)) on_tupleL) (ev_call (ea_one (ev_var rfl)) on_tupleT)))) (keyO b) ?_) rfl)
  show (lkN (encK (known mem l r)) (encO b)).getD .none = _
  unfold encK
  rw [lkN_enc (fun _ _ => nkO)]
  cases lkA (known mem l r) b <;> rfl
def t_outcomes (K : PySem.W.Frag) (A : Ad) : TS :=
  (tSeq (tDrop (tUser (sp_need_few K A) (tCons (tVar 0) (tCons (tVar 1) (tCons (tVar 2) tNil)))))
    (tSeq (tDrop (tUser (sp_need_tried K A) (tCons (tVar 1) (tCons (tVar 2) tNil))))
    (tRet (tCB (rSortN K) (tCons (tUser (sp_known_by K A) (tCons (tVar 0) (tCons (tVar 1) (tCons (tVar 2) tNil)))) tNil)))))
def outsB (mem : List Nat) (l r : List Deed) : List BN := sortB ((known mem l r).map (·.1))
def sp_outcomes (K : PySem.W.Frag) (A : Ad) : Sp := lstSp K fun ds xs => ∃ (mem : List Nat) (l r : List Deed), ds = [.tuple (encN mem), encP l, encP r] ∧ MemOk mem ∧ GoodP mem.length l ∧ GoodP mem.length r ∧ l.length ≤ 6 ∧ r.length ≤ 6 ∧ xs = (outsB mem l r).map encO
theorem rd_outcomes {C : Cc} {A : Ad} {mem : List Nat} {l r : List Deed} {s : Sl} (hm : MemOk mem) (hl : GoodP mem.length l) (hr : GoodP mem.length r) (l1 : l.length ≤ 6) (r1 : r.length ≤ 6) (ls : Lsl C.K ((outsB mem l r).map encO) s) :
    Ex C (t_outcomes C.K A) [.d (.tuple (encN mem)), .d (encP l), .d (encP r)] { nx := fun _ => (Sl.d .none) = s, rt := fun s' _ => s' = s } := by
  refine ex_seq (ex_drop (ef_d (ev_dat (x := .none) (ea_cons (ev_var rfl) (ea_two (ev_var rfl) (ev_var rfl))) ⟨mem, l, r, rfl, hm, hl, hr, by omega, by omega, rfl⟩) ?_))
  refine ex_seq (ex_drop (ef_d (ev_dat (x := .none) (ea_two (ev_var rfl) (ev_var rfl)) ⟨l, r, rfl, l1, r1, rfl⟩) ?_))
  exact ex_ret (ef_p (ev_sortO (vd_of (ev_known rfl rfl rfl hl hr l1 r1)) ls) rfl)
theorem outs_mem {mem : List Nat} {l r : List Deed} {b : BN} : b ∈ outsB mem l r ↔ ∃ os, OrdOk l r os ∧ b = ordOf mem l r os := by
  unfold outsB
  rw [(sortB_perm _).mem_iff, List.mem_map]
  constructor
  · rintro ⟨p, hp, rfl⟩
    obtain ⟨h1, h2, _⟩ := known_own hp
    exact ⟨p.2, h1, h2⟩
  · rintro ⟨os, ho, rfl⟩
    obtain ⟨p, hp, e⟩ := known_all (mem := mem) ho
    exact ⟨p, hp, e⟩
end DL
set_option Elab.async false
set_option linter.all false
set_option maxRecDepth 100000
set_option maxHeartbeats 4000000
/-! FH: a rule is an order, beat by beat: plain Lean; the law's own _law_by_beats. -/
namespace DL
open PySem PySem.Spec L2

def revB (u : Rule) (one other : Deed) : Bool := match u with
  | .right => true
  | .old => one.isWrite
  | .new => one.isRead || (one.isWrite && other.isWrite)
  | _ => false
def waitsB (u : Rule) (one other : Deed) : Bool := decide (u = .wait) && one.clash other
def partA (l : List Deed) : List Bool := if l.isEmpty then [] else [false]
def partB (u : Rule) (l r : List Deed) : List Bool := if r.isEmpty || waitsB u (l.headD .rest) (r.headD .rest) then [] else [true]
def byBeat (u : Rule) (l r : List Deed) : List Bool := if revB u (l.headD .rest) (r.headD .rest) then partB u l r ++ partA l else partA l ++ partB u l r
def byF (u : Rule) : Nat → List Deed → List Deed → List Bool
  | 0, _, _ => []
  | n + 1, l, r => if l = [] ∧ r = [] then [] else byBeat u l r ++ byF u n l.tail (if waitsB u (l.headD .rest) (r.headD .rest) then r else r.tail)
def goO (b : BN) (l r : List Deed) : List Bool → BN × List Deed × List Deed
  | [] => (b, l, r)
  | false :: os => goO (b.act 0 (l.headD .rest)) l.tail r os
  | true :: os => goO (b.act 1 (r.headD .rest)) l r.tail os
theorem goO_app : ∀ (os os' : List Bool) (b : BN) (l r : List Deed), goO b l r (os ++ os') = goO (goO b l r os).1 (goO b l r os).2.1 (goO b l r os).2.2 os'
  | [], _, _, _, _ => rfl
  | false :: os, os', b, l, r => goO_app os os' _ _ _
  | true :: os, os', b, l, r => goO_app os os' _ _ _
theorem beat_seq (u : Rule) (b : BN) (one other : Deed) : b.beat u one other = if revB u one other = true then (b.act 1 other).act 0 one else (b.act 0 one).act 1 other := by
  cases u with
  | left => rfl
  | right => rfl
  | wait => rfl
  | old => cases one <;> cases other <;> simp [BN.beat, BN.acts, BN.actIf, BN.act, BN.see, revB, Deed.word_read, Deed.word_write, Deed.isRead, Deed.isWrite]
  | new => cases one <;> cases other <;> simp [BN.beat, BN.acts, BN.actIf, BN.act, BN.see, revB, Deed.word_read, Deed.word_write, Deed.isRead, Deed.isWrite]
theorem clash_rest_l (d : Deed) : Deed.rest.clash d = false := rfl
theorem clash_rest_r (d : Deed) : d.clash .rest = false := by
  unfold Deed.clash
  cases d <;> rfl
theorem act_rest (b : BN) (k : Nat) : b.act k .rest = b := rfl
theorem go_beat (u : Rule) (b : BN) (l r : List Deed) (h : ¬ (l = [] ∧ r = [])) : goO b l r (byBeat u l r) =
    (if waitsB u (l.headD .rest) (r.headD .rest) = true then (b.act 0 (l.headD .rest), l.tail, r) else (b.beat u (l.headD .rest) (r.headD .rest), l.tail, r.tail)) := by
  by_cases hw : waitsB u (l.headD .rest) (r.headD .rest) = true
  · have hw2 := hw
    unfold waitsB at hw2
    rw [Bool.and_eq_true, decide_eq_true_iff] at hw2
    obtain ⟨hu, hc⟩ := hw2
    rw [if_pos hw]
    unfold byBeat partB partA
    rw [hw, Bool.or_true]
    subst hu
    have hl : l.isEmpty = false := by
      cases l with
      | nil => cases hc
      | cons x l => rfl
    rw [hl]
    rfl
  · have hw2 : waitsB u (l.headD .rest) (r.headD .rest) = false := by simpa using hw
    rw [if_neg hw, beat_seq]
    unfold byBeat partB partA
    rw [hw2, Bool.or_false]
    cases l with
    | nil =>
      cases r with
      | nil => exact absurd ⟨rfl, rfl⟩ h
      | cons y r =>
        by_cases hr : revB u Deed.rest y = true
        · simp only [List.headD_nil, List.headD_cons, hr, if_true, List.isEmpty_nil, List.isEmpty_cons, List.append_nil]; rfl
        · simp only [List.headD_nil, List.headD_cons, hr, if_false, List.isEmpty_nil, List.isEmpty_cons, List.nil_append]; rfl
    | cons x l =>
      cases r with
      | nil =>
        by_cases hr : revB u x Deed.rest = true
        · simp only [List.headD_nil, List.headD_cons, hr, if_true, List.isEmpty_nil, List.isEmpty_cons, List.nil_append]; rfl
        · simp only [List.headD_nil, List.headD_cons, hr, if_false, List.isEmpty_nil, List.isEmpty_cons, List.append_nil]; rfl
      | cons y r =>
        by_cases hr : revB u x y = true
        · simp only [List.headD_cons, hr, if_true, List.isEmpty_cons]; rfl
        · simp only [List.headD_cons, hr, if_false, List.isEmpty_cons]; rfl
theorem byF_run (u : Rule) : ∀ (n : Nat) (b : BN) (l r : List Deed), l.length + r.length ≤ n → (goO b l r (byF u n l r)).1 = (runF u n b l r).1
  | 0, _, _, _, _ => rfl
  | n + 1, b, l, r, h => by
    unfold byF runF
    by_cases he : l = [] ∧ r = []
    · rw [if_pos he, if_pos he]; rfl
    · rw [if_neg he, if_neg he, goO_app, go_beat u b l r he]
      by_cases hw : waitsB u (l.headD .rest) (r.headD .rest) = true
      · have hw2 := hw
        unfold waitsB at hw2
        rw [Bool.and_eq_true, decide_eq_true_iff] at hw2
        rw [if_pos hw, if_pos hw, if_pos hw2]
        have hl : l ≠ [] := fun z => by
          rw [z] at hw2; exact absurd hw2.2 (by rw [List.headD_nil, clash_rest_l]; exact fun z => nomatch z)
        refine byF_run u n _ _ _ ?_
        have : l.tail.length + 1 = l.length := by cases l with
          | nil => exact absurd rfl hl
          | cons x l => rfl
        show l.tail.length + r.length ≤ n
        omega
      · have hw2 : ¬ (u = .wait ∧ (l.headD .rest).clash (r.headD .rest) = true) := fun z => hw (by unfold waitsB; rw [decide_eq_true z.1, z.2]; rfl)
        rw [if_neg hw, if_neg hw, if_neg hw2]
        refine byF_run u n _ _ _ ?_
        show l.tail.length + r.tail.length ≤ n
        rw [List.length_tail, List.length_tail]
        have : 0 < l.length + r.length := by
          rcases Nat.eq_zero_or_pos (l.length + r.length) with z | z
          · exact absurd ⟨List.length_eq_zero_iff.mp (by omega), List.length_eq_zero_iff.mp (by omega)⟩ he
          · exact z
        omega
theorem byBeat_count (u : Rule) (l r : List Deed) : (byBeat u l r).count false = (if l = [] then 0 else 1) ∧ (byBeat u l r).count true = (if r = [] ∨ waitsB u (l.headD .rest) (r.headD .rest) = true then 0 else 1) := by
  have e1 : (partA l).count false = (if l = [] then 0 else 1) ∧ (partA l).count true = 0 := by
    unfold partA
    cases l <;> simp
  have e2 : (partB u l r).count true = (if r = [] ∨ waitsB u (l.headD .rest) (r.headD .rest) = true then 0 else 1) ∧ (partB u l r).count false = 0 := by
    unfold partB
    cases r with
    | nil => simp
    | cons y r =>
      cases hw : waitsB u (l.headD .rest) ((y :: r).headD .rest) <;> simp
  unfold byBeat
  split
  · rw [List.count_append, List.count_append, e1.1, e1.2, e2.1, e2.2]; omega
  · rw [List.count_append, List.count_append, e1.1, e1.2, e2.1, e2.2]; omega
theorem byF_count (u : Rule) : ∀ (n : Nat) (l r : List Deed), l.length + r.length ≤ n → (byF u n l r).count false = l.length ∧ (byF u n l r).count true = r.length
  | 0, l, r, h => by
    have e1 : l = [] := List.length_eq_zero_iff.mp (by omega)
    have e2 : r = [] := List.length_eq_zero_iff.mp (by omega)
    subst e1; subst e2; exact ⟨rfl, rfl⟩
  | n + 1, l, r, h => by
    unfold byF
    by_cases he : l = [] ∧ r = []
    · rw [if_pos he, he.1, he.2]; exact ⟨rfl, rfl⟩
    · rw [if_neg he, List.count_append, List.count_append, (byBeat_count u l r).1, (byBeat_count u l r).2]
      by_cases hw : waitsB u (l.headD .rest) (r.headD .rest) = true
      · have hw2 := hw
        unfold waitsB at hw2
        rw [Bool.and_eq_true, decide_eq_true_iff] at hw2
        have hl : l ≠ [] := fun z => by
          rw [z] at hw2; exact absurd hw2.2 (by rw [List.headD_nil, clash_rest_l]; exact fun z => nomatch z)
        have hll : l.tail.length + 1 = l.length := by cases l with
          | nil => exact absurd rfl hl
          | cons x l => rfl
        rw [if_pos hw, if_neg hl, if_pos (.inr hw)]
        obtain ⟨h1, h2⟩ := byF_count u n l.tail r (by omega)
        rw [h1, h2]; omega
      · have hpos : 0 < l.length + r.length := by
          rcases Nat.eq_zero_or_pos (l.length + r.length) with z | z
          · exact absurd ⟨List.length_eq_zero_iff.mp (by omega), List.length_eq_zero_iff.mp (by omega)⟩ he
          · exact z
        obtain ⟨h1, h2⟩ := byF_count u n l.tail r.tail (by rw [List.length_tail, List.length_tail]; omega)
        rw [if_neg hw, h1, h2, List.length_tail, List.length_tail]
        cases l with
        | nil => cases r with
          | nil => exact absurd ⟨rfl, rfl⟩ he
          | cons y r => simp at hw ⊢; rw [if_neg (by simpa using hw)]; omega
        | cons x l => cases r with
          | nil => simp; omega
          | cons y r => simp at hw ⊢; rw [if_neg (by simpa using hw)]; omega
def byOf (u : Rule) (l r : List Deed) : List Bool := byF u (l.length + r.length) l r
theorem foldl_go (L R : List Deed) : ∀ (os : List Bool) (s : OS), (os.foldl (OS.step L R) s).b = (goO s.b (L.drop s.i) (R.drop s.j) os).1
  | [], _ => rfl
  | true :: os, s => by
    rw [List.foldl_cons, foldl_go L R os]
    show (goO (s.b.act 1 (deedAt R s.j)) (L.drop s.i) (R.drop (s.j + 1)) os).1 = (goO (s.b.act 1 ((R.drop s.j).headD .rest)) (L.drop s.i) (R.drop s.j).tail os).1
    rw [head_drop, List.tail_drop]
  | false :: os, s => by
    rw [List.foldl_cons, foldl_go L R os]
    show (goO (s.b.act 0 (deedAt L s.i)) (L.drop (s.i + 1)) (R.drop s.j) os).1 = (goO (s.b.act 0 ((L.drop s.i).headD .rest)) (L.drop s.i).tail (R.drop s.j) os).1
    rw [head_drop, List.tail_drop]
theorem by_order (u : Rule) (mem : List Nat) (l r : List Deed) : ordOf mem l r (byOf u l r) = (runOf u mem l r).1 ∧ OrdOk l r (byOf u l r) := by
  refine ⟨?_, byF_count u _ l r (Nat.le_refl _)⟩
  unfold ordOf ordTo runOf
  rw [foldl_go]
  exact byF_run u _ _ l r (Nat.le_refl _)
end DL
set_option Elab.async false
set_option linter.all false
set_option maxRecDepth 100000
set_option maxHeartbeats 4000000
/-! FI: _law_by_beats, read. -/
namespace DL
open PySem PySem.Spec L2

section
variable {C : Cc} {ρ : List Sl} {to : TE} {i : Nat} {xs : List D} {up : List D → Res} {Po : Po}
theorem ex_rev (L : LRef C to ρ i xs up) (p : Po.nx (ρ.set i (.ow (up xs.reverse)))) : Ex C (tDrop (tBM0 C.K "list" rReverse to)) ρ Po := fun σ Hb H fp E W q => by
  obtain ⟨v, a, ev, ha, h, k⟩ := L.run σ Hb H fp W
  refine k _ fun Hb' H' t => ?_
  obtain ⟨vs, hl1, hr, hu⟩ := h Hb' H' t
  refine ⟨.inl ⟨rfl, vs, .of hl1⟩, a, vs, rfl, rfl, hl1, ?_⟩
  obtain ⟨W3, fr⟩ := (W.step t).put ev ha (hu _ _ hr.reverse)
  exact q.nx σ _ Hb' _ _ ((Fr.of t).etrans fr) W3 p
end
theorem o2_ninDL {K : PySem.W.Frag} {x : D} {ds : List D} (h1 : SeqAt.shaped x = true) (h2 : SeqAt.shaped (.list ds) = true) : Op2 K (rNInA K) x (.list ds) (.d (.bool (!inDt x ds))) := fun Hb H v u Q sm hx hy q =>
  .inr (.inl ⟨x, ds, rp_dp _ _ (hx.mono sm), rp_dp _ _ (hy.mono sm), h1, h2, q.flat sm (.bl _)⟩)
theorem join_two (a b : List Bool) : Str.join "" [ordS a, ordS b] = ordS (a ++ b) := by
  rw [lit_e]
  have := joinE_mk [a.map sgn, b.map sgn]
  show Str.join (mkS []) ([a.map sgn, b.map sgn].map mkS) = _
  rw [this]
  show mkS (a.map sgn ++ (b.map sgn ++ [])) = mkS ((a ++ b).map sgn)
  rw [List.append_nil, List.map_append]
def t_law_by_beats (K : PySem.W.Frag) (A : Ad) : TS :=
  (tSeq (tAsg (tC (.str "")) (gName 3))
    (tSeq (tAsg (tTup (tCons (tC (.int 0)) (tCons (tC (.int 0)) tNil))) (gTup K 2 (gCons (gName 4) (gCons (gName 5) gNil))))
    (tSeq (tWhile (tOr (tTest (tOp rLtA (tVar 4) (tCB (rLenA K) (tCons (tVar 1) tNil)))) (tTest (tOp rLtA (tVar 5) (tCB (rLenA K) (tCons (tVar 2) tNil))))) (tSeq (tPar 6 7 (tCons (tUser (sp_law_at K A) (tCons (tVar 1) (tCons (tVar 4) tNil))) (tCons (tUser (sp_law_at K A) (tCons (tVar 2) (tCons (tVar 5) tNil))) tNil)))
    (tSeq (tAsg (tAndV (tOp (rEqD K) (tVar 0) (tC (.str "wait"))) (tUser (sp_law_meet K A) (tCons (tVar 6) (tCons (tVar 7) tNil)))) (gName 8))
    (tSeq (tAsg (tOp (rEqD K) (tOp (rIx K) (tVar 6) (tC (.int 0))) (tC (.str "write"))) (gName 9))
    (tSeq (tIfS (tTest (tOp (rEqD K) (tVar 0) (tC (.str "new")))) (tAsg (tOrV (tOp (rEqD K) (tOp (rIx K) (tVar 6) (tC (.int 0))) (tC (.str "read"))) (tChain (rEqD K) (rEqD K) (tOp (rIx K) (tVar 6) (tC (.int 0))) (tOp (rIx K) (tVar 7) (tC (.int 0))) (tC (.str "write")))) (gName 9)) tNext)
    (tSeq (tAsg (tLst (tCons (tOp rMulA (tC (.str "l")) (tCB (rIntA) (tCons (tOp rLtA (tVar 4) (tCB (rLenA K) (tCons (tVar 1) tNil))) tNil))) (tCons (tOp rMulA (tC (.str "r")) (tCB (rIntA) (tCons (tAndV (tOp rLtA (tVar 5) (tCB (rLenA K) (tCons (tVar 2) tNil))) (tNotV (tVar 8))) tNil))) tNil))) (gName 10))
    (tSeq (tIfS (tOr (tTest (tOp (rEqD K) (tVar 0) (tC (.str "right")))) (tAnd (tTest (tOp (rInA K) (tVar 0) (tTup (tCons (tC (.str "old")) (tCons (tC (.str "new")) tNil))))) (tB (tVar 9)))) (tDrop (tBM0 K "list" rReverse (tVar 10))) tNext)
    (tSeq (tAsg (tOp (rAddA K) (tVar 3) (tBM K "str" (r_join K) (tC (.str "")) (tCons (tVar 10) tNil))) (gName 3))
    (tSeq (tAsg (tOp (rAddA K) (tVar 4) (tC (.int 1))) (gName 4))
    (tAsg (tOp (rAddA K) (tVar 5) (tCB (rIntA) (tCons (tNotV (tVar 8)) tNil))) (gName 5)))))))))))
    (tRet (tVar 3)))))
def sp_law_by_beats (K : PySem.W.Frag) (A : Ad) : Sp := datSp K fun ds x => ∃ (u : Rule) (l r : List Deed), ds = [.str u.word, encP l, encP r] ∧ l.length ≤ 1000 ∧ r.length ≤ 1000 ∧ x = ordD (byOf u l r)
theorem late_eq (u : Rule) (one other : Deed) : (decide (u = .right) || ((decide (u = .old) || decide (u = .new)) && (if u = .new then one.isRead || (one.isWrite && other.isWrite) else one.isWrite))) = revB u one other := by
  cases u <;> simp [revB]
theorem part_len {os : List Bool} {l r : List Deed} {u : Rule} (e : partA l = os ∨ partB u l r = os) : os.length ≤ 1 := by
  rcases e with e | e <;> subst e
  · unfold partA; split <;> simp
  · unfold partB; split <;> simp
theorem rd_law_by_beats {C : Cc} {A : Ad} {u : Rule} {l r : List Deed} (l1 : l.length ≤ 1000) (r1 : r.length ≤ 1000) : Ex C (t_law_by_beats C.K A) [.d (.str u.word), .d (encP l), .d (encP r), .no, .no, .no, .no, .no, .no, .no, .no] (retD (ordD (byOf u l r))) := by
  refine ex_seq (ex_set (s := .d (ordD [])) (ev_is ev_str (congrArg PyData.str ordS_nil)) ?_)
  refine ex_seq (ex_asgG (ef_d (ev_tup (ea_two ev_int ev_int)) ⟨_, rfl, eg_tup rfl (egs_cons (eg_name (egs_cons (eg_name (egs_nil ?_))))) ⟩))
  refine ex_seq (ex_while (fun m ρ => ∃ (here there n : Nat) (acc : List Bool) (s6 s7 s8 s9 s10 : Sl), m = (l.length - here) + (r.length - there) ∧ m ≤ n ∧ acc.length + 2 * m ≤ 2 * (l.length + r.length) ∧ byOf u l r = acc ++ byF u n (l.drop here) (r.drop there) ∧
      ρ = [.d (.str u.word), .d (encP l), .d (encP r), .d (ordD acc), .d (.int (here : Nat)), .d (.int (there : Nat)), s6, s7, s8, s9, s10])
    ⟨l.length + r.length, 0, 0, l.length + r.length, [], .no, .no, .no, .no, .no, rfl, Nat.le_refl _, by rw [List.length_nil]; omega, rfl, rfl⟩ fun m ρ ⟨here, there, n, acc, s6, s7, s8, s9, s10, em, hmn, hacc, eF, e⟩ => ?_)
  subst e
  have elt1 : ∀ {ρ : List Sl}, ρ[4]? = some (.d (.int (here : Nat))) → ρ[1]? = some (.d (encP l)) → PD C (tOp rLtA (tVar 4) (tCB (rLenA C.K) (tCons (tVar 1) tNil))) ρ (.bool (decide (here < l.length))) := fun h1 h2 =>
    ev_is (ev_op (ev_var h1) (ev_call (ea_one (ev_var h2)) (on_lenL (ds := encs l))) o2_ltI) (by rw [encs_len]; congr 1; rw [decide_eq_decide]; omega)
  have elt2 : ∀ {ρ : List Sl}, ρ[5]? = some (.d (.int (there : Nat))) → ρ[2]? = some (.d (encP r)) → PD C (tOp rLtA (tVar 5) (tCB (rLenA C.K) (tCons (tVar 2) tNil))) ρ (.bool (decide (there < r.length))) := fun h1 h2 =>
    ev_is (ev_op (ev_var h1) (ev_call (ea_one (ev_var h2)) (on_lenL (ds := encs r))) o2_ltI) (by rw [encs_len]; congr 1; rw [decide_eq_decide]; omega)
  refine ft_p (et_or (et_test (elt1 rfl rfl)) fun _ => et_test (elt2 rfl rfl)) ?_
  by_cases hb : here < l.length ∨ there < r.length
  · have hb' : (decide (here < l.length) || decide (there < r.length)) = true := by
      rw [Bool.or_eq_true, decide_eq_true_iff, decide_eq_true_iff]; exact hb
    rw [hb', if_pos rfl]
    obtain ⟨n, rfl⟩ : ∃ k, n = k + 1 := ⟨n - 1, by omega⟩
    have hne : ¬ (l.drop here = [] ∧ r.drop there = []) := fun ⟨z1, z2⟩ => by
      have z1 := congrArg List.length z1
      have z2 := congrArg List.length z2
      rw [List.length_drop] at z1 z2
      simp only [List.length_nil] at z1 z2
      omega
    unfold byF at eF
    rw [if_neg hne, head_drop, head_drop, List.tail_drop, List.tail_drop] at eF
    have ea : partA (l.drop here) = List.replicate (if here < l.length then 1 else 0) false := by
      unfold partA
      by_cases h : here < l.length
      · rw [if_pos h]
        have : (l.drop here).isEmpty = false := by
          cases z : l.drop here with
          | nil => have := congrArg List.length z; rw [List.length_drop] at this; simp at this; omega
          | cons _ _ => rfl
        rw [this]; rfl
      · rw [if_neg h, List.drop_of_length_le (by omega)]; rfl
    have eb : partB u (l.drop here) (r.drop there) = List.replicate (if (decide (there < r.length) && !waitsB u (deedAt l here) (deedAt r there)) = true then 1 else 0) true := by
      unfold partB
      rw [head_drop, head_drop]
      by_cases h : there < r.length
      · have : (r.drop there).isEmpty = false := by
          cases z : r.drop there with
          | nil => have := congrArg List.length z; rw [List.length_drop] at this; simp at this; omega
          | cons _ _ => rfl
        rw [this, decide_eq_true h]
        cases waitsB u (deedAt l here) (deedAt r there) <;> rfl
      · rw [decide_eq_false h, List.drop_of_length_le (by omega)]; rfl
    have ebeat : byBeat u (l.drop here) (r.drop there) = if revB u (deedAt l here) (deedAt r there) = true then partB u (l.drop here) (r.drop there) ++ partA (l.drop here) else partA (l.drop here) ++ partB u (l.drop here) (r.drop there) := by
      unfold byBeat
      rw [head_drop, head_drop]
    have la := part_len (u := u) (r := r) (.inl (rfl : partA (l.drop here) = _))
    have lb := part_len (.inr (rfl : partB u (l.drop here) (r.drop there) = _))
    have waits_l : waitsB u (deedAt l here) (deedAt r there) = true → here < l.length := fun z => Nat.lt_of_not_le fun q => by
      unfold waitsB at z
      rw [deedAt_out q, Bool.and_eq_true] at z
      exact nomatch z.2
    generalize hone : deedAt l here = one at *
    generalize hoth : deedAt r there = other at *
    generalize partA (l.drop here) = pa at *
    generalize partB u (l.drop here) (r.drop there) = pb at *
    refine ex_seq (ex_par (fa_p (ea_two (ev_dat (x := one.enc) (ea_two (ev_var rfl) (ev_var rfl)) ⟨l, here, rfl, by omega, by rw [hone]⟩) (ev_dat (x := other.enc) (ea_two (ev_var rfl) (ev_var rfl)) ⟨r, there, rfl, by omega, by rw [hoth]⟩)) ⟨_, _, rfl, ?_⟩))
    refine ex_seq (ex_set (s := .d (.bool (waitsB u one other))) (ev_andV (ev_is (ev_eqW (ev_var rfl) u.word_ok ok_wait) (by rw [u.is_wait])) fun _ => ev_dat (ea_two (ev_var rfl) (ev_var rfl)) ⟨one, other, rfl, rfl⟩) ?_)
    refine ex_seq (ex_set (s := .d (.bool one.isWrite)) (ev_eqWrite (d := one) (ev_var rfl)) ?_)
    generalize hw : waitsB u one other = w at *
    -- late
    have late : ∀ {P : Po}, P.nx [.d (.str u.word), .d (encP l), .d (encP r), .d (ordD acc), .d (.int (here : Nat)), .d (.int (there : Nat)), .d one.enc, .d other.enc, .d (.bool w), .d (.bool (if u = .new then one.isRead || (one.isWrite && other.isWrite) else one.isWrite)), s10] →
        Ex C (tIfS (tTest (tOp (rEqD C.K) (tVar 0) (tC (.str "new")))) (tAsg (tOrV (tOp (rEqD C.K) (tOp (rIx C.K) (tVar 6) (tC (.int 0))) (tC (.str "read"))) (tChain (rEqD C.K) (rEqD C.K) (tOp (rIx C.K) (tVar 6) (tC (.int 0))) (tOp (rIx C.K) (tVar 7) (tC (.int 0))) (tC (.str "write")))) (gName 9)) tNext)
          [.d (.str u.word), .d (encP l), .d (encP r), .d (ordD acc), .d (.int (here : Nat)), .d (.int (there : Nat)), .d one.enc, .d other.enc, .d (.bool w), .d (.bool one.isWrite), s10] P := fun {P} p => by
      refine ex_ifp (et_test (ev_is (ev_eqW (ev_var rfl) u.word_ok ok_new) (by rw [u.is_new]))) (fun e => ?_) fun e => ex_next ?_
      · have e := of_decide_eq_true e
        rw [if_pos e] at p
        refine ex_set (s := .d (.bool (one.isRead || (one.isWrite && other.isWrite)))) (ev_orV (ev_eqRead (d := one) (ev_var rfl)) fun hr => ?_) p
        refine ev_is (ev_chain (b := (one.word == other.word)) (c := other.isWrite) (ev_w0 (d := one) (ev_var rfl)) (ev_w0 (d := other) (ev_var rfl)) (by have := o2_eq (K := C.K) (sh_str one.word_ok) (sh_str other.word_ok); rwa [eqv_str] at this) fun _ => ⟨ev_str, by have := o2_eq (K := C.K) (sh_str other.word_ok) (sh_str ok_write); rwa [eqv_str, other.word_write] at this⟩) ?_
        congr 1
        cases one <;> cases other <;> first | rfl | (simp only [Deed.isWrite, Bool.and_false, Bool.and_true, Bool.false_and, Bool.true_and]; first | rfl | exact ne_rw | exact ne_ew | exact eq_ww)
      · have e := of_decide_eq_false e
        rw [if_neg e] at p
        exact p
    refine ex_seq (late ?_)
    -- both
    refine ex_seq (ex_set (s := own C.K ([ordS pa, ordS pb].map PyData.str)) (ev_lstO (ea_two (ev_is (ev_op ev_l (ev_is (y := .int ((if here < l.length then 1 else 0 : Nat) : Int)) (ev_call (ea_one (elt1 rfl rfl)) on_intB) ?_) (o2_mulS ?_)) (by rw [ea])) (ev_is (ev_op ev_r (ev_is (y := .int ((if (decide (there < r.length) && !w) = true then 1 else 0 : Nat) : Int)) (ev_call (ea_one (ev_andV (elt2 rfl rfl) fun _ => ev_notV (ev_var rfl))) on_intB) ?_) (o2_mulS ?_)) (by rw [eb])))) ?_)
    · by_cases h : here < l.length
      · rw [decide_eq_true h, if_pos h]; rfl
      · rw [decide_eq_false h, if_neg h]; rfl
    · split <;> omega
    · cases (decide (there < r.length) && !w) <;> rfl
    · split <;> omega
    -- reversed
    have two : inDt (.str u.word) [.str wOld, .str wNew] = (decide (u = .old) || decide (u = .new)) := by
      unfold inDt
      simp only [List.any_cons, List.any_nil, eqv_str, Bool.or_false]
      cases u <;> decide +kernel
    have rev : ∀ {P : Po}, (∀ os : List Bool, os = (if revB u one other = true then pb ++ pa else pa ++ pb) → ∀ xs : List Str, xs.length = 2 → (xs.map (·.length)).sum ≤ 2 → Str.join "" xs = ordS os → P.nx [.d (.str u.word), .d (encP l), .d (encP r), .d (ordD acc), .d (.int (here : Nat)), .d (.int (there : Nat)), .d one.enc, .d other.enc, .d (.bool w), .d (.bool (if u = .new then one.isRead || (one.isWrite && other.isWrite) else one.isWrite)), own C.K (xs.map PyData.str)]) →
        Ex C (tIfS (tOr (tTest (tOp (rEqD C.K) (tVar 0) (tC (.str "right")))) (tAnd (tTest (tOp (rInA C.K) (tVar 0) (tTup (tCons (tC (.str "old")) (tCons (tC (.str "new")) tNil))))) (tB (tVar 9)))) (tDrop (tBM0 C.K "list" rReverse (tVar 10))) tNext)
          [.d (.str u.word), .d (encP l), .d (encP r), .d (ordD acc), .d (.int (here : Nat)), .d (.int (there : Nat)), .d one.enc, .d other.enc, .d (.bool w), .d (.bool (if u = .new then one.isRead || (one.isWrite && other.isWrite) else one.isWrite)), own C.K ([ordS pa, ordS pb].map PyData.str)] P := fun {P} p => by
      refine ex_ifp (b := revB u one other) (et_is (et_or (et_test (ev_is (ev_eqW (ev_var rfl) u.word_ok ok_right) (by rw [u.is_right]))) fun _ => et_and (et_test (ev_op (ev_var rfl) (ev_tup (ea_two ev_str ev_str)) (o2_inT rfl rfl))) fun _ => et_B (ev_var rfl)) (by rw [two, late_eq])) (fun e => ?_) fun e => ex_next ?_
      · refine ex_rev (lr_own rfl) (p _ rfl [ordS pb, ordS pa] rfl ?_ ?_)
        · show (ordS pb).length + ((ordS pa).length + 0) ≤ 2
          rw [ordS_len, ordS_len]; omega
        · rw [if_pos e]; exact join_two _ _
      · refine p _ rfl [ordS pa, ordS pb] rfl ?_ ?_
        · show (ordS pa).length + ((ordS pb).length + 0) ≤ 2
          rw [ordS_len, ordS_len]; omega
        · rw [if_neg (by rw [e]; exact fun z => nomatch z)]; exact join_two _ _
    refine ex_seq (rev fun os eos xs hx2 hxs hj => ?_)
    rw [← ebeat] at eos
    have los : os.length ≤ 2 := by
      have := congrArg List.length eos
      rw [ebeat] at this
      rw [this]
      split <;> rw [List.length_append] <;> omega
    have h0 : ("" : Str).length = 0 := by decide +kernel
    have hbd : (xs.map (·.length)).sum + xs.length * ("" : Str).length ≤ 16777216 := by rw [h0]; omega
    refine ex_seq (ex_set (s := .d (ordD (acc ++ os))) (ev_is (ev_op (ev_var rfl) (ev_is (ev_joinO (ys := xs) ev_str rfl hbd) (by rw [hj])) (o2_addS (by rw [ordS_len, ordS_len]; omega))) (by rw [ordS_app]; rfl)) ?_)
    refine ex_seq (ex_set (s := .d (.int ((here + 1 : Nat) : Int))) (ev_is (ev_op (ev_var rfl) ev_int o2_addI) (by congr 1)) ?_)
    refine ex_set (s := .d (.int ((there + (if w = true then 0 else 1) : Nat) : Int))) (ev_is (ev_op (ev_var rfl) (ev_call (ea_one (ev_notV (ev_var rfl))) on_intB) o2_addI) ?_) ?_
    · cases w <;> rfl
    rw [← eos] at eF
    have eN : (if w = true then r.drop there else r.drop (there + 1)) = r.drop (there + (if w = true then 0 else 1)) := by cases w <;> rfl
    rw [eN, ← List.append_assoc] at eF
    have hv : (w = true ∧ (if w = true then 0 else 1) = 0) ∨ (w = false ∧ (if w = true then 0 else 1) = 1) := by
      cases w
      · exact .inr ⟨rfl, rfl⟩
      · exact .inl ⟨rfl, rfl⟩
    generalize (if w = true then 0 else 1) = v at hv eF ⊢
    refine ⟨_, ?_, here + 1, there + v, n, acc ++ os, _, _, _, _, _, rfl, ?_, ?_, eF, rfl⟩
    · rcases hv with ⟨e, z⟩ | ⟨e, z⟩
      · have := waits_l e; omega
      · omega
    · rcases hv with ⟨e, z⟩ | ⟨e, z⟩
      · have := waits_l e; omega
      · omega
    · rw [List.length_append]
      rcases hv with ⟨e, z⟩ | ⟨e, z⟩
      · have := waits_l e; omega
      · omega
  · have hb' : (decide (here < l.length) || decide (there < r.length)) = false := by
      rw [Bool.or_eq_false_iff, decide_eq_false_iff_not, decide_eq_false_iff_not]; exact ⟨fun z => hb (.inl z), fun z => hb (.inr z)⟩
    rw [hb', if_neg Bool.false_ne_true]
    have e0 : byF u n (l.drop here) (r.drop there) = [] := by
      rw [List.drop_of_length_le (by omega), List.drop_of_length_le (by omega)]
      cases n with
      | zero => rfl
      | succ n => unfold byF; rw [if_pos ⟨rfl, rfl⟩]
    rw [e0, List.append_nil] at eF
    rw [eF]
    exact ex_ret (ef_d (ev_var rfl) rfl)
end DL
set_option Elab.async false
set_option linter.all false
set_option maxRecDepth 100000
set_option maxHeartbeats 4000000
/-! FJ: plain: what an order leaves is a memory; likenesses. -/
namespace DL
open PySem PySem.Spec L2

def allRulesJ : List Rule := [.old, .new, .left, .right, .wait]
theorem rule_itemJ {i : Nat} (h : i < 5) : itemOf [(.str "old" : D), .str "new", .str "left", .str "right", .str "wait"] i = .str (allRulesJ.getD i .old).word := by
  have : i = 0 ∨ i = 1 ∨ i = 2 ∨ i = 3 ∨ i = 4 := by omega
  rcases this with e | e | e | e | e <;> subst e <;> rfl
theorem ev_rulesJ {C : Cc} {ρ : List Sl} : PD C (tLst (tCons (tC (.str "old")) (tCons (tC (.str "new")) (tCons (tC (.str "left")) (tCons (tC (.str "right")) (tCons (tC (.str "wait")) tNil)))))) ρ (.list [.str "old", .str "new", .str "left", .str "right", .str "wait"]) :=
  ev_lst (ea_cons ev_str (ea_cons ev_str (ea_cons ev_str (ea_two ev_str ev_str))))
theorem alkJ_t {n : Nat} {ns : List Nat} (h : ns.length ≤ 1000000) : alk (n + 1) (.tuple (encN ns)) := .tuple (by rw [encN_len']; exact h) fun x hx => by
  obtain ⟨n, _, rfl⟩ := List.mem_map.mp hx
  exact .int
theorem alkO {n : Nat} {b : BN} (h : b.Low 1000000) (hm : b.mem.length ≤ 1000000) : alk (n + 2) (encO b) := .tuple (show 3 ≤ 1000000 by decide) fun x hx => by
  simp only [List.mem_cons, List.not_mem_nil, or_false] at hx
  rcases hx with e | e | e <;> subst e
  · exact alkJ_t h.1
  · exact alkJ_t h.2
  · exact alkJ_t hm
theorem act_worth {b : BN} {k : Nat} {d : Deed} {c : Nat} (g : d.Good c) (h : ∀ w ∈ b.mem, w < 3) : ∀ w ∈ (b.act k d).mem, w < 3 := by
  cases d with
  | rest => exact h
  | read c => rw [show (b.act k (.read c)).mem = b.mem from BN.see_mem _ _ _]; exact h
  | write c v =>
    intro w hw
    rcases List.mem_or_eq_of_mem_set hw with e | e
    · exact h w e
    · rw [e]; exact g.2
theorem ordTo_worth {l r : List Deed} {c : Nat} (gl : GoodP c l) (gr : GoodP c r) : ∀ (os : List Bool) (s : OS), (∀ w ∈ s.b.mem, w < 3) → ∀ w ∈ (os.foldl (OS.step l r) s).b.mem, w < 3
  | [], s, h => h
  | o :: os, s, h => by
    rw [List.foldl_cons]
    refine ordTo_worth gl gr os _ ?_
    cases o with
    | true => exact act_worth (deedAt_good gr _) h
    | false => exact act_worth (deedAt_good gl _) h
theorem ord_memOk {mem : List Nat} {l r : List Deed} {os : List Bool} (hm : MemOk mem) (gl : GoodP mem.length l) (gr : GoodP mem.length r) : MemOk (ordOf mem l r os).mem := by
  have e : (ordOf mem l r os).mem.length = mem.length := ordTo_mem mem l r os
  exact ⟨by rw [e]; exact hm.1, by rw [e]; exact hm.2.1, ordTo_worth gl gr os _ hm.2.2⟩
theorem ord_alk {n : Nat} {mem : List Nat} {l r : List Deed} {os : List Bool} (ho : OrdOk l r os) (hm : mem.length ≤ 1000000) (hl : l.length + r.length ≤ 1000000) : alk (n + 2) (encO (ordOf mem l r os)) :=
  alkO ((ordTo_low mem l r os).up (by have := ho.len; omega)) (by show (ordTo mem l r os).b.mem.length ≤ _; rw [ordTo_mem]; exact hm)
theorem in_outs {mem : List Nat} {l r : List Deed} {os : List Bool} (ho : OrdOk l r os) (hm : mem.length ≤ 1000000) (hl : l.length + r.length ≤ 1000000) : inDt (encO (ordOf mem l r os)) ((outsB mem l r).map encO) = true :=
  List.any_eq_true.mpr ⟨_, List.mem_map_of_mem (outs_mem.mpr ⟨os, ho, rfl⟩), eqv_same (ord_alk (n := 1) ho hm hl).sh.shaped⟩
theorem outs_alk {n : Nat} {mem : List Nat} {l r : List Deed} (hm : mem.length ≤ 1000000) (h1 : l.length ≤ 6) (h2 : r.length ≤ 6) : alk (n + 3) (.list ((outsB mem l r).map encO)) := .list (by
    have := known_len (mem := mem) h1 h2
    rw [List.length_map]; unfold outsB; rw [(sortB_perm _).length_eq, List.length_map]; omega) fun x hx => by
  obtain ⟨b, hb, rfl⟩ := List.mem_map.mp hx
  obtain ⟨os, ho, rfl⟩ := outs_mem.mp hb
  exact ord_alk ho hm (by omega)
theorem known_some {mem : List Nat} {l r : List Deed} {os : List Bool} (ho : OrdOk l r os) : ∃ p, lkA (known mem l r) (ordOf mem l r os) = some p ∧ OrdOk l r p ∧ ordOf mem l r p = ordOf mem l r os := by
  obtain ⟨p, hp, e⟩ := known_all (mem := mem) ho
  obtain ⟨h1, h2, _⟩ := known_own hp
  refine ⟨p.2, lkA_of known_nd ?_, h1, ?_⟩
  · rw [← e]; exact hp
  · rw [← h2, e]
end DL
set_option Elab.async false
set_option linter.all false
set_option maxRecDepth 100000
set_option maxHeartbeats 4000000
/-! GA: plain: all orders, ascending; the first of each kind. -/
namespace DL
open PySem PySem.Spec L2

def flat2 (a b : Nat) : List Bool := List.replicate a false ++ List.replicate b true
def allO : Nat → Nat → Nat → List (List Bool)
  | 0, a, b => [flat2 a b]
  | n + 1, a, b => if a = 0 ∨ b = 0 then [flat2 a b] else (allO n (a - 1) b).map (false :: ·) ++ (allO n a (b - 1)).map (true :: ·)
def ordsOf (l r : List Deed) : List (List Bool) := allO (l.length + r.length) l.length r.length
theorem flat2_count (a b : Nat) : (flat2 a b).count false = a ∧ (flat2 a b).count true = b := by
  unfold flat2
  exact ⟨by rw [List.count_append, List.count_replicate, List.count_replicate]; simp, by rw [List.count_append, List.count_replicate, List.count_replicate]; simp⟩
theorem count0 {os : List Bool} {c : Bool} (h : os.count c = 0) : os = List.replicate os.length (!c) :=
  List.eq_replicate_of_mem fun x hx => by
    cases hc : (x == c) with
    | true => rw [beq_iff_eq.mp hc] at hx; exact absurd h (Nat.ne_of_gt (List.count_pos_iff.mpr hx))
    | false => cases x <;> cases c <;> first | rfl | cases hc
theorem mem_flat {a b : Nat} (h : a = 0 ∨ b = 0) {os : List Bool} : os ∈ [flat2 a b] ↔ os.count false = a ∧ os.count true = b := by
  rw [List.mem_singleton]
  constructor
  · rintro rfl; exact flat2_count a b
  · rintro ⟨h1, h2⟩
    have ht := count_tot os
    rcases h with e | e
    · subst e
      have := count0 h1
      rw [this]; unfold flat2
      have : os.length = b := by omega
      rw [this]; rfl
    · subst e
      have := count0 h2
      rw [this]; unfold flat2
      have : os.length = a := by omega
      rw [this]; show _ = _ ++ []; rw [List.append_nil]; rfl
theorem mem_allO : ∀ (n a b : Nat), a + b = n → ∀ os, os ∈ allO n a b ↔ os.count false = a ∧ os.count true = b
  | 0, a, b, h, os => mem_flat (.inl (by omega))
  | n + 1, a, b, h, os => by
    unfold allO
    by_cases hz : a = 0 ∨ b = 0
    · rw [if_pos hz]; exact mem_flat hz
    · rw [if_neg hz]
      have ha : a ≠ 0 := fun z => hz (.inl z)
      have hb : b ≠ 0 := fun z => hz (.inr z)
      rw [List.mem_append, List.mem_map, List.mem_map]
      constructor
      · rintro (⟨x, hx, rfl⟩ | ⟨x, hx, rfl⟩)
        · have := (mem_allO n (a - 1) b (by omega) x).mp hx
          constructor <;> simp <;> omega
        · have := (mem_allO n a (b - 1) (by omega) x).mp hx
          constructor <;> simp <;> omega
      · rintro ⟨h1, h2⟩
        cases os with
        | nil => exact absurd h1.symm ha
        | cons o os =>
          cases o with
          | false => exact .inl ⟨os, (mem_allO n (a - 1) b (by omega) os).mpr (by simp at h1 h2; omega), rfl⟩
          | true => exact .inr ⟨os, (mem_allO n a (b - 1) (by omega) os).mpr (by simp at h1 h2; omega), rfl⟩
theorem mem_ords {l r : List Deed} {os : List Bool} : os ∈ ordsOf l r ↔ OrdOk l r os := mem_allO _ _ _ rfl os
theorem ltO_cons (c : Bool) {a b : List Bool} (h : ltO a b = true) : ltO (c :: a) (c :: b) = true :=
  decide_eq_true (List.cons_lt_cons_iff.mpr (.inr ⟨rfl, of_decide_eq_true h⟩))
theorem ltO_ft (a b : List Bool) : ltO (false :: a) (true :: b) = true :=
  decide_eq_true (List.cons_lt_cons_iff.mpr (.inl (by decide)))
theorem allO_asc : ∀ (n a b : Nat), (allO n a b).Pairwise fun x y => ltO x y = true
  | 0, a, b => List.pairwise_singleton _ _
  | n + 1, a, b => by
    unfold allO
    split
    · exact List.pairwise_singleton _ _
    · rw [List.pairwise_append]
      refine ⟨List.pairwise_map.mpr ((allO_asc n (a - 1) b).imp fun h => ltO_cons _ h), List.pairwise_map.mpr ((allO_asc n a (b - 1)).imp fun h => ltO_cons _ h), fun x hx y hy => ?_⟩
      obtain ⟨x, _, rfl⟩ := List.mem_map.mp hx
      obtain ⟨y, _, rfl⟩ := List.mem_map.mp hy
      exact ltO_ft x y
theorem allO_len : ∀ (n a b : Nat), (allO n a b).length ≤ 2 ^ n
  | 0, a, b => Nat.le_refl _
  | n + 1, a, b => by
    unfold allO
    have e : 2 ^ (n + 1) = 2 ^ n + 2 ^ n := by rw [Nat.pow_succ]; omega
    have hp : 0 < 2 ^ n := Nat.two_pow_pos n
    split
    · show 1 ≤ _; omega
    · rw [List.length_append, List.length_map, List.length_map, e]
      have h1 := allO_len n (a - 1) b
      have h2 := allO_len n a (b - 1)
      omega
/-! the first of each kind -/
section
variable {mem : List Nat} {l r : List Deed}
def firstD (mem : List Nat) (l r : List Deed) (acc : List (BN × List Bool)) (os : List Bool) : List (BN × List Bool) := if (lkA acc (ordOf mem l r os)).isSome = true then acc else acc ++ [(ordOf mem l r os, os)]
theorem lkA_snoc {κ β : Type} [DecidableEq κ] (acc : List (κ × β)) (k b : κ) (v : β) : lkA (acc ++ [(k, v)]) b = (lkA acc b).or (if k = b then some v else none) := by
  unfold lkA
  rw [List.find?_append]
  cases acc.find? (fun p => decide (p.1 = b)) with
  | some p => rfl
  | none =>
    by_cases e : k = b
    · simp [e]
    · simp [e]
theorem firstD_lk (acc : List (BN × List Bool)) (os : List Bool) (b : BN) : lkA (firstD mem l r acc os) b = (lkA acc b).or (if ordOf mem l r os = b then some os else none) := by
  unfold firstD
  split
  · rename_i h
    by_cases e : ordOf mem l r os = b
    · rw [e] at h
      cases hz : lkA acc b with
      | none => rw [hz] at h; cases h
      | some z => rfl
    · rw [if_neg e]; cases lkA acc b <;> rfl
  · exact lkA_snoc _ _ _ _
theorem fold_lk : ∀ (L : List (List Bool)) (acc : List (BN × List Bool)) (b : BN), lkA (L.foldl (firstD mem l r) acc) b = (lkA acc b).or (L.find? fun os => decide (ordOf mem l r os = b))
  | [], acc, b => by rw [List.foldl_nil, List.find?_nil]; cases lkA acc b <;> rfl
  | os :: L, acc, b => by
    rw [List.foldl_cons, fold_lk L, firstD_lk, List.find?_cons]
    by_cases e : ordOf mem l r os = b
    · rw [if_pos e, decide_eq_true e]; cases lkA acc b <;> rfl
    · rw [if_neg e, decide_eq_false e]; cases lkA acc b <;> rfl
theorem firstD_nd {acc : List (BN × List Bool)} {os : List Bool} (h : (acc.map (·.1)).Nodup) : ((firstD mem l r acc os).map (·.1)).Nodup := by
  unfold firstD
  split
  · exact h
  · rename_i hn
    have hn : lkA acc (ordOf mem l r os) = none := by
      cases hz : lkA acc (ordOf mem l r os) with
      | none => rfl
      | some z => rw [hz] at hn; exact absurd rfl hn
    rw [List.map_append, List.nodup_append]
    refine ⟨h, List.nodup_cons.mpr ⟨List.not_mem_nil, List.nodup_nil⟩, fun x hx y hy => ?_⟩
    obtain ⟨p, hp, rfl⟩ := List.mem_map.mp hx
    rw [List.mem_singleton.mp hy]
    exact lkA_none hn p hp
theorem firstD_len (acc : List (BN × List Bool)) (os : List Bool) : (firstD mem l r acc os).length ≤ acc.length + 1 := by
  unfold firstD
  split
  · omega
  · rw [List.length_append]; exact Nat.le_refl _
theorem fold_nd : ∀ (L : List (List Bool)) {acc : List (BN × List Bool)}, (acc.map (·.1)).Nodup → ((L.foldl (firstD mem l r) acc).map (·.1)).Nodup
  | [], acc, h => h
  | os :: L, acc, h => fold_nd L (firstD_nd h)
theorem fold_len : ∀ (L : List (List Bool)) (acc : List (BN × List Bool)), (L.foldl (firstD mem l r) acc).length ≤ acc.length + L.length
  | [], acc => Nat.le_refl _
  | os :: L, acc => by
    rw [List.foldl_cons, List.length_cons]
    have h1 := fold_len L (firstD mem l r acc os)
    have h2 := firstD_len (mem := mem) (l := l) (r := r) acc os
    omega
def gath (mem : List Nat) (l r : List Deed) : List (BN × List Bool) := (ordsOf l r).foldl (firstD mem l r) []
theorem gath_lk (b : BN) : lkA (gath mem l r) b = lkA (known mem l r) b := by
  have h0 : lkA (gath mem l r) b = (ordsOf l r).find? fun os => decide (ordOf mem l r os = b) := fold_lk _ [] b
  rw [h0]
  cases hk : lkA (known mem l r) b with
  | none =>
    rw [List.find?_eq_none]
    intro os hos z
    obtain ⟨p, hp, _⟩ := known_some (mem := mem) (mem_ords.mp hos)
    rw [of_decide_eq_true z, hk] at hp
    cases hp
  | some p =>
    obtain ⟨h1, h2, h3⟩ := known_own (lkA_mem hk)
    have h1 : OrdOk l r p := h1
    have h2 : b = ordOf mem l r p := h2
    have hin := mem_ords.mpr h1
    cases hf : (ordsOf l r).find? fun os => decide (ordOf mem l r os = b) with
    | none => exact absurd (decide_eq_true h2.symm) (List.find?_eq_none.mp hf p hin)
    | some os =>
      obtain ⟨e1, as, bs, e2, e3⟩ := List.find?_eq_some_iff_append.mp hf
      have e1 : ordOf mem l r os = b := of_decide_eq_true e1
      have hos : os ∈ ordsOf l r := by rw [e2]; simp
      have hm := h3 os (mem_ords.mp hos) e1
      have asc := allO_asc (l.length + r.length) l.length r.length
      have asc : (ordsOf l r).Pairwise fun x y => ltO x y = true := asc
      rw [e2, List.pairwise_append] at asc
      rw [e2] at hin
      rcases List.mem_append.mp hin with h | h
      · have := e3 p h
        rw [decide_eq_true h2.symm] at this
        cases this
      · rcases List.mem_cons.mp h with h | h
        · rw [h]
        · have := (List.pairwise_cons.mp asc.2.1).1 p h
          rw [this] at hm; cases hm
theorem lkA_isSome {κ β : Type} [DecidableEq κ] {l : List (κ × β)} {k : κ} : k ∈ l.map (·.1) ↔ (lkA l k).isSome = true := by
  constructor
  · intro h
    obtain ⟨p, hp, e⟩ := List.mem_map.mp h
    cases hz : lkA l k with
    | none => exact absurd e (lkA_none hz p hp)
    | some z => rfl
  · intro h
    cases hz : lkA l k with
    | none => rw [hz] at h; cases h
    | some z => exact List.mem_map.mpr ⟨_, lkA_mem hz, rfl⟩
theorem perm_nd {α : Type} [DecidableEq α] {a b : List α} (ha : a.Nodup) (hb : b.Nodup) (h : ∀ x, x ∈ a ↔ x ∈ b) : a.Perm b := by
  rw [List.perm_iff_count]
  intro x
  rw [ha.count, hb.count]
  by_cases hx : x ∈ a
  · rw [if_pos hx, if_pos ((h x).mp hx)]
  · rw [if_neg hx, if_neg fun z => hx ((h x).mpr z)]
theorem gath_sort : sortB ((gath mem l r).map (·.1)) = outsB mem l r :=
  sortB_eq (perm_nd (fold_nd _ List.nodup_nil) known_nd fun b => by rw [lkA_isSome, lkA_isSome, gath_lk])
end
/-! what is seen is a worth -/
theorem act_seen {b : BN} {k : Nat} {d : Deed} {c : Nat} (g : d.Good c) (h : ∀ w ∈ b.mem, w < 3) (h0 : ∀ w ∈ b.s0, w < 3) (h1 : ∀ w ∈ b.s1, w < 3) : (∀ w ∈ (b.act k d).s0, w < 3) ∧ ∀ w ∈ (b.act k d).s1, w < 3 := by
  cases d with
  | rest => exact ⟨h0, h1⟩
  | write c v => exact ⟨h0, h1⟩
  | read c =>
    have hv : b.mem.getD c 0 < 3 := by
      rw [List.getD_eq_getElem?_getD]
      cases hz : b.mem[c]? with
      | none => exact Nat.succ_pos _
      | some w => exact h w (List.mem_of_getElem? hz)
    show (∀ w ∈ (b.see k (b.mem.getD c 0)).s0, w < 3) ∧ ∀ w ∈ (b.see k (b.mem.getD c 0)).s1, w < 3
    unfold BN.see
    split
    · refine ⟨fun w hw => ?_, h1⟩
      rcases List.mem_append.mp hw with e | e
      · exact h0 w e
      · rw [List.mem_singleton.mp e]; exact hv
    · refine ⟨h0, fun w hw => ?_⟩
      rcases List.mem_append.mp hw with e | e
      · exact h1 w e
      · rw [List.mem_singleton.mp e]; exact hv
theorem ordTo_seen {l r : List Deed} {c : Nat} (gl : GoodP c l) (gr : GoodP c r) : ∀ (os : List Bool) (s : OS), (∀ w ∈ s.b.mem, w < 3) → (∀ w ∈ s.b.s0, w < 3) → (∀ w ∈ s.b.s1, w < 3) → (∀ w ∈ (os.foldl (OS.step l r) s).b.s0, w < 3) ∧ ∀ w ∈ (os.foldl (OS.step l r) s).b.s1, w < 3
  | [], s, h, h0, h1 => ⟨h0, h1⟩
  | o :: os, s, h, h0, h1 => by
    rw [List.foldl_cons]
    cases o with
    | true => exact ordTo_seen gl gr os _ (act_worth (deedAt_good gr _) h) (act_seen (deedAt_good gr _) h h0 h1).1 (act_seen (deedAt_good gr _) h h0 h1).2
    | false => exact ordTo_seen gl gr os _ (act_worth (deedAt_good gl _) h) (act_seen (deedAt_good gl _) h h0 h1).1 (act_seen (deedAt_good gl _) h h0 h1).2
theorem ord_seen {mem : List Nat} {l r : List Deed} {os : List Bool} (hm : MemOk mem) (gl : GoodP mem.length l) (gr : GoodP mem.length r) : (∀ w ∈ (ordOf mem l r os).s0, w < 3) ∧ ∀ w ∈ (ordOf mem l r os).s1, w < 3 :=
  ordTo_seen gl gr os _ hm.2.2 (fun _ h => (nomatch h)) (fun _ h => (nomatch h))
end DL
set_option Elab.async false
set_option linter.all false
set_option maxRecDepth 100000
set_option maxHeartbeats 4000000
/-! GB: a comprehension over a list, plainly; _law_orders read. -/
namespace DL
open PySem PySem.Spec L2

theorem ev_lcL {C : Cc} {ρ : List Sl} {te : TE} {wi : TI} {vs : List Nat} {j : Nat} {s : Sl} {α : Type} {xs : List α} {enc v : α → D} (hI : PEvI C wi ρ (xs.map enc).length (itemOf (xs.map enc))) (hn : xs.length ≤ 10000000) (hj : j ∈ vs)
    (he : ∀ x ∈ xs, PD C te ((wipeS ρ vs).set j (.d (enc x))) (v x)) (l : Lsl C.K (xs.map v) s) : PEv C (tLc wi (gName j) tYes te vs) ρ s := by
  have hi : ∀ {i : Nat}, i < (xs.map enc).length → ∃ (h : i < xs.length), itemOf (xs.map enc) i = enc xs[i] := fun {i} h => by
    have h : i < xs.length := by rw [List.length_map] at h; exact h
    exact ⟨h, itemOf_some (by rw [List.getElem?_map, List.getElem?_eq_getElem h]; rfl)⟩
  refine ev_lc (fun i => (wipeS ρ vs).set j (.d (itemOf (xs.map enc) i))) (fun _ => true) (fun i => (xs.map v).getD i .none) hI (by rw [List.length_map]; exact hn) (fun i _ => gp_name hj) (fun i _ => fun σ Hb H fp W Q q => q Hb H (Step.refl W.same)) (fun i h _ => ?_) ?_
  · obtain ⟨h1, h2⟩ := hi h
    rw [h2, List.getD_eq_getElem?_getD, List.getElem?_map, List.getElem?_eq_getElem h1]
    exact he _ (List.getElem_mem h1)
  · rw [made_all, List.length_map]
    have e : (List.range xs.length).map (fun i => (xs.map v).getD i .none) = xs.map v := by
      refine List.ext_getElem (by simp) fun i h1 h2 => ?_
      rw [List.getElem_map, List.getElem_range, List.getD_eq_getElem?_getD, List.getElem?_eq_getElem h2]; rfl
    rw [e]; exact l
def t_law_orders (K : PySem.W.Frag) (A : Ad) (spR : Sp) : TS :=
  (tSeq (tIfS (tOr (tTest (tOp (rEqD K) (tVar 0) (tC (.int 0)))) (tTest (tOp (rEqD K) (tVar 1) (tC (.int 0))))) (tRet (tLst (tCons (tOp (rAddA K) (tOp rMulA (tC (.str "l")) (tVar 0)) (tOp rMulA (tC (.str "r")) (tVar 1))) tNil))) tNext)
    (tRet (tOp (rAddA K) (tLc (iList K (tUser spR (tCons (tOp rSubA (tVar 0) (tC (.int 1))) (tCons (tVar 1) tNil)))) (gName 2) tYes (tOp (rAddA K) (tC (.str "l")) (tVar 2)) [2]) (tLc (iList K (tUser spR (tCons (tVar 0) (tCons (tOp rSubA (tVar 1) (tC (.int 1))) tNil)))) (gName 2) tYes (tOp (rAddA K) (tC (.str "r")) (tVar 2)) [2]))))
theorem allO_flat {n a b : Nat} (h : a = 0 ∨ b = 0) : allO n a b = [flat2 a b] := by
  cases n with
  | zero => rfl
  | succ n => unfold allO; rw [if_pos h]
def ordersRel (n : Nat) (ds : List D) (x : D) : Prop := ∃ a b : Nat, ds = [.int (a : Nat), .int (b : Nat)] ∧ a + b ≤ n ∧ n ≤ 12 ∧ x = .list ((allO (a + b) a b).map ordD)
def sp_ordersN (K : PySem.W.Frag) (n : Nat) : Sp := datSp K (ordersRel n)
def sp_ordersR (K : PySem.W.Frag) : Nat → Sp
  | 0 => fun _ _ _ _ => False
  | n + 1 => sp_ordersN K n
def sp_law_orders (K : PySem.W.Frag) (A : Ad) : Sp := sp_ordersN K 12
theorem rd_law_orders {C : Cc} {A : Ad} {n a b : Nat} (hn : a + b ≤ n) (h1 : n ≤ 12) : Ex C (t_law_orders C.K A (sp_ordersR C.K n)) [.d (.int (a : Nat)), .d (.int (b : Nat)), .no] (retD (.list ((allO (a + b) a b).map ordD))) := by
  have z : ∀ {i k : Nat} {ρ : List Sl}, ρ[i]? = some (.d (.int (k : Nat))) → PD C (tOp (rEqD C.K) (tVar i) (tC (.int 0))) ρ (.bool (decide (k = 0))) := fun {i k ρ} h => ev_is (ev_eqI (ev_var h) (ev_int (i := 0))) (by congr 1; rw [Bool.eq_iff_iff, beq_iff_eq, decide_eq_true_iff]; omega)
  refine ex_seq (ex_ifp (b := decide (a = 0) || decide (b = 0)) (et_or (et_test (z rfl)) fun _ => et_test (z rfl)) (fun e => ?_) fun e => ex_next ?_)
  · have e : a = 0 ∨ b = 0 := by simpa using e
    rw [allO_flat e]
    refine ex_ret (ef_d (ev_lst (ea_one (ev_is (ev_op (ev_op ev_l (ev_var rfl) (o2_mulS (by omega))) (ev_op ev_r (ev_var rfl) (o2_mulS (by omega))) (o2_addS (by rw [ordS_len, ordS_len, List.length_replicate, List.length_replicate]; omega))) ?_))) rfl)
    rw [ordS_app]; rfl
  · have e : ¬ (a = 0 ∨ b = 0) := by simpa using e
    have ha : a ≠ 0 := fun z => e (.inl z)
    have hb : b ≠ 0 := fun z => e (.inr z)
    obtain ⟨m, hm⟩ : ∃ m, a + b = m + 1 := ⟨a + b - 1, by omega⟩
    obtain ⟨k, rfl⟩ : ∃ k, n = k + 1 := ⟨n - 1, by omega⟩
    have e1 : allO (a + b) a b = (allO (a - 1 + b) (a - 1) b).map (false :: ·) ++ (allO (a + (b - 1)) a (b - 1)).map (true :: ·) := by
      have x1 : a - 1 + b = m := by omega
      have x2 : a + (b - 1) = m := by omega
      rw [hm, x1, x2]
      conv => lhs; unfold allO
      rw [if_neg e]
    have q1 := allO_len (a - 1 + b) (a - 1) b
    have q2 := allO_len (a + (b - 1)) a (b - 1)
    have p1 : 2 ^ (a - 1 + b) ≤ 2 ^ 12 := Nat.pow_le_pow_right (by decide) (by omega)
    have p2 : 2 ^ (a + (b - 1)) ≤ 2 ^ 12 := Nat.pow_le_pow_right (by decide) (by omega)
    have ml : ∀ (os : List Bool) (n a b : Nat), a + b = n → os ∈ allO n a b → os.length = n := fun os n a b h h2 => by
      have := (mem_allO n a b h os).mp h2
      have := count_tot os
      omega
    rw [e1, List.map_append, List.map_map, List.map_map]
    refine ex_ret (ef_d (ev_op (x := .list ((allO (a - 1 + b) (a - 1) b).map fun os => ordD (false :: os))) (y := .list ((allO (a + (b - 1)) a (b - 1)).map fun os => ordD (true :: os)))
      (ev_lcL (v := fun os => ordD (false :: os)) (enc := ordD) (xs := allO (a - 1 + b) (a - 1) b) (pi_l (ev_dat (f := ordersRel k) (x := .list ((allO (a - 1 + b) (a - 1) b).map ordD)) (ea_two (ev_is (ev_op (ev_var rfl) ev_int o2_subI) (y := .int ((a - 1 : Nat) : Int)) (by congr 1; omega)) (ev_var rfl)) ⟨a - 1, b, rfl, by omega, by omega, rfl⟩)) (by omega) (List.mem_singleton.mpr rfl) (fun os hos => ?_) .dat)
      (ev_lcL (v := fun os => ordD (true :: os)) (enc := ordD) (xs := allO (a + (b - 1)) a (b - 1)) (pi_l (ev_dat (f := ordersRel k) (x := .list ((allO (a + (b - 1)) a (b - 1)).map ordD)) (ea_two (ev_var rfl) (ev_is (ev_op (ev_var rfl) ev_int o2_subI) (y := .int ((b - 1 : Nat) : Int)) (by congr 1; omega))) ⟨a, b - 1, rfl, by omega, by omega, rfl⟩)) (by omega) (List.mem_singleton.mpr rfl) (fun os hos => ?_) .dat)
      (o2_addL (by rw [List.length_map, List.length_map]; omega) .dat)) rfl)
    · have := ml os _ _ _ rfl hos
      refine ev_is (ev_op ev_l (ev_var rfl) (o2_addS (by rw [ordS_one, ordS_len, ordS_len]; show 1 + _ ≤ _; omega))) ?_
      rw [ordS_one, ordS_app]; rfl
    · have := ml os _ _ _ rfl hos
      refine ev_is (ev_op ev_r (ev_var rfl) (o2_addS (by rw [ordS_one, ordS_len, ordS_len]; show 1 + _ ≤ _; omega))) ?_
      rw [ordS_one, ordS_app]; rfl
end DL
set_option Elab.async false
set_option linter.all false
set_option maxRecDepth 100000
set_option maxHeartbeats 4000000
/-! HA: a comprehension whose step may raise: the block's end. -/
namespace DL
open PySem PySem.Spec PyProof.Rows L2

/-- what the block's end is to meet: the name gets the list | the block's names go and it raises on -/
def endX (M : Model) (A : Around) (E : Value → Shared → Prop) (u : Value → Sem Unit) (Q : Value → Shared → Prop) (acc : Value) (ce : Env) (r : Result) (s' : Shared) : Prop :=
  (∀ f, r = .ok f → wpAny M A (u acc) (fun _ s2 => ∃ m, s2.heap.Ns ce.locals m ∧ ∀ h2, Heap.SameBut ce.locals s2.heap h2 → Q .none { s2 with heap := h2 }) E s') ∧
    ∀ x, r = .error x → ∃ m, s'.heap.Ns ce.locals m ∧ ∀ h2, Heap.SameBut ce.locals s'.heap h2 → wpAny M A (passOn "comprehension.variables-let-go" x ce : Sem Value) (fun _ _ => False) E { s' with heap := h2 }
theorem comp_useX {M : Model} {A : Around} {E : Value → Shared → Prop} {s : Shared} {env : Env} {e : Expr} {scope : Scope} {pos : Pos} {newAcc first : Sem Value} {g : Comprehension} {gs : List Comprehension} {cl : List (Str × Addr)} {u : Value → Sem Unit} {Q : Value → Shared → Prop}
    (h1 : clausesOf e = g :: gs) (h2 : ∀ x, foldedSetIterable g.iter env x = pure x) (h3 : closureFor scope env = pure cl) (h4 : scope.kind = .function) (h5 : ∀ x ∈ scope.names, x.2 = .local → scope.names.lookup x.1 = some .local)
    (h : wpAny M A first (fun x s1 => wpAny M A (pyIter x) (fun it s2 => wpAny M A newAcc (fun acc s3 => wpAny M A (newFunctionEnv scope env.globals cl [] env.qual none .none (some env)) (fun ce s4 =>
      codeAny M A (.compStart e 0 it acc { ce with scope := relabel scope env }) (endX M A E u Q acc { ce with scope := relabel scope env }) s4) E s3) E s2) E s1) E s) :
    wpAny M A (comprehension e scope env pos newAcc false first (some u)) Q E s := by
  unfold comprehension
  rw [h3, h1]
  refine wpAny_bind (wpAny_mono h (fun x s1 k1 => ?_) fun _ _ z => z)
  refine wpAny_bind (wpAny_standAt ?_)
  refine wpAny_bind (wpAny_of_eq (h2 x) ?_)
  refine wpAny_bind (wpAny_holding (wpAny_mono k1 (fun it s2 k2 => ?_) fun _ _ z => z))
  refine wpAny_standIf ?_
  refine wpAny_bind (wpAny_mono k2 (fun acc s3 k3 => ?_) fun _ _ z => z)
  refine wpAny_bind (wpAny_pure ?_)
  refine wpAny_bind (wpAny_mono k3 (fun ce s4 k4 => ?_) fun _ _ z => z)
  dsimp only
  have loc : ∀ x ∈ scope.names, x.2 = .local → Env.kindOf { ce with scope := relabel scope env } x.1 = some .local := fun x hx hl => lookup_relabel_local (h5 x hx hl)
  have names : ∀ x ∈ (scope.names.filter fun x => (x.2 == .local || x.2 == .cell) && x.1 != (".0" : Str)).reverse, x.2 = .local → Env.kindOf { ce with scope := relabel scope env } x.1 = some .local :=
    fun x hx => loc x (List.mem_filter.mp (List.mem_reverse.mp hx)).1
  have turned : ∀ x ∈ (scope.names.filter fun x => (x.2 == .local || x.2 == .cell) && x.1 != (".0" : Str)).reverse.drop 1 ++ (scope.names.filter fun x => (x.2 == .local || x.2 == .cell) && x.1 != (".0" : Str)).reverse.take 1,
      x.2 = .local → Env.kindOf { ce with scope := relabel scope env } x.1 = some .local := fun x hx => names x (by
    rcases List.mem_append.mp hx with z | z
    · exact List.mem_of_mem_drop z
    · exact List.mem_of_mem_take z)
  refine wpAny_holding ?_
  refine wpAny_bind (wpAny_attempt ?_)
  refine wpAny_holding (wpAny_run ?_)
  refine codeAny_mono k4 fun r s5 k5 => ?_
  cases r with
  | ok f =>
    refine wpAny_bind (wpAny_rule ?_)
    refine wpAny_bind (wpAny_holding (wpAny_mono (k5.1 f rfl) (fun _ s6 k6 => ?_) fun _ _ z => z))
    obtain ⟨m, hn, k6⟩ := k6
    refine wpAny_bind (wpAny_comp_letGo (cenv := { ce with scope := relabel scope env }) h4 _ s6 m turned hn fun h6 _ _ hs => ?_)
    exact wpAny_pure (k6 h6 hs)
  | error x =>
    obtain ⟨m, hn, k6⟩ := k5.2 x rfl
    refine wpAny_bind (wpAny_holding (wpAny_comp_letGo (cenv := { ce with scope := relabel scope env }) h4 _ s5 m names hn fun h6 _ _ hs => ?_))
    exact wpAny_mono (k6 h6 hs) (fun _ _ z => False.elim z) fun _ _ z => z
/-! ### an exception in the air, an object C that nobody tracks left out -/
def XO (X : Cx) (W : XK) (C : Addr) (u : Value) (s' : Shared) : Prop :=
  ∃ (a : Addr) (B : Heap) (sI : Shared) (pins : List (Addr × Obj)) (σ : L2.St) (H : Hp) (cls : Value) (d : Option Addr), u = .ref a ∧ Inv X pins σ H sI ∧ (∀ b o, sI.heap.get? b = some o → b ∉ frs X.stack → B.get? b = some o) ∧ sI.heap.UpToSlots s'.heap ∧
    (HandSPX.FlyingZ B X.stack a (Zc cls d) s'.heap ∨ HandSPX.HeldZ B X.stack a (Zc cls d) X.env.locals s'.heap) ∧ H a = none ∧ s'.os = sI.os ∧ AllBare s'.gens ∧ W cls d H ∧
    sI.heap.get? C = none ∧ B.get? C = none ∧ C ∉ frs X.stack ∧ ∃ m, s'.heap.Ns C m
theorem XO.xe {X : Cx} {W : XK} {C : Addr} {u : Value} {s' : Shared} (x : XO X W C u s') : XE X (fun cls d _ H => W cls d H) u s' := by
  obtain ⟨a, B, sI, pins, σ, H, cls, d, e, I, nb, up, sky, na, os, ag, w, _⟩ := x
  exact ⟨a, B, sI, pins, σ, H, cls, d, e, I, nb, up, .inr sky, na, os, ag, w⟩
end DL
set_option Elab.async false
set_option linter.all false
set_option maxRecDepth 100000
set_option maxHeartbeats 4000000
/-! HB: an exception out of a block: told in the def's own context. -/
namespace DL
open PySem PySem.Spec PyProof.Rows L2

/-- in the air over X, k: noted by X's own frame; C, that nobody tracks, left out -/
def XP (X : Cx) (W : XK) (C : Addr) (k : Bool) (u : Value) (s' : Shared) : Prop :=
  ∃ (a : Addr) (B : Heap) (sI : Shared) (pins : List (Addr × Obj)) (σ : L2.St) (H : Hp) (cls : Value) (d : Option Addr), u = .ref a ∧ Inv X pins σ H sI ∧ (∀ b o, sI.heap.get? b = some o → b ∉ frs X.stack → B.get? b = some o) ∧ sI.heap.UpToSlots s'.heap ∧
    (if k = true then HandSPX.HeldZ B X.stack a (Zc cls d) X.env.locals s'.heap else HandSPX.FlyingZ B X.stack a (Zc cls d) s'.heap) ∧ H a = none ∧ s'.os = sI.os ∧ AllBare s'.gens ∧ W cls d H ∧
    sI.heap.get? C = none ∧ B.get? C = none ∧ C ∉ frs X.stack ∧ ∃ m, s'.heap.Ns C m
theorem XP.of_call {X : Cx} {pins pins' : List (Addr × Obj)} {σ σ' : L2.St} {H3 H : Hp} {s3 s s' : Shared} {scope : Scope} {ce : Env} {fp : List Addr} {W : XK} {u : Value} (I3 : Inv X pins σ H3 s3) (f3 : ∀ b ∈ fp, FpOk X pins H3 b ∧ b < s3.heap.objs.size)
    (hce : ce.locals = s3.heap.objs.size) (I : Inv (X.blk s3 H3 scope ce fp) pins' σ' H s) (c : L2.CX X.prog X.w X.stack H s W u s') : XP X W ce.locals false u s' := by
  obtain ⟨a, B, H', cls, d, rfl, fl, hok, ub, na, os, ag, hE⟩ := c
  have cs : ∀ b o, s3.heap.get? b = some o → b ≠ ce.locals := fun b o e z => by
    have := Heap.lt_size e
    rw [z, hce] at this
    exact Nat.lt_irrefl _ this
  have cf : ce.locals ∉ frs X.stack := fun hm => by
    obtain ⟨_, o, ho, _⟩ := I3.stack.mem hm
    exact cs _ o ho rfl
  have st : B.StaysIn s'.heap := fl.1
  obtain ⟨m, hns, _⟩ := I.loc
  have hns : s.heap.Ns ce.locals m := hns
  have hfree : H ce.locals = none := I.free
  have cH : H' ce.locals = none := by
    obtain ⟨o, _, _, ho, _⟩ := id hns
    exact ub.free _ o ho hfree
  have hns' : s'.heap.Ns ce.locals m := hns.at fun o ho => st _ _ (ub.keep _ o ho hfree cf)
  obtain ⟨G, g1, g2⟩ := restrict s'.heap fun b => ((B.get? b).isSome || decide (b ∈ frs X.stack)) && decide (b ≠ ce.locals)
  obtain ⟨B2, b1, b2⟩ := restrict B fun b => decide (b ≠ ce.locals)
  have bo : ∀ b o, B2.get? b = some o → B.get? b = some o := fun b o e => by
    by_cases hb : b = ce.locals
    · rw [b2 b (by simp [hb])] at e; cases e
    · rw [b1 b (by simp [hb])] at e; exact e
  have bn : ∀ b, B.get? b = none → B2.get? b = none := fun b e => by
    cases q : B2.get? b with
    | none => rfl
    | some o => rw [bo b o q] at e; cases e
  have gB : ∀ b o, B.get? b = some o → b ≠ ce.locals → G.get? b = some o := fun b o e hb => by
    rw [g1 b (by simp [e, hb])]
    exact st b o e
  have gF : ∀ b, b ∈ frs X.stack → G.get? b = s'.heap.get? b := fun b hb => g1 b (by
    have : b ≠ ce.locals := fun z => cf (z ▸ hb)
    simp [hb, this])
  have og : ∀ b o, G.get? b = some o → s'.heap.get? b = some o ∧ b ≠ ce.locals ∧ ((B.get? b).isSome = true ∨ b ∈ frs X.stack) := fun b o e => by
    cases q : (((B.get? b).isSome || decide (b ∈ frs X.stack)) && decide (b ≠ ce.locals)) with
    | false => rw [g2 b q] at e; cases e
    | true =>
      rw [g1 b q] at e
      rw [Bool.and_eq_true, Bool.or_eq_true, decide_eq_true_iff, decide_eq_true_iff] at q
      exact ⟨e, q.2, q.1⟩
  have gn : ∀ {b : Addr} {o : Obj}, s.heap.get? b = some o → b ≠ ce.locals → ∃ o', G.get? b = some o' := fun {b o} e hb => by
    by_cases hf : b ∈ frs X.stack
    · obtain ⟨sl, q⟩ := ub.slot b o e hf
      exact ⟨_, by rw [gF b hf]; exact q⟩
    · obtain ⟨o', q⟩ := ub.there b o e hf
      exact ⟨o', gB b o' q hb⟩
  have base : Un (frs X.stack) fp H3 H s3.heap s.heap := I.base
  have un : Un (frs X.stack) fp H3 H' s3.heap G := {
    keep := fun b o e n hf hx => gB b o (ub.keep b o (base.keep b o e n hf hx) (base.free b o e n hx) hf) (cs b o e)
    slot := fun b o e n hf hx => by
      obtain ⟨sl, q⟩ := base.slot b o e n hf hx
      obtain ⟨sl2, q2⟩ := ub.slot b _ q hf
      exact ⟨sl2, by rw [gF b hf]; exact q2⟩
    free := fun b o e n hx => by
      obtain ⟨o', q⟩ := base.there b o e hx
      exact ub.free b o' q (base.free b o e n hx)
    there := fun b o e hx => by
      obtain ⟨o', q⟩ := base.there b o e hx
      exact gn q (cs b o e)
    tups := fun b xs e => ub.tups b xs (base.tups b xs e)
    frzs := fun b o v e => ub.frzs b o v (base.frzs b o v e)
    tbls := fun b ps e => by
      obtain ⟨m1, q1⟩ := base.tbls b ps e
      obtain ⟨m2, q2⟩ := ub.tbls b _ q1
      exact ⟨m1 ++ m2, by rw [← Array.append_assoc]; exact q2⟩ }
  have okG : HOk X.prog X.w H' G := fun b o q => (hok b o q).stay (fun c v hc r => gB c v r fun z => by
    rcases hc with hc | hc
    · rw [← hc, z, cH] at q; cases q
    · rw [z, cH] at hc; cases hc) (fun _ r => r) fun _ _ r => r
  have J : Inv X pins σ H' { s3 with heap := G, gens := s'.gens, drawn := s'.drawn, toks := s'.toks } :=
    I3.call' (ch := fp) rfl un okG ag fun b hb => ⟨(f3 b hb).1.2.2.2.1, (f3 b hb).1.2.1, (f3 b hb).1.2.2.2.2.1, (f3 b hb).1.2.2.2.2.2⟩
  refine ⟨a, B2, _, pins, σ, H', cls, d, rfl, J, fun b o e hb => ?_, Heap.UpToSlots.of_keeps fun b o e => (og b o e).1, ?_, na, os.trans I.os, ag, hE, g2 _ (by simp), b2 _ (by simp), cf, m, hns'⟩
  · obtain ⟨h1, h2, h3⟩ := og b o e
    rcases h3 with h3 | h3
    · obtain ⟨o', q⟩ := Option.isSome_iff_exists.mp h3
      have z := st b o' q
      rw [h1] at z; cases z
      rw [b1 b (by simp [h2])]; exact q
    · exact absurd h3 hb
  · rw [if_neg Bool.false_ne_true]
    obtain ⟨f1, f2, f4, oe, vs, T, oT, ts, e1, e2, e3, e4, e5, e6, e7, e8, e9⟩ := fl
    exact ⟨fun b o e => f1 b o (bo b o e), bn _ f2, funFrames_none f4 fun L hL => bn _ (f4.mem hL).1, oe, vs, T, oT, ts, e1, e2, e3, e4, bn _ e5, e6, e7, e8, e9⟩
theorem ns_slots {h h' : Heap} {C : Addr} {m : Str → Option Value} (hn : h.Ns C m) (up : h.UpToSlots h') : h'.Ns C m := by
  obtain ⟨o, es, ep, e, hd, hk, hf⟩ := hn
  obtain ⟨sl, q⟩ := up C o e (fun vs z => by rw [hd] at z; cases z)
  exact ⟨_, es, ep, q, hd, hk, hf⟩
/-- noted by a block's frame, which is the def's -/
theorem XP.note {X : Cx} {W : XK} {C : Addr} {u : Value} {s : Shared} {ce : Env} {E : Value → Shared → Prop} (hs : X.stack = X.env :: X.outer) (hf : X.env.frame = some X.env.locals) (hce : ce.frame = X.env.frame) (x : XP X W C false u s) :
    wpAny (model X.prog X.w) X.A (noteFrame u ce) (fun _ s' => XP X W C true u s') E s := by
  obtain ⟨a, B, sI, pins, σ, H, cls, d, rfl, I, nb, up, sky, na, os, ag, w, c1, c2, c3, m, hn⟩ := x
  rw [if_neg Bool.false_ne_true] at sky
  have e : noteFrame (.ref a) ce = noteFrame (.ref a) X.env := by unfold noteFrame PySem.frameOf; rw [hce]
  rw [e]
  have hq : X.A.frames = some (X.env :: X.outer) := I.ok.frames.trans (congrArg some hs)
  rw [hs] at sky
  refine HandSPX.looks_onZ Zc.steady hq hf sky fun h' hh up2 => ?_
  refine ⟨a, B, sI, pins, σ, H, cls, d, rfl, I, nb, up.trans up2, ?_, na, os, ag, w, c1, c2, c3, m, ns_slots hn up2⟩
  rw [if_pos rfl, hs]; exact hh
theorem frames_but {base h h' : Heap} {C : Addr} (hb : Heap.SameBut C h h') : ∀ {l : List Env}, h.FunFrames base l → C ∉ frs l → h'.FunFrames base l
  | [], _, _ => trivial
  | env :: l, hl, hc => by
    obtain ⟨h1, ⟨L, o, h2, h3, h4, h5⟩, h6⟩ := hl
    have hm : ∀ b, b ∈ frs l → b ∈ frs (env :: l) := fun b q => by
      obtain ⟨e, he, z⟩ := List.mem_filterMap.mp q
      exact List.mem_filterMap.mpr ⟨e, List.mem_cons_of_mem _ he, z⟩
    exact ⟨h1, ⟨L, o, h2, h3, (hb.2 L fun z => hc (z ▸ List.mem_filterMap.mpr ⟨env, List.mem_cons_self, h2⟩)).trans h4, h5⟩, frames_but hb h6 fun z => hc (hm _ z)⟩
/-- the block's names go, and it raises on -/
theorem XP.pass {X : Cx} {W : XK} {C : Addr} {u : Value} {s : Shared} {h' : Heap} {ce : Env} (hs : X.stack = X.env :: X.outer) (hf : X.env.frame = some X.env.locals) (hce : ce.frame = X.env.frame) (tk : Takes X fun cls d _ H => W cls d H)
    (x : XP X W C true u s) (hb : Heap.SameBut C s.heap h') : wpAny (model X.prog X.w) X.A (passOn "comprehension.variables-let-go" u ce : Sem Value) (fun _ _ => False) X.xe { s with heap := h' } := by
  obtain ⟨a, B, sI, pins, σ, H, cls, d, rfl, I, nb, up, sky, na, os, ag, w, c1, c2, c3, m, hn⟩ := x
  rw [if_pos rfl] at sky
  obtain ⟨f1, f2, f4, oe, vs, T, oT, ts, e1, e2, e3, e4, e5, e6, e7, e8, e9⟩ := sky
  have hC : ∀ {b : Addr} {o : Obj} {vs : Array Value}, s.heap.get? b = some o → o.data = .fields vs → b ≠ C := fun {b o vs} e q z => by
    obtain ⟨o', es, ep, e', hd, _⟩ := hn
    rw [z, e'] at e; cases e
    rw [hd] at q; cases q
  have a1 := (hb.2 a (hC e1 e3)).trans e1
  have up' : sI.heap.UpToSlots h' := fun b o e q => by
    obtain ⟨sl, z⟩ := up b o e q
    exact ⟨sl, (hb.2 b fun y => by rw [y, c1] at e; cases e).trans z⟩
  have held : HandSPX.HeldZ B X.stack a (Zc cls d) X.env.locals h' := ⟨fun b o e => (hb.2 b fun y => by rw [y, c2] at e; cases e).trans (f1 b o e), f2, frames_but hb f4 c3, oe, vs, T, oT, ts, a1, e2, e3, e4, e5, e6, (hb.2 T (hC e7 e8)).trans e7, e8, e9⟩
  have goes : wpAny (model X.prog X.w) X.A (setFlight (.ref a) ce.frame) (fun _ s4 => wpAny (model X.prog X.w) X.A (throw (.ref a) : Sem Value) (fun _ _ => False) X.xe s4) X.xe { s with heap := h' } := by
    rw [hce, hf]
    refine HandSPX.setFlight_onZ (s := { s with heap := h' }) held fun h4 held4 up4 => ?_
    exact wpAny_throw (tk _ _ ⟨a, B, sI, pins, σ, H, cls, d, rfl, I, nb, up'.trans up4, .inr (.inr held4), na, os, ag, w⟩)
  unfold PySem.passOn
  refine wpAny_bind (wpAny_field (s := { s with heap := h' }) a1 e3 e4 ?_)
  have nn : ¬ (Value.ref T == Value.none) = true := by simp
  rw [if_neg nn]
  first
    | exact wpAny_bind goes
    | exact wpAny_bind (wpAny_pure (wpAny_bind goes))
end DL
set_option Elab.async false
set_option linter.all false
set_option maxRecDepth 100000
set_option maxHeartbeats 4000000
/-! HC: name = [elt for target in iter], elt may raise. -/
namespace DL
open PySem PySem.Spec PyProof.Rows L2

theorem inv_xe {X : Cx} {pins : List (Addr × Obj)} {σ : L2.St} {H : Hp} {s : Shared} {xe : Value → Shared → Prop} (I : Inv X pins σ H s) : Inv (X.tr X.pn xe) pins σ H s :=
  ⟨I.ok.toTry _ _, I.os, I.bare, I.base, I.loc, I.cell, I.free, I.freeC, I.pin, I.hok, I.len⟩
theorem inv_ux {X : Cx} {pins : List (Addr × Obj)} {σ : L2.St} {H : Hp} {s : Shared} {xe : Value → Shared → Prop} (I : Inv (X.tr X.pn xe) pins σ H s) : Inv X pins σ H s :=
  ⟨I.ok.ofTry, I.os, I.bare, I.base, I.loc, I.cell, I.free, I.freeC, I.pin, I.hok, I.len⟩
/-- a block's context, what raises told by xe -/
abbrev bX (X : Cx) (s : Shared) (H : Hp) (scope : Scope) (cl : List (Str × Addr)) (C : Addr) (fp : List Addr) (xe : Value → Shared → Prop) : Cx := (X.blk s H scope (compEnvC scope cl C X.env) fp).tr [] xe
theorem ps_setLcX {X : Cx} {E : XK} {i : Nat} {y : Str} {py : Pos} {elt tg iter : Expr} {scope : Scope} {own : List (Str × Nat)} {pos spos : Pos} {wi : TI} {g : TG} {te : TE} (hc : X.calm = true) (hN : X.N.Nodup) (hy : X.N[i]? = some y) (hyl : X.env.scope.names.lookup y = some .local)
    (hsw : swapsWith (.ListComp elt [⟨tg, iter, [], 0⟩] scope pos) (some (.Name y py)) spos.line X.env = pure true) (hs : X.stack = X.env :: X.outer) (hf : X.env.frame = some X.env.locals) (tk : Takes X fun cls d _ H => E cls d H) (hi : PI X tg iter wi) (ok : BlkOk X.N X.env.scope scope own)
    (hg : ∀ s H C cl fp xe, PG (bX X s H scope cl C fp xe) tg g) (he : ∀ s H C cl fp xe, (∀ σ, PassesAt (L2.CX X.prog X.w) (bX X s H scope cl C fp xe) σ E) → PE (bX X s H scope cl C fp xe) elt te) (hsi : ∀ x, foldedSetIterable iter X.env x = pure x := by intro _; rfl) :
    PS X (.Assign [.Name y py] (.ListComp elt [⟨tg, iter, [], 0⟩] scope pos) spos) (tAsg (tLc wi g tYes te (own.map (·.2))) (gName i)) := by
  refine ⟨fun pins s σ H D I h => ?_⟩
  rw [exec_Assign_Name_used _ _ _ _ hsw]
  refine wpAny_bind (wpAny_standAt (wpAny_bind ?_))
  show wpAny _ X.A (do
    let _ ← comprehension (.ListComp elt [⟨tg, iter, [], 0⟩] scope pos) scope X.env (firstIterPos [⟨tg, iter, [], 0⟩] pos) (newList []) false (eval iter X.env) (some (assign (.Name y py) X.env))) _ _ s
  have h : tLc wi g tYes te (own.map (·.2)) σ H (fun x H1 => gName i x σ H1 D.nx) := h
  have cells : ∀ z ∈ scope.names, z.2 = .free → ∃ c, X.env.cells.lookup z.1 = some c := fun z hz e => I.ok.has _ (ok.free z hz e)
  refine wpAny_bind (wpAny_mono (comp_useX (M := model X.prog X.w) (Q := fun _ s' => SP X pins D .next s') rfl hsi (closure_ok cells) ok.kind (fun z hz e => by rw [ok.uniq z hz, e]) ?_) (fun _ s' q => wpAny_pure (wpAny_pure q)) fun _ _ z => z)
  refine thn (hi.run pins s σ H _ I h) fun xv s1 hx => ?_
  refine thn hx fun itv s2 h2 => ?_
  obtain ⟨it, fp, tn, J, H2, e, I2, T, st2, f2, q⟩ := h2
  subst e
  refine wpAny_newObj_type (newEnv_comp ?_) (Nat.zero_le _)
  generalize hD : s2.heap.objs.size = L
  have hL : H2 L = none := I2.hok.fresh (Nat.le_of_eq hD)
  obtain ⟨Wt, ⟨m0, w0⟩, turn⟩ := q L hL
  generalize hs3 : ({ s2 with heap := s2.heap.push { cls := .type "list", data := .seq ([] : List Value).toArray } } : Shared) = s3
  have h3 : s3.heap = s2.heap.push { cls := .type "list", data := .seq ([] : List Value).toArray } := by rw [← hs3]
  have kp3 : ∀ b o, s2.heap.get? b = some o → s3.heap.get? b = some o := fun b o z => by rw [h3]; exact Heap.get?_push_of_some _ z
  have I3 : Inv X pins σ (upd H2 L (.lst [])) s3 := by
    rw [← hs3]
    refine I2.laid (t' := s2.toks) (fun b o z => Heap.get?_push_of_some _ z) (Nat.le_of_eq hD) ⟨Nat.zero_le _, [], 0, .nil, ?_⟩
    rw [← hD]
    exact Heap.get?_push_size _ rfl
  have lt2 : ∀ b ∈ fp, b < s2.heap.objs.size := fun b hb => let ⟨o, z, _⟩ := T.obj _ _ st2 b hb; Heap.lt_size z
  have f3 : ∀ b ∈ fp, FpOk X pins (upd H2 L (.lst [])) b ∧ b < s3.heap.objs.size := fun b hb => by
    have lt := lt2 b hb
    refine ⟨⟨?_, (f2 b hb).2⟩, by rw [h3, Heap.size_push]; exact Nat.lt_succ_of_lt lt⟩
    rw [upd_ne (fun z => by rw [z, ← hD] at lt; exact Nat.lt_irrefl _ lt)]
    exact (f2 b hb).1
  have st3 : tn 0 s3.heap := T.keep _ _ _ st2 fun b _ o z => kp3 b o z
  have I4 := block_start I3 ok hN f3
  show codeAny _ _ (.compStart (.ListComp elt [⟨tg, iter, [], 0⟩] scope pos) 0 (.ref it) (.ref L) (compEnvC scope (cellsFrom (s3.heap.objs.size + 1) scope.names (cloFrom X.env.cells scope.names [])) s3.heap.objs.size X.env)) (endX (model X.prog X.w) X.A X.xe (assign (.Name y py) X.env) (fun _ s' => SP X pins D .next s') (.ref L) (compEnvC scope (cellsFrom (s3.heap.objs.size + 1) scope.names (cloFrom X.env.cells scope.names [])) s3.heap.objs.size X.env)) { s3 with heap := pushCells (s3.heap.push { cls := .type "dict", data := .dict #[] }) scope.names }
  generalize hcl : cellsFrom (s3.heap.objs.size + 1) scope.names (cloFrom X.env.cells scope.names []) = cl at I4 ⊢
  generalize hH3 : upd H2 L (.lst []) = H3 at I3 I4 w0 f3 ⊢
  have nfp : ∀ b ∈ fp, H3 b = none := fun b hb => (f3 b hb).1.1
  generalize hs4 : ({ s3 with heap := pushCells (s3.heap.push { cls := .type "dict", data := .dict #[] }) scope.names } : Shared) = s4 at I4 ⊢
  have st4 : tn 0 s4.heap := T.keep _ _ _ st3 fun b _ o z => by rw [← hs4]; exact pushCells_keeps _ _ _ _ (Heap.get?_push_of_some _ z)
  generalize hce : compEnvC scope cl s3.heap.objs.size X.env = ce at I4 ⊢
  have cL : ce.locals = s3.heap.objs.size := by rw [← hce]; rfl
  have cF : ce.frame = X.env.frame := by rw [← hce]; rfl
  have pg := hg s3 H3 s3.heap.objs.size cl fp (fun u s' => XP X E ce.locals false u s')
  have pe := he s3 H3 s3.heap.objs.size cl fp (fun u s' => XP X E ce.locals false u s') (by
    unfold bX; rw [hce]
    exact fun σ' pins' H' s' u s'' I' c => XP.of_call I3 f3 cL (inv_ux I') c)
  unfold bX at pg pe
  rw [hce] at pg pe
  have stat : ∀ {σ' : L2.St} {H' : Hp} {s' : Shared}, Inv (X.blk s3 H3 scope ce fp) [] σ' H' s' → (∀ b ∈ fp, H' b = none) → ∀ b ∈ fp, FpOk (X.blk s3 H3 scope ce fp) [] H' b := fun {σ' H' s'} I' n b hb =>
    ⟨n b hb, (I'.ok.exf b hb).1, I'.ok.exfs b hb, .inl hb, (I'.ok.exf b hb).2, fun p hp => (nomatch hp)⟩
  have raise : ∀ (u : Value) (s' : Shared), XP X E ce.locals false u s' → notedBy (model X.prog X.w) X.A ce (fun e s2 => endX (model X.prog X.w) X.A X.xe (assign (.Name y py) X.env) (fun _ s' => SP X pins D .next s') (.ref L) ce (.error e) s2) u s' := fun u s' x => by
    refine wpAny_mono (x.note (E := fun _ _ => False) hs hf cF) (fun _ s2 x2 => ⟨fun f z => (nomatch z), fun v z => ?_⟩) fun _ _ z => z.elim
    cases z
    obtain ⟨a, B, sI, pi, σ', H', cls, d, e1, e2, e3, e4, e5, e6, e7, e8, e9, c1, c2, c3, m, hn⟩ := id x2
    exact ⟨m, hn, fun h2 hb => x2.pass hs hf cF tk hb⟩
  have loop : codeAny (model X.prog X.w) X.A (.compLoop (.ListComp elt [⟨tg, iter, [], 0⟩] scope pos) 0 (.ref it) (.ref L) ce) (endX (model X.prog X.w) X.A X.xe (assign (.Name y py) X.env) (fun _ s' => SP X pins D .next s') (.ref L) ce) s4 := by
    refine compLoop_any (fun n s' => ∃ j H', Inv (X.blk s3 H3 scope ce fp) [] (wipe σ (own.map (·.2))) H' s' ∧ tn j s'.heap ∧ (∀ b ∈ fp, H' b = none) ∧ Wt j n H') (fun n s5 hn5 => ?_) m0 ⟨0, H3, I4, st4, nfp, w0⟩
    obtain ⟨j, H5, I5, st5, n5, w5⟩ := hn5
    rcases turn j n H5 w5 with ⟨stop, qq⟩ | ⟨go, Nx, hNx, step⟩
    · refine thnF (T.done (X.blk s3 H3 scope ce fp) rfl rfl rfl hc j [] s5 _ H5 (fun _ _ => False) I5 (stat I5 n5) st5 stop) fun r s6 hr6 => ?_
      obtain ⟨hr, I6⟩ := hr6
      subst hr
      have I7 : Inv X pins σ H5 s6 := I3.call' (ch := fp) I6.os I6.base I6.hok I6.bare fun b hb => let ⟨_, k1, _, k3, k4, k5⟩ := (f3 b hb).1; ⟨k3, k1, k4, k5⟩
      obtain ⟨m, hn, _⟩ := I6.loc
      have hn : s6.heap.Ns ce.locals m := hn
      have nC : H5 ce.locals = none := I6.free
      have fC : FpOk X pins H5 ce.locals := I3.fpOk (Nat.le_of_eq cL.symm) nC
      refine ⟨fun f _ => ?_, fun x z => (nomatch z)⟩
      obtain ⟨f0, f1, f2', f3', f4, f5⟩ := fC
      refine wpAny_assign_Name (store_ok2 (v := V.ref L) I7 hN hy (.inl hyl) rfl (fun s8 I8 h8 => ?_) (.inr hyl))
      obtain ⟨a, sb, ha⟩ := h8
      have ne : ce.locals ≠ a := fun z => by
        rcases ha with w | w
        · exact f1 (z.trans w)
        · exact f4 y a w z.symm
      exact ⟨m, hn.sameBut sb ne, fun h9 sb9 => ⟨_, H5, I8.turned (t' := s8.toks) (fun b o hb z => (sb9.2 b hb).trans z) f0 f1 f3' f4 f5, qq⟩⟩
    · refine thnF (T.item (X.blk s3 H3 scope ce fp) rfl rfl rfl hc j [] s5 _ H5 (fun _ _ => False) I5 (stat I5 n5) st5 go) fun r s6 hr6 => ?_
      obtain ⟨u, hr, h6⟩ := hr6
      subst hr
      refine thnF h6 fun _ s7 h7 => ?_
      obtain ⟨x, H7, I7, r7, y7, st7, n7⟩ := h7
      have I7' := I7.pinned (stat I7 n7) (T.obj _ _ st7)
      refine wpAny_mono (pg.run _ s7 _ H7 x u _ (inv_xe I7') r7 (step x H7 y7)) (fun _ s8 h8 => ?_) fun e' s' z => raise e' s' z
      obtain ⟨σ8, H8, I8, hw8, q8⟩ := h8
      refine wpAny_tests_nil ?_
      have q8 : te σ8 H8 fun yv H4 => ∃ acc, H4 L = some (.lst acc) ∧ acc.length < sizeLine ∧ Nx (upd H4 L (.lst (acc ++ [yv]))) := q8
      rw [if_pos rfl]
      refine wpAny_mono (pe.run _ s8 σ8 H8 _ I8 q8) (fun z s10 h10 => ?_) fun e' s' z => raise e' s' z
      obtain ⟨yv, H10, I10, r10, acc, hA, hz, nx⟩ := h10
      refine app_ok (X := X.blk s3 H3 scope ce fp) (inv_ux I10) hA hz r10 fun s11 I11 => ?_
      obtain ⟨m', hm, w'⟩ := hNx _ nx
      have still : ∀ b ∈ fp, ∀ o, s7.heap.get? b = some o → s11.heap.get? b = some o ∧ upd H10 L (.lst (acc ++ [yv])) b = none := fun b hb o z =>
        let k := I11.pin (b, o) (List.mem_append_right _ (List.mem_append_right _ (mem_pinsAt hb z)))
        ⟨k.1, k.2.1⟩
      refine ⟨m', hm, j + 1, _, (I11.unpinned (pins := [])).weak (by rw [← hw8, wipe_length]) (fun p v z => ?_), T.keep _ _ _ st7 fun b hb o z => (still b hb o z).1, fun b hb => ?_, w'⟩
      · rw [← hw8] at z
        exact (wipe_some z).1
      · obtain ⟨o, z, _⟩ := T.obj _ _ st7 b hb
        exact (still b hb o z).2
  exact codeAny_compStart_list loop (T.self X.A 0 _ _ _ st4 loop)
end DL
set_option Elab.async false
set_option linter.all false
set_option maxRecDepth 100000
set_option maxHeartbeats 4000000
/-! HD: an own exception over an own exception, of two fields: made, raised; what a def that raises promises. -/
namespace DL
open PySem PySem.Spec PyProof.Rows L2

/-- what is asked of D, an own class over ValueError without an own __init__ -/
structure DInit (K : PySem.W.Frag) (D : Addr) : Prop where
  g : PySem.W.specialIn K (.ref D) "__getattribute__" = some (some (.builtin "type.__getattribute__"))
  r : PySem.W.readsIn K D (.type "type") = true
  v : PySem.W.findCls K (.ref D) (.type "type") "__init__" = some (.val (.builtin "ValueError.__init__"))
/-- D.__init__(self, ..) -/
theorem pe_dinit {X : Cx} {D : Addr} {x : Str} {e : Expr} {es : List Expr} {ta : TA} {p1 p2 pos : Pos} {pl : Sem Bool} (hg : Gl X x) (hm : X.mg x = some (.ref D)) (hD : DInit X.K D) (ha : PA X (e :: es) ta)
    (hc : eval (.Call (.Attribute (.Name x p1) "__init__" p2) (e :: es) [] pos) X.env = (do
      let ov ← eval (.Name x p1) X.env
      standAt p2.atName
      let (fx, st) ← holding [ov] (getMethod ov "__init__" pl)
      callWith pos fx st (backTo pos (starEach (e :: es) X.env)) (backToKw pos (keywordEach [] X.env))) := by rfl)
    (hdb : (x == ("__debug__" : Str)) = false := by decide) (he : starEach (e :: es) X.env = (false, eval e X.env) :: starEach es X.env := by rfl) (hpl : (backTo pos (starEach es X.env)).any (·.1) = false := by rfl) :
    PE X (.Call (.Attribute (.Name x p1) "__init__" p2) (e :: es) [] pos) (tVeI X.K ta) := by
  refine ⟨fun pins s σ H Q I h => ?_⟩
  refine PySem.W.methodCall_KW (pl := pl) (ld_glob I hg hm ?_ hdb) hc
  refine PySem.W.method_cls I.kIn hD.g (PySem.W.cls_value I.kIn hD.r hD.v (by decide +kernel) ?_)
  show wpAny _ _ (callWith pos (Value.builtin "ValueError.__init__") [] (backTo pos (starEach (e :: es) X.env)) []) _ _ _
  refine PyProof.Rows.callWith_method1 (thn (ha.run pos pins _ σ H _ (I.tok _) h) fun us s1 hh => ?_) he hpl
  obtain ⟨vs, H1, I1, r1, a, C, ws, ev, hl, T, ea, q⟩ := hh
  subst ev
  cases r1 with
  | @cons _ u0 _ ur ra rr =>
    obtain rfl : u0 = Value.ref a := ra
    exact oinit_ok T I1 ea (by rw [← Paired.length rr, sizeLine_eq]; omega) fun s' J => ⟨.non, H1, J, rfl, q⟩

theorem none_of {Hb H : Hp} {d : Addr} (s : Same Hb H) (h : H d = none) : Hb d = none := by
  cases q : Hb d with
  | none => rfl
  | some o => rw [s d o q] at h; cases h
theorem none_up {M : List Addr} {Hb0 H0 Hb H : Hp} {d : Addr} (t : Step M Hb0 H0 Hb H) (h : H d = none) : H0 d = none := by
  cases q : H0 d with
  | none => rfl
  | some o => exact absurd h (t.t d (by rw [q]; exact fun z => nomatch z))
/-! ### BadText, made -/
/-- what its __init__ promises -/
def initSp (Ct : Addr) (f g : Str) : Sp := fun vs H Q _ => ∃ (a : Addr) (r p : V), vs = [.ref a, r, p] ∧ H a = some (exo a Ct none) ∧ ∀ d, H d = none → d ≠ a → Q .non (upd (upd (upd H d (exd d [(f, r)])) a (exo a Ct (some d))) d (exd d [(g, p), (f, r)]))
def t_init2 (K : PySem.W.Frag) (f g : Str) : TS := tSeq (tDrop (tVeI K (tCons (tVar 0) (tCons (tVar 1) (tCons (tVar 2) tNil))))) (tSeq (tOst K f (tVar 0) (tVar 1)) (tOst K g (tVar 0) (tVar 2)))
theorem rd_init2 {K : PySem.W.Frag} {Ct a : Addr} {f g : Str} {r p : V} {H : Hp} {Q : VK} {D : Ends} (T : OexC K Ct) (hf : PySem.W.findIn K (.ref Ct) f = some none) (hg : PySem.W.findIn K (.ref Ct) g = some none) (ha : H a = some (exo a Ct none))
    (h : ∀ d, H d = none → d ≠ a → ∀ σ, D.nx σ (upd (upd (upd H d (exd d [(f, r)])) a (exo a Ct (some d))) d (exd d [(g, p), (f, r)]))) : t_init2 K f g D [some (.ref a), some r, some p] H := by
  have l0 : ([some (.ref a), some r, some p] : L2.St)[0]? = some (some (.ref a)) := rfl
  have l1 : ([some (.ref a), some r, some p] : L2.St)[1]? = some (some r) := rfl
  have l2 : ([some (.ref a), some r, some p] : L2.St)[2]? = some (some p) := rfl
  refine ⟨_, l0, _, l1, _, l2, a, Ct, _, rfl, Nat.le_of_ble_eq_true rfl, T, ha, ?_⟩
  refine ⟨_, l1, _, l0, a, Ct, rfl, T, hf, .inl ⟨ha, fun d hd ne => ?_⟩⟩
  exact ⟨_, l2, _, l0, a, Ct, rfl, T, hg, .inr ⟨d, _, upd_same, by rw [upd_ne ne]; exact upd_same, Nat.le_of_ble_eq_true rfl, h d hd ne _⟩⟩
/-- raise C(e, ..) -/
def tRaiseO (Ct : Addr) (sp : Sp) (ta : TA) (E : XK) : TS := fun _ σ H => tMkO Ct sp [] ta σ H fun cls d H' => E cls d H'
theorem ex_raiseO {C : Cc} {ρ : List Sl} {Ct : Addr} {f g : Str} {ta : TA} {E : XK} {r p : Int} {P : Po} (ha : PEvA C ta ρ [.int r, .int p]) (hE : ∀ d Hb' H', Step C.M C.Hb C.H Hb' H' → H' d = some (.xd [(g, .int p), (f, .int r)]) → Hb' d = none → C.H d = none → E (.ref Ct) (some d) H') :
    Ex C (tRaiseO Ct (initSp Ct f g) ta E) ρ P := fun σ Hb H fp En W q => ha σ Hb H fp W _ fun vs Hb1 H1 t1 hv => by
  cases hv with
  | cons h1 hv =>
    cases hv with
    | cons h2 hv =>
      cases hv; cases h1; cases h2
      refine ⟨Nat.le_of_ble_eq_true rfl, fun a hn => ⟨a, _, _, rfl, upd_same, fun d hd ne => ⟨rfl, d, _, by rw [upd_ne (Ne.symm ne)]; exact upd_same, upd_same, ?_, ?_⟩⟩⟩
      · rw [upd_ne ne] at hd; exact hd
      · have hd1 : H1 d = none := by rw [upd_ne ne] at hd; exact hd
        have e : (upd (del (upd (upd (upd (upd H1 a (exo a Ct none)) d (exd d [(f, .int r)])) a (exo a Ct (some d))) d (exd d [(g, .int p), (f, .int r)])) a) d (.xd [(g, .int p), (f, .int r)])) = upd H1 d (.xd [(g, .int p), (f, .int r)]) := by
          funext b
          by_cases hb : b = d
          · rw [hb, upd_same, upd_same]
          · rw [upd_ne hb, upd_ne hb]
            by_cases hba : b = a
            · rw [hba, del_same, hn]
            · rw [del_ne hba, upd_ne hb, upd_ne hba, upd_ne hb, upd_ne hba]
        rw [e]
        exact hE d Hb1 _ ((W.st.trans0 t1).trans0 (Step.newO t1.s hd1)) upd_same (none_of t1.s hd1) (none_up (W.st.trans0 t1) hd1)

/-! ### what a def that raises promises -/
def excSp (K : PySem.W.Frag) (rel : List D → (Sl → Prop) → (Value → List (Str × V) → Prop) → Prop) : Sp := fun vs H Q E => ∃ Hb ds S T, Same Hb H ∧ RpAll K Hb vs ds ∧ rel ds S T ∧
  (∀ v s Hb' H' fv, S s → Step [] Hb H Hb' H' → SlOk K Hb' H' (some v) fv s → (∀ a ∈ fv, Hb' a = none ∧ H' a ≠ none ∧ H a = none) → Q v H') ∧ ∀ cls fs d Hb' H', T cls fs → Step [] Hb H Hb' H' → H' d = some (.xd fs) → Hb' d = none → H d = none → E cls (some d) H'
theorem fn_exc {P : Program} {w : World} {K : PySem.W.Frag} {mg : Str → Option Value} {base : Heap} {x qual : Str} {st : Stmt} {f : Addr} {fd : FuncData} {N ps : List Str} {k : Nat} {rel : List D → (Sl → Prop) → (Value → List (Str × V) → Prop) → Prop} (F : Fun K x qual st f fd) (Sc : FnScope N ps (defScope st))
    (hlen : ∀ ds S T, rel ds S T → ds.length = ps.length) (t : XK → TS)
    (term : ∀ (cdv : Value) (A : Around) (outer : List Env) (s : Shared) (H : Hp) (E : XK), Room k (A.deeper (envOfC qual (defScope st) s.heap.objs.size f cdv)) → PSs (cxOf (L2.CX P w) P w K mg base N qual (defScope st) f cdv A outer s H E) (defBody st) (t E))
    (read : ∀ (C : Cc) ds S T E, C.K = K → C.M = [] → rel ds S T → (∀ cls fs d Hb' H', T cls fs → Step C.M C.Hb C.H Hb' H' → H' d = some (.xd fs) → Hb' d = none → C.H d = none → E cls (some d) H') → Ex C (t E) (slots0 N ds) { nx := fun _ => S (.d .none), rt := fun s _ => S s }) : FnOk P w K mg base (L2.CX P w) (k + 1) f fd ps (excSp K rel) := by
  refine F.okX Sc (fun vs H Q E hh => ?_) fun cdv A outer s H vs Q E hr hh => ?_
  · obtain ⟨Hb, ds, S, T, sm, h, r, _⟩ := hh
    rw [h.length]; exact hlen ds S T r
  · obtain ⟨Hb, ds, S, T, sm, h, r, q, qe⟩ := hh
    refine ⟨t E, term cdv A outer s H E hr, ?_⟩
    refine read ⟨K, [], Hb, H⟩ ds S T E rfl rfl r (fun cls fs d Hb' H' => qe cls fs d Hb' H') (L2.start N vs) Hb H (fun _ => []) _ (env_start sm h) ⟨fun σ' ρ' Hb' H' fp' _ W' p => ?_, fun σ' v s' ρ' Hb' H' fp' fv _ G p => ?_, fun _ _ _ _ _ _ _ z => z, fun _ _ _ _ _ _ _ z => z⟩
    · exact q .non (.d .none) Hb' H' [] p W'.st ⟨_, rfl, .non⟩ fun _ z => nomatch z
    · exact q v s' Hb' H' fv p G.env.st G.ok fun a ha => ⟨(G.nw a ha).1, (G.nw a ha).2.1, (G.nw a ha).2.2.1⟩
/-- a def that may raise, called -/
structure CalleeX (P : Program) (w : World) (K : PySem.W.Frag) (mg : Str → Option Value) (base : Heap) (k : Nat) (x : Str) (ps : List Str) (sp : Sp) : Prop where
  ex : ∃ f fd, FnOk P w K mg base (L2.CX P w) k f fd ps sp ∧ mg x = some (.ref f) ∧ PySem.W.keepIn K (.ref f) = true ∧ Binds K fd ps []
theorem CalleeX.mono {P : Program} {w : World} {K : PySem.W.Frag} {mg : Str → Option Value} {base : Heap} {j k : Nat} {x : Str} {ps : List Str} {sp : Sp} (G : CalleeX P w K mg base j x ps sp) (h : j ≤ k) : CalleeX P w K mg base k x ps sp :=
  let ⟨f, fd, h1, h2⟩ := G.ex
  ⟨f, fd, h1.mono h, h2⟩
theorem pe_userX {X : Cx} {k : Nat} {ps : List Str} {sp : Sp} {x : Str} {p pos : Pos} {e : Expr} {es : List Expr} {t : TA} {E : L2.St → XK} (G : CalleeX X.prog X.w X.K X.mg X.base k x ps sp) (hr : Room k X.A) (hg : Gl X x) (hx : ∀ σ, PassesAt (L2.CX X.prog X.w) X σ (E σ)) (ha : PA X (e :: es) t)
    (hdb : (x == ("__debug__" : Str)) = false := by decide) (he : starEach (e :: es) X.env = (false, eval e X.env) :: starEach es X.env := by rfl) (hpl : (backTo pos (starEach es X.env)).any (·.1) = false := by rfl) : PE X (.Call (.Name x p) (e :: es) [] pos) (tCallS sp E t) := by
  obtain ⟨f, fd, h1, h2, h3, h4⟩ := G.ex
  exact pe_callS h1 hr hg h2 h3 h4 hx ha hdb he hpl
/-- .. read: it gives one of S, or it raises -/
theorem ef_userX {C : Cc} {ρ : List Sl} {tA : TA} {xs : List D} {rel : List D → (Sl → Prop) → (Value → List (Str × V) → Prop) → Prop} {S : Sl → Prop} {T : Value → List (Str × V) → Prop} {E : L2.St → XK} {P : Sl → List Sl → Prop} (ha : PEvA C tA ρ xs) (h : rel xs S T) (hs : ∀ s, S s → P s ρ)
    (hE : ∀ σ cls fs d Hb' H', T cls fs → Step C.M C.Hb C.H Hb' H' → H' d = some (.xd fs) → Hb' d = none → C.H d = none → E σ cls (some d) H') : Ev C (tCallS (excSp C.K rel) E tA) ρ P := fun σ Hb H fp W Q q =>
  ha σ Hb H fp W _ fun vs Hb1 H1 t1 hv => ⟨Hb1, xs, S, T, t1.s, hv, h, fun v s Hb' H' fv p t ok fr => by
    have t2 := t1.trans0 t
    exact q v s ρ Hb' H' fp fv (.ofv t2 fun a ha => by
      cases e : H a with
      | none => rfl
      | some o => exact absurd (fr a ha).2.2 (t1.t a (by rw [e]; exact fun z => nomatch z))) (Got.of W t2 ok fun a ha => ⟨(fr a ha).1, (fr a ha).2.1, by
      cases e : H a with
      | none => rfl
      | some o => exact absurd (fr a ha).2.2 (t1.t a (by rw [e]; exact fun z => nomatch z))⟩) (hs s p), fun cls fs d Hb' H' p t e n1 n2 => hE σ cls fs d Hb' H' p ((W.st.trans0 t1).trans0 t) e n1 (none_up (W.st.trans0 t1) n2)⟩
end DL
set_option Elab.async false
set_option linter.all false
set_option maxRecDepth 100000
set_option maxHeartbeats 4000000
/-! HE: try: return f(..) / except D as e: suite; what is asked of e. -/
namespace DL
open PySem PySem.Spec PyProof.Rows L2

/-- the caught exception: at a, its own dict at d -/
def exnR (a d : Addr) (fs : List (Str × V)) : Res where
  holds := fun Hb H v fp => v = .ref a ∧ fp = [d] ∧ H d = some (.xd fs)
  mono := fun ⟨e, ef, hd⟩ _ k => ⟨e, ef, (k d (by rw [ef]; exact List.mem_singleton.mpr rfl)).trans hd⟩
def tTry1 (K : PySem.W.Frag) (cv : Value) (i : Nat) (sp : Sp) (tA : TA) (ts : Addr → Value → Option Addr → TS) (Wout : WX) : TS := fun D σ H => tRet (tCallS sp (WE (wAs K cv i ts Wout D)) tA) D σ H
theorem ex_try1 {C : Cc} {ρ : List Sl} {tA : TA} {xs : List D} {rel : List D → (Sl → Prop) → (Value → List (Str × V) → Prop) → Prop} {S : Sl → Prop} {T : Value → List (Str × V) → Prop} {cv : Value} {i : Nat} {ts : Addr → Value → Option Addr → TS} {Wout : WX} {P : Po}
    (ha : PEvA C tA ρ xs) (h : rel xs S T) (hs : ∀ s, S s → P.rt s ρ)
    (hE : ∀ cls fs, T cls fs → PySem.W.exmOne C.K cls cv = some true ∧ ∀ a d, Ex C (ts a cls (some d)) (ρ.set i (.ow (exnR a d fs))) { nx := fun _ => False, rt := P.rt, bk := fun _ => False, ct := fun _ => False }) :
    Ex C (tTry1 C.K cv i (excSp C.K rel) tA ts Wout) ρ P := fun σ Hb H fp En W q =>
  ha σ Hb H fp W _ fun vs Hb1 H1 t1 hv => by
    have up : ∀ {a : Addr}, H1 a = none → H a = none := fun n => none_up t1 n
    refine ⟨Hb1, xs, S, T, t1.s, hv, h, fun v s Hb' H' fv p t ok fr => ?_, fun cls fs d Hb' H' p t hd n1 n2 => ?_⟩
    · have t2 := t1.trans0 t
      exact q.rt σ v s ρ Hb' H' fp fv (.ofv t2 fun a ha => up (fr a ha).2.2) (Got.of W t2 ok fun a ha => ⟨(fr a ha).1, (fr a ha).2.1, up (fr a ha).2.2⟩) (hs s p)
    · have t2 := t1.trans0 t
      obtain ⟨hc, hx⟩ := hE cls fs p
      refine ⟨true, hc, fun _ a na => ?_, fun z => nomatch z⟩
      have hf : ∀ b ∈ [d], Hb' b = none ∧ H' b ≠ none ∧ H b = none := fun b hb => by
        rw [List.mem_singleton.mp hb]
        exact ⟨n1, (by rw [hd]; exact fun z => (nomatch z)), up n2⟩
      have G : Got C σ ρ Hb' H' fp (.ref a) [d] (.ow (exnR a d fs)) := Got.of W t2 ⟨_, rfl, rfl, rfl, hd⟩ hf
      have sm : Fr (In fp) Hb H Hb' H' (In fun j => if j = i then [d] else fp j) := (Fr.ofv t2 fun b hb => (hf b hb).2.2).to in_store
      exact hx a d _ _ _ _ _ (G.store i) ⟨fun _ _ _ _ _ _ _ z => z.elim, (q.mono0 sm).rt, fun _ _ _ _ _ _ _ z => z.elim, fun _ _ _ _ _ _ _ z => z.elim⟩
/-! ### isinstance(e, ..) -/
/-- isinstance(e, c) or isinstance(e, (c, ..)), e the exception at a, of the class D, its dict at d -/
def rIsX (K : PySem.W.Frag) (D a d : Addr) : List V → Hp → VK → Prop := fun xs H Q => (∃ fs, H d = some (.xd fs)) ∧
  ((∃ (c : V) (cv : Value) (b : Bool), xs = [.ref a, c] ∧ (∀ u, RelV c u → u = cv) ∧ PySem.W.kitOne K (.ref D) cv = some b ∧ Q (.bl b) H) ∨
    ∃ (p : Addr) (cs : List V) (cvs : List Value) (b : Bool), xs = [.ref a, .ref p] ∧ H p = some (.tup cs) ∧ (∀ us, Vals cs us → us = cvs) ∧ PySem.W.kitAny K (.ref D) cvs = some b ∧ Q (.bl b) H)
theorem call_isX {X : Cx} {a D d : Addr} {oe : Obj} {cls : Value} {od : Option Addr} {pn : List (Addr × Obj)} (T : ExcC X.K D) (hc : cls = .ref D) (hd : od = some d) (hz : Zc cls od oe) (hf : ∃ vs, oe.data = .fields vs) : CallR (X.suite a ((a, oe) :: pn)) (.builtin "isinstance") (rIsX X.K D a d) := by
  subst hc; subst hd
  intro pins s σ H xs us Q I r h
  obtain ⟨⟨fs, ed⟩, h⟩ := h
  obtain ⟨hget, _⟩ := I.pin (a, oe) (List.mem_append.mpr (.inl List.mem_cons_self))
  obtain ⟨vs, hv⟩ := hf
  have ho : ObjOk X.prog X.w H s.heap d (.xd fs) := I.hok d _ ed
  obtain ⟨mA, hns, _⟩ := ho
  obtain ⟨o, ho, _⟩ := lookIn_ns hns
  have J : PySem.W.InstAt s.heap a oe D (some o) := ⟨hget, hz.1, by unfold PySem.W.notCls; rw [hv] <;> rfl, by rw [hz.2]; exact ho⟩
  have Z : PySem.W.KitX X.K (.ref a) (.ref D) (fun h => PySem.W.InstAt h a oe D (some o)) := PySem.W.kitx_exc (by obtain ⟨cd, hc, _⟩ := PySem.W.any_some T.hd; rw [hc]; rfl) T.hg T.hk T.hs T.ha T.hn T.ht T.hm
  rcases h with ⟨c, cv, b, rfl, hcv, e, q⟩ | ⟨p, cs, cvs, b, rfl, hp, hcv, e, q⟩
  · cases r with
    | cons rx rr =>
      cases rr with
      | cons rt rr =>
        cases rr
        cases rx
        have ec := hcv _ rt
        subst ec
        exact PySem.W.kia_one Z I.kIn J e (fun z => nomatch z) fun tk => ⟨.bl b, H, I.kept (t' := tk) fun _ _ z => z, rfl, q⟩
  · cases r with
    | cons rx rr =>
      cases rr with
      | cons rt rr =>
        cases rr
        cases rx
        cases rt
        obtain ⟨z, its, rv, pl⟩ := (show ObjOk X.prog X.w H s.heap p (.tup cs) from I.hok p _ hp)
        have ec := hcv _ rv
        subst ec
        obtain ⟨o2, e2, c2, n, hd2⟩ := pl
        obtain ⟨oc, od2, oda, osl⟩ := o2
        dsimp only at c2 hd2
        subst c2; subst hd2
        exact PySem.W.kia_tup Z I.kIn J e2 e (fun z => nomatch z) fun tk => ⟨.bl b, H, I.kept (t' := tk) fun _ _ z => z, rfl, q⟩
section
variable {C : Cc} {ρ : List Sl} {i : Nat} {a d D : Addr} {fs : List (Str × V)} {te : TE} {tA : TA}
theorem ev_isX1 {c : V} {cv : Value} {b : Bool} (hi : ρ[i]? = some (.ow (exnR a d fs))) (hc : ∀ u, RelV c u → u = cv) (k : PySem.W.kitOne C.K (.ref D) cv = some b) : PD C (tCB (rIsX C.K D a d) (tCons (tVar i) (tCons (tC c) tNil))) ρ (.bool b) := fun σ Hb H fp W Q q => by
  obtain ⟨v, ev, rfl, ef, hd⟩ := W.owns hi
  exact ⟨_, ev, ⟨fs, hd⟩, .inl ⟨c, cv, b, rfl, hc, k, q.flat W.same (.bl _)⟩⟩
/-- a tuple of classes, written -/
def tTys (K : PySem.W.Frag) (cs : List Value) : TA := fun σ H Q => Q (cs.map fun c => match c with | .ref a => V.ref a | _ => .non) H
theorem ev_xf {cls : Value} {Ct : Addr} {f : Str} {z : Int} (hi : ρ[i]? = some (.ow (exnR a d fs))) (hc : cls = .ref Ct) (hl : fs.lookup f = some (.int z)) : PD C (tXf a cls (some d) Ct f (tVar i)) ρ (.int z) := fun σ Hb H fp W Q q => by
  obtain ⟨v, ev, rfl, ef, hd⟩ := W.owns hi
  exact ⟨_, ev, rfl, hc, d, fs, _, rfl, hd, hl, q.flat W.same (.int _)⟩
end
end DL
set_option Elab.async false
set_option linter.all false
set_option maxRecDepth 100000
set_option maxHeartbeats 4000000
/-! HF: any text: pieces between signs; the deed of any word; deed_of read for any word. -/
namespace DL
open PySem PySem.Spec PyProof.Rows L2

def splitC (c : Nat) : List Nat → List (List Nat)
  | [] => [[]]
  | x :: l => if x = c then [] :: splitC c l else match splitC c l with
    | [] => [[x]]
    | p :: ps => (x :: p) :: ps
theorem splitC_ne (c : Nat) : ∀ l : List Nat, splitC c l ≠ []
  | [] => fun z => nomatch z
  | x :: l => by
    unfold splitC
    split
    · exact fun z => nomatch z
    · split <;> exact fun z => nomatch z
theorem join_split2 (c : Nat) : ∀ l : List Nat, joinC c (splitC c l) = l
  | [] => rfl
  | x :: l => by
    have ih := join_split2 c l
    have hne := splitC_ne c l
    unfold splitC
    by_cases h : x = c
    · rw [if_pos h, joinC_cons, if_neg hne, ih, h]; rfl
    · rw [if_neg h]
      cases hs : splitC c l with
      | nil => exact absurd hs hne
      | cons p ps =>
        rw [hs] at ih
        show joinC c ((x :: p) :: ps) = _
        rw [joinC_cons] at ih ⊢
        rw [List.cons_append, ih]
theorem splitC_free (c : Nat) : ∀ l : List Nat, ∀ p ∈ splitC c l, c ∉ p
  | [], p, h => by rw [List.mem_singleton.mp h]; exact List.not_mem_nil
  | x :: l, p, h => by
    have ih := splitC_free c l
    unfold splitC at h
    by_cases hx : x = c
    · rw [if_pos hx] at h
      rcases List.mem_cons.mp h with e | h
      · rw [e]; exact List.not_mem_nil
      · exact ih p h
    · rw [if_neg hx] at h
      cases hs : splitC c l with
      | nil => exact absurd hs (splitC_ne c l)
      | cons q qs =>
        rw [hs] at h ih
        rcases List.mem_cons.mp h with e | h
        · rw [e]
          intro z
          rcases List.mem_cons.mp z with z | z
          · exact hx z.symm
          · exact ih q List.mem_cons_self z
        · exact ih p (List.mem_cons_of_mem _ h)
theorem splitC_mem (c : Nat) : ∀ l : List Nat, ∀ p ∈ splitC c l, ∀ y ∈ p, y ∈ l
  | [], p, h, y, hy => by rw [List.mem_singleton.mp h] at hy; exact absurd hy List.not_mem_nil
  | x :: l, p, h, y, hy => by
    have ih := splitC_mem c l
    unfold splitC at h
    by_cases hx : x = c
    · rw [if_pos hx] at h
      rcases List.mem_cons.mp h with e | h
      · rw [e] at hy; exact absurd hy List.not_mem_nil
      · exact List.mem_cons_of_mem _ (ih p h y hy)
    · rw [if_neg hx] at h
      cases hs : splitC c l with
      | nil => exact absurd hs (splitC_ne c l)
      | cons q qs =>
        rw [hs] at h ih
        rcases List.mem_cons.mp h with e | h
        · rw [e] at hy
          rcases List.mem_cons.mp hy with z | z
          · rw [z]; exact List.mem_cons_self
          · exact List.mem_cons_of_mem _ (ih q List.mem_cons_self y z)
        · exact List.mem_cons_of_mem _ (ih p (List.mem_cons_of_mem _ h) y hy)
theorem splitC_sum (c : Nat) : ∀ l : List Nat, ((splitC c l).map (·.length)).sum + (splitC c l).length = l.length + 1
  | [] => rfl
  | x :: l => by
    have ih := splitC_sum c l
    unfold splitC
    by_cases hx : x = c
    · rw [if_pos hx, List.map_cons, List.sum_cons, List.length_cons, List.length_cons, List.length_nil]; omega
    · rw [if_neg hx]
      cases hs : splitC c l with
      | nil => exact absurd hs (splitC_ne c l)
      | cons q qs =>
        rw [hs] at ih
        rw [List.map_cons, List.sum_cons, List.length_cons] at ih
        show (((x :: q) :: qs).map (·.length)).sum + ((x :: q) :: qs).length = _
        rw [List.map_cons, List.sum_cons, List.length_cons, List.length_cons, List.length_cons]; omega
theorem sum_mem : ∀ {l : List Nat} {x : Nat}, x ∈ l → x ≤ l.sum
  | y :: l, x, h => by
    rw [List.sum_cons]
    rcases List.mem_cons.mp h with e | h
    · omega
    · have := sum_mem h; omega
theorem splitC_len {c : Nat} {l p : List Nat} (h : p ∈ splitC c l) : p.length ≤ l.length := by
  have h1 := splitC_sum c l
  have h2 : p.length ≤ ((splitC c l).map (·.length)).sum := sum_mem (List.mem_map_of_mem (f := fun q : List Nat => q.length) h)
  have h3 : 0 < (splitC c l).length := List.length_pos_iff.mpr (splitC_ne c l)
  omega
theorem splitC_many (c : Nat) (l : List Nat) : (splitC c l).length ≤ l.length + 1 := by have := splitC_sum c l; omega
theorem txt_split (c : Nat) (l : List Nat) : Txt.split (mkS l) (mkS [c]) = (splitC c l).map mkS := by
  have := split_join (c := c) (ps := splitC c l) (splitC_ne c l) (splitC_free c l)
  rw [join_split2] at this; exact this
/-- the words of a row -/
def wordsC (l : List Nat) : List (List Nat) := if l = [] then [] else splitC 32 l
theorem wordsC_len {l p : List Nat} (h : p ∈ wordsC l) : p.length ≤ l.length := by
  unfold wordsC at h
  split at h
  · cases h
  · exact splitC_len h
theorem wordsC_mem {l p : List Nat} (h : p ∈ wordsC l) : ∀ y ∈ p, y ∈ l := by
  unfold wordsC at h
  split at h
  · cases h
  · exact splitC_mem 32 l p h
theorem wordsC_many (l : List Nat) : (wordsC l).length ≤ l.length + 1 := by
  unfold wordsC
  split
  · exact Nat.zero_le _
  · exact splitC_many _ _
/-! ### the deed of a word -/
def deedOfC : List Nat → Option Deed
  | [a] => if a = 45 then some .rest else none
  | [a, c] => if a = 114 ∧ 48 ≤ c ∧ c < 52 then some (.read (c - 48)) else none
  | [a, c, v] => if a = 119 ∧ (48 ≤ c ∧ c < 52) ∧ 48 ≤ v ∧ v < 51 then some (.write (c - 48) (v - 48)) else none
  | _ => none
def deedD : Option Deed → D
  | none => .none
  | some d => d.enc
theorem in_cellsC (c : Nat) : (!(Builtin.Str.occurrences ("0123" : Str) (one c) 0 ("0123" : Str).length 1).isEmpty) = decide (48 ≤ c ∧ c < 52) := by
  have e := StrLaws.found_one ("0123" : Str) c
  have h : ("0123" : Str).cps.toList = [48, 49, 50, 51] := by decide +kernel
  rw [h] at e
  refine e.trans ?_
  rw [decide_eq_decide]
  simp only [List.mem_cons, List.not_mem_nil, or_false]
  omega
theorem in_signsC (c : Nat) : (!(Builtin.Str.occurrences ("012" : Str) (one c) 0 ("012" : Str).length 1).isEmpty) = decide (48 ≤ c ∧ c < 51) := by
  have e := StrLaws.found_one ("012" : Str) c
  have h : ("012" : Str).cps.toList = [48, 49, 50] := by decide +kernel
  rw [h] at e
  refine e.trans ?_
  rw [decide_eq_decide]
  simp only [List.mem_cons, List.not_mem_nil, or_false]
  omega
theorem gap_eqC (l : List Nat) : (mkS l == ("-" : Str)) = decide (l = [45]) := by
  have e : ("-" : Str) = mkS [45] := by decide +kernel
  rw [e, Bool.eq_iff_iff, beq_iff_eq, decide_eq_true_iff]
  exact ⟨mkS_inj, fun e => by rw [e]⟩
theorem rd_deed_ofC {C : Cc} {A : Ad} {l : List Nat} (hR : RestOk C.K A) (hl : l.length ≤ 1000000) (hc : ∀ c ∈ l, c < 0x110000) : Ex C (t_deed_of C.K A) [.d (.str (mkS l))] (retD (deedD (deedOfC l))) := by
  have elen : PD C (tCB (rLenA C.K) (tCons (tVar 0) tNil)) [.d (.str (mkS l))] (.int (l.length : Nat)) := ev_is (ev_call (ea_one (ev_var rfl)) (on_lenS (by rw [mkS_len]; omega))) (by rw [mkS_len])
  have at_ : ∀ (j k : Nat), l[j]? = some k → PD C (tOp (rIx C.K) (tVar 0) (tC (.int (j : Nat)))) [.d (.str (mkS l))] (.str (one k)) := fun j k h => ev_op (ev_var rfl) ev_int (o2_ixS (by rw [mkS_len]; omega) (by rw [mkS_cps]; exact atI_nat h))
  have lenB : ∀ n : Nat, PEvT C (tTest (tOp (rEqD C.K) (tCB (rLenA C.K) (tCons (tVar 0) tNil)) (tC (.int (n : Nat))))) [.d (.str (mkS l))] (decide (l.length = n)) := fun n => et_test (ev_is (ev_eqI elen ev_int) (by congr 1; rw [Bool.eq_iff_iff, beq_iff_eq, decide_eq_true_iff]; omega))
  have isC : ∀ (j k c : Nat) (w : Str), w = one c → l[j]? = some k → c < 0x110000 → PEvT C (tTest (tOp (rEqD C.K) (tOp (rIx C.K) (tVar 0) (tC (.int (j : Nat)))) (tC (.str w)))) [.d (.str (mkS l))] (decide (k = c)) := fun j k c w hw h hcc => et_test (ev_is (ev_eqW (at_ j k h) (one_okN (hc k (List.mem_of_getElem? h))) (by rw [hw]; exact one_okN hcc)) (by
    rw [hw]; congr 1; rw [Bool.eq_iff_iff, beq_iff_eq, decide_eq_true_iff]
    exact ⟨fun e => (List.cons.inj (mkS_inj (a := [k]) (b := [c]) e)).1, fun e => by rw [e]⟩))
  have dig : ∀ (j k : Nat), l[j]? = some k → 48 ≤ k → k < 52 → PD C (tCB rIntA (tCons (tOp (rIx C.K) (tVar 0) (tC (.int (j : Nat)))) tNil)) [.d (.str (mkS l))] (.int (k - 48 : Nat)) := fun j k h h1 h2 => by
    have e : k = 48 + (k - 48) := by omega
    refine ev_call (ea_one (at_ j k h)) (on_intS ?_ (by show 1 ≤ 640; decide))
    have := int_one (c := k - 48) (by omega)
    rwa [← e] at this
  refine ex_seq (ex_ifp (b := decide (l = [45])) (et_test (ev_is (ev_eqW (ev_var rfl) (strOk_mk hc) ok_gap) (by rw [gap_eqC]))) (fun e => ?_) fun e => ex_next ?_)
  · have e := of_decide_eq_true e
    subst e
    exact ex_ret (ef_d (ev_const hR) rfl)
  have e := of_decide_eq_false e
  cases l with
  | nil =>
    refine ex_seq (ex_ifp (b := false) (et_is (et_and (c := true) (lenB 2) fun z => nomatch z) rfl) (fun z => nomatch z) fun _ => ex_next ?_)
    refine ex_seq (ex_ifp (b := false) (et_is (et_and (c := true) (lenB 3) fun z => nomatch z) rfl) (fun z => nomatch z) fun _ => ex_next ?_)
    exact ex_ret (ef_d ev_non rfl)
  | cons a l =>
    cases l with
    | nil =>
      have ea : a ≠ 45 := fun z => e (by rw [z])
      have ed : deedOfC [a] = none := if_neg ea
      rw [ed]
      refine ex_seq (ex_ifp (b := false) (et_is (et_and (c := true) (lenB 2) fun z => nomatch z) rfl) (fun z => nomatch z) fun _ => ex_next ?_)
      refine ex_seq (ex_ifp (b := false) (et_is (et_and (c := true) (lenB 3) fun z => nomatch z) rfl) (fun z => nomatch z) fun _ => ex_next ?_)
      exact ex_ret (ef_d ev_non rfl)
    | cons c l =>
      cases l with
      | nil =>
        refine ex_seq (ex_ifp (b := decide (a = 114 ∧ 48 ≤ c ∧ c < 52)) (et_is (et_and (lenB 2) fun _ => et_and (isC 0 a 114 "r" lit_r1 rfl (by decide)) fun _ => et_test (ev_is (ev_op (at_ 1 c rfl) ev_str o2_inS) (by rw [in_cellsC]))) (by rw [Bool.eq_iff_iff]; simp)) (fun h => ?_) fun h => ex_next ?_)
        · have h := of_decide_eq_true h
          have ed : deedOfC [a, c] = some (.read (c - 48)) := if_pos h
          rw [ed]
          exact ex_ret (ef_d (ev_tup (ea_two ev_str (dig 1 c rfl h.2.1 h.2.2))) rfl)
        · have h := of_decide_eq_false h
          have ed : deedOfC [a, c] = none := if_neg h
          rw [ed]
          refine ex_seq (ex_ifp (b := false) (et_is (et_and (c := true) (lenB 3) fun z => nomatch z) rfl) (fun z => nomatch z) fun _ => ex_next ?_)
          exact ex_ret (ef_d ev_non rfl)
      | cons v l =>
        refine ex_seq (ex_ifp (b := false) (et_is (et_and (c := true) (lenB 2) fun z => ?_) ?_) (fun z => nomatch z) fun _ => ex_next ?_)
        · have := of_decide_eq_true z; simp at this
        · rw [decide_eq_false (by simp)]; rfl
        cases l with
        | nil =>
          refine ex_seq (ex_ifp (b := decide (a = 119 ∧ (48 ≤ c ∧ c < 52) ∧ 48 ≤ v ∧ v < 51)) (et_is (et_and (lenB 3) fun _ => et_and (isC 0 a 119 "w" lit_w1 rfl (by decide)) fun _ => et_and (et_test (ev_is (ev_op (at_ 1 c rfl) ev_str o2_inS) (by rw [in_cellsC]))) fun _ => et_test (ev_is (ev_op (at_ 2 v rfl) ev_str o2_inS) (by rw [in_signsC]))) (by rw [Bool.eq_iff_iff]; simp)) (fun h => ?_) fun h => ex_next ?_)
          · have h := of_decide_eq_true h
            have ed : deedOfC [a, c, v] = some (.write (c - 48) (v - 48)) := if_pos h
            rw [ed]
            exact ex_ret (ef_d (ev_tup (ea_cons ev_str (ea_two (dig 1 c rfl h.2.1.1 h.2.1.2) (dig 2 v rfl h.2.2.1 (by omega))))) rfl)
          · have h := of_decide_eq_false h
            have ed : deedOfC [a, c, v] = none := if_neg h
            rw [ed]
            exact ex_ret (ef_d ev_non rfl)
        | cons x l =>
          refine ex_seq (ex_ifp (b := false) (et_is (et_and (c := true) (lenB 3) fun z => ?_) ?_) (fun z => nomatch z) fun _ => ex_next ?_)
          · have := of_decide_eq_true z; simp at this
          · rw [decide_eq_false (by simp)]; rfl
          exact ex_ret (ef_d ev_non rfl)
end DL
set_option Elab.async false
set_option linter.all false
set_option maxRecDepth 100000
set_option maxHeartbeats 4000000
/-! HG: program_of and read, for any text. -/
namespace DL
open PySem PySem.Spec PyProof.Rows L2

/-- addresses of the classes too -/
structure AdX extends Ad where
  aBadText : Addr
  aDoorError : Addr
  aBadMemory : Addr
  aBadProgram : Addr
  aBadRule : Addr
  aBadOrder : Addr
  aTooMany : Addr
instance : Coe AdX Ad := ⟨AdX.toAd⟩
/-! ### plain -/
def badW (ws : List (List Nat)) (i : Nat) : Bool := (deedOfC (ws.getD i [])).isNone || decide (40 ≤ i)
def firstBad (ws : List (List Nat)) : Option Nat := (List.range ws.length).find? (badW ws)
def deedsOf (ws : List (List Nat)) : List Deed := ws.filterMap deedOfC
theorem first_none {ws : List (List Nat)} (h : ∀ j, j < ws.length → badW ws j = false) : firstBad ws = none := List.find?_eq_none.mpr fun j hj => by rw [h j (List.mem_range.mp hj)]; exact Bool.false_ne_true
theorem find_range {p : Nat → Bool} : ∀ {n i : Nat}, i < n → p i = true → (∀ j, j < i → p j = false) → (List.range n).find? p = some i := fun {n i} hi hp hj => by
  have e : List.range n = List.range i ++ i :: (List.range n).drop (i + 1) := by
    have h1 : (List.range n).take i = List.range i := by rw [List.take_range, Nat.min_eq_left (by omega)]
    have h2 : (List.range n).drop i = i :: (List.range n).drop (i + 1) := by
      rw [List.drop_eq_getElem_cons (by rw [List.length_range]; exact hi), List.getElem_range]
    rw [← h1, ← h2, List.take_append_drop]
  rw [e, List.find?_append]
  have : (List.range i).find? p = none := List.find?_eq_none.mpr fun j h => by rw [hj j (List.mem_range.mp h)]; exact Bool.false_ne_true
  rw [this, List.find?_cons, hp]; rfl
theorem first_some {ws : List (List Nat)} {i : Nat} (hi : i < ws.length) (hb : badW ws i = true) (h : ∀ j, j < i → badW ws j = false) : firstBad ws = some i := find_range hi hb h
theorem first_inv {ws : List (List Nat)} (h : firstBad ws = none) : ∀ j, j < ws.length → badW ws j = false := fun j hj => by
  have := List.find?_eq_none.mp h j (List.mem_range.mpr hj)
  simpa using this
theorem first_at {ws : List (List Nat)} {i : Nat} (h : firstBad ws = some i) : i < ws.length ∧ badW ws i = true ∧ ∀ j, j < i → badW ws j = false := by
  have hm := List.mem_range.mp (List.mem_of_find?_eq_some h)
  have hp := List.find?_some h
  refine ⟨hm, hp, fun j hj => ?_⟩
  cases hb : badW ws j with
  | false => rfl
  | true =>
    exfalso
    obtain ⟨_, as, bs, e, ha⟩ := List.find?_eq_some_iff_append.mp h
    have hja : j ∈ as := by
      have e2 : as = List.range as.length := by
        have h1 := congrArg (List.take as.length) e
        rw [List.take_left, List.take_range] at h1
        have h3 : min as.length ws.length = as.length := by
          have := congrArg List.length h1
          rwa [List.length_range] at this
        rw [h3] at h1; exact h1.symm
      have e3 : as.length = i := by
        have h1 := congrArg (fun l => l[as.length]?) e
        have hl := congrArg List.length e
        rw [List.length_range, List.length_append, List.length_cons] at hl
        simp only [List.getElem?_append_right (Nat.le_refl _), Nat.sub_self, List.getElem?_cons_zero] at h1
        rw [List.getElem?_eq_getElem (by rw [List.length_range]; omega), List.getElem_range] at h1
        cases h1; rfl
      rw [e2, e3]; exact List.mem_range.mpr hj
    have := ha j hja
    rw [hb] at this; cases this
theorem good_at {ws : List (List Nat)} {i : Nat} (hi : i < ws.length) (h : badW ws i = false) : ∃ d, deedOfC ws[i] = some d ∧ i < 40 := by
  unfold badW at h
  rw [List.getD_eq_getElem?_getD, List.getElem?_eq_getElem hi, Bool.or_eq_false_iff, decide_eq_false_iff_not] at h
  have h1 : (deedOfC ws[i]).isNone = false := h.1
  cases hd : deedOfC ws[i] with
  | none => rw [hd] at h1; cases h1
  | some d => exact ⟨d, rfl, by omega⟩
theorem deeds_snoc {ws : List (List Nat)} {i : Nat} {d : Deed} (hi : i < ws.length) (h : deedOfC ws[i] = some d) : deedsOf (ws.take (i + 1)) = deedsOf (ws.take i) ++ [d] := by
  unfold deedsOf
  rw [List.take_succ_eq_append_getElem hi, List.filterMap_append]
  congr 1
  rw [List.filterMap_cons_some h]; rfl
theorem deeds_len (ws : List (List Nat)) : (deedsOf ws).length ≤ ws.length := List.length_filterMap_le _ _
theorem isNon_deed (o : Option Deed) : isNon (deedD o) = o.isNone := by cases o <;> rfl
def encW (ws : List (List Nat)) : List D := ws.map fun w => .str (mkS w)
theorem encW_len (ws : List (List Nat)) : (encW ws).length = ws.length := List.length_map _
theorem encW_item {ws : List (List Nat)} {i : Nat} (h : i < ws.length) : itemOf (encW ws) i = .str (mkS ws[i]) := itemOf_some (by unfold encW; rw [List.getElem?_map, List.getElem?_eq_getElem h]; rfl)
theorem encW_atI {ws : List (List Nat)} {i : Nat} (h : i < ws.length) : atI (encW ws) (i : Nat) = some (.str (mkS ws[i])) := atI_nat (by unfold encW; rw [List.getElem?_map, List.getElem?_eq_getElem h]; rfl)
theorem encW_str (ws : List (List Nat)) : (ws.map mkS).map PyData.str = encW ws := by unfold encW; rw [List.map_map]; rfl
theorem lit_e2 : ("" : Str) = mkS [] := lit_e
/-- the words of a row, as the program and the law take them -/
theorem ev_words {C : Cc} {ρ : List Sl} {te : TE} {l : List Nat} (h : PD C te ρ (.str (mkS l))) (hl : l.length ≤ 1000000) (hc : ∀ c ∈ l, c < 0x110000) :
    PD C (tIf (tTest (tOp (rNeD C.K) te (tC (.str "")))) (tBM C.K "str" r_split te (tCons (tC (.str " ")) tNil)) (tLst tNil)) ρ (.list (encW (wordsC l))) := by
  by_cases hz : l = []
  · subst hz
    exact ev_if (b := false) (et_test (ev_is (ev_op h ev_str (o2_ne (sh_str (strOk_mk hc)) (sh_str ok_e))) (by rw [eqv_str, lit_e]; rfl))) (fun z => nomatch z) fun _ => ev_lst ea_nil
  · have hne : ¬ (mkS l = mkS []) := fun z => hz (mkS_inj z)
    refine ev_if (b := true) (et_test (ev_is (ev_op h ev_str (o2_ne (sh_str (strOk_mk hc)) (sh_str ok_e))) (by rw [eqv_str, lit_e, beq_eq_false_iff_ne.mpr hne]; rfl))) (fun _ => ?_) fun z => nomatch z
    refine ev_bmS h (ea_one ev_str) (om_split (xs := (splitC 32 l).map mkS) (by decide +kernel) (by rw [mkS_len]; exact hl) (by rw [lit_sp]; exact txt_split 32 l) ?_)
    rw [encW_str]
    unfold wordsC
    rw [if_neg hz]
    exact .dat
theorem ev_rows {C : Cc} {ρ : List Sl} {te : TE} {l : List Nat} (h : PD C te ρ (.str (mkS l))) (hl : l.length ≤ 1000000) : PD C (tBM C.K "str" r_split te (tCons (tC (.str "\n")) tNil)) ρ (.list (encW (splitC 10 l))) :=
  ev_bmS h (ea_one ev_str) (om_split (xs := (splitC 10 l).map mkS) (by decide +kernel) (by rw [mkS_len]; exact hl) (by rw [lit_nl]; exact txt_split 10 l) (by rw [encW_str]; exact .dat))
def sp_deed_ofC (K : PySem.W.Frag) (A : Ad) : Sp := datSp K fun ds x => ∃ l : List Nat, ds = [.str (mkS l)] ∧ l.length ≤ 1000000 ∧ (∀ c ∈ l, c < 0x110000) ∧ x = deedD (deedOfC l)
/-! ### program_of -/
def bT (A : AdX) (r p : Nat) : Value → List (Str × V) → Prop := fun cls fs => cls = .ref A.aBadText ∧ fs = ([(("place" : Str), V.int (p : Nat)), (("row" : Str), V.int (r : Nat))] : List (Str × V))
def t_program_ofX (K : PySem.W.Frag) (A : AdX) (E : XK) : TS :=
  (tSeq (tAsg (tLst tNil) (gName 2))
    (tSeq (tFor (iEnum K (tCons (tIf (tTest (tOp (rNeD K) (tVar 1) (tC (.str "")))) (tBM K "str" r_split (tVar 1) (tCons (tC (.str " ")) tNil)) (tLst tNil)) tNil)) (gTup K 2 (gCons (gName 3) (gCons (gName 4) gNil))) (tSeq (tAsg (tUser (sp_deed_ofC K A) (tCons (tVar 4) tNil)) (gName 5))
    (tSeq (tIfS (tOr (tTest (tOp rIsNA (tVar 5) (tC .non))) (tTest (tOp rGeA (tVar 3) (tC (.int 40))))) (tRaiseO A.aBadText (initSp A.aBadText "row" "place") (tCons (tVar 0) (tCons (tVar 3) tNil)) E) tNext)
    (tDrop (tBM K "list" rAppend (tVar 2) (tCons (tVar 5) tNil))))))
    (tRet (tVar 2))))
def progRel (A : AdX) (ds : List D) (S : Sl → Prop) (T : Value → List (Str × V) → Prop) : Prop := ∃ (row : Nat) (l : List Nat), ds = [.int (row : Nat), .str (mkS l)] ∧ l.length ≤ 1000000 ∧ (∀ c ∈ l, c < 0x110000) ∧
  ((firstBad (wordsC l) = none ∧ S = (fun s => s = .d (encP (deedsOf (wordsC l)))) ∧ T = fun _ _ => False) ∨ ∃ i, firstBad (wordsC l) = some i ∧ S = (fun _ => False) ∧ T = bT A row i)
def sp_program_ofX (K : PySem.W.Frag) (A : AdX) : Sp := excSp K (progRel A)
theorem rd_program_ofX {C : Cc} {A : AdX} {row : Nat} {l : List Nat} {E : XK} {S : Sl → Prop} {T : Value → List (Str × V) → Prop} (hl : l.length ≤ 1000000) (hc : ∀ c ∈ l, c < 0x110000)
    (h : (firstBad (wordsC l) = none ∧ S = (fun s => s = .d (encP (deedsOf (wordsC l)))) ∧ T = fun _ _ => False) ∨ ∃ i, firstBad (wordsC l) = some i ∧ S = (fun _ => False) ∧ T = bT A row i)
    (hE : ∀ cls fs d Hb' H', T cls fs → Step C.M C.Hb C.H Hb' H' → H' d = some (.xd fs) → Hb' d = none → C.H d = none → E cls (some d) H') :
    Ex C (t_program_ofX C.K A E) [.d (.int (row : Nat)), .d (.str (mkS l)), .no, .no, .no, .no] { nx := fun _ => S (.d .none), rt := fun s _ => S s } := by
  have hmany := wordsC_many l
  refine ex_seq (ex_set (s := own C.K (encs (deedsOf ((wordsC l).take 0)))) (ev_lstO ea_nil) ?_)
  refine ex_seq (ex_for (ei_p (pi_enu (ds := encW (wordsC l)) (ea_one (ev_words (ev_var rfl) hl hc))) ⟨fun i ρ => (∀ j, j < i → badW (wordsC l) j = false) ∧ ∃ s3 s4 s5, ρ = [.d (.int (row : Nat)), .d (.str (mkS l)), own C.K (encs (deedsOf ((wordsC l).take i))), s3, s4, s5], ⟨fun j hj => absurd hj (Nat.not_lt_zero j), _, _, _, rfl⟩, fun i ρ hi ⟨hb, s3, s4, s5, e⟩ => ?_, fun ρ ⟨hb, s3, s4, s5, e⟩ => ?_⟩))
  · subst e
    have hi : i < (wordsC l).length := by rw [encW_len] at hi; exact hi
    rw [encW_item hi]
    have hw := List.getElem_mem hi
    have hgd : (wordsC l).getD i [] = (wordsC l)[i] := by rw [List.getD_eq_getElem?_getD, List.getElem?_eq_getElem hi]; rfl
    refine eg_tup rfl (egs_cons (eg_name (egs_cons (eg_name (egs_nil ?_)))))
    refine ex_seq (ex_set (s := .d (deedD (deedOfC (wordsC l)[i]))) (ev_dat (ea_one (ev_var rfl)) ⟨_, rfl, Nat.le_trans (wordsC_len hw) hl, fun c h => hc c (wordsC_mem hw c h), rfl⟩) ?_)
    refine ex_seq (ex_ifp (b := badW (wordsC l) i) (et_is (et_or (et_test (ev_is (ev_op (ev_var rfl) ev_non o2_isN) (by rw [isNon_deed]))) fun _ => et_test (ev_is (ev_op (ev_var rfl) ev_int o2_geI) (y := .bool (decide (40 ≤ i))) (by congr 1; rw [decide_eq_decide]; omega))) (by unfold badW; rw [hgd])) (fun ht => ?_) fun hf => ex_next ?_)
    · have hfb := first_some hi ht hb
      rcases h with ⟨hn, _⟩ | ⟨i', hs, _, hT⟩
      · rw [hfb] at hn; cases hn
      · rw [hfb] at hs; cases hs
        exact ex_raiseO (r := ((row : Nat) : Int)) (p := ((i : Nat) : Int)) (ea_two (ev_var rfl) (ev_var rfl)) fun d Hb' H' t e n1 n2 => hE _ _ d Hb' H' (by rw [hT]; exact ⟨rfl, rfl⟩) t e n1 n2
    · obtain ⟨d, hd, h40⟩ := good_at hi hf
      rw [hd]
      refine ex_append (xs := encs (deedsOf ((wordsC l).take i))) rfl (ef_d (ev_var rfl) ⟨_, _, rfl, rfl, ?_, ⟨fun j hj => ?_, _, _, _, by rw [deeds_snoc hi hd, ← encs_app]; rfl⟩⟩)
      · have := deeds_len ((wordsC l).take i)
        rw [List.length_take] at this
        rw [encs_len]; omega
      · by_cases e : j = i
        · rw [e]; exact hf
        · exact hb j (by omega)
  · subst e
    rw [encW_len, List.take_length]
    rw [encW_len] at hb
    have hfb := first_none hb
    rcases h with ⟨_, hS, _⟩ | ⟨i', hs, _⟩
    · subst hS
      exact ex_ret (ef_frz (i := 2) rfl rfl)
    · rw [hfb] at hs; cases hs
/-! ### read -/
def readOut (l : List Nat) : (List Deed × List Deed) ⊕ (Nat × Nat) :=
  if (firstBad (wordsC ((splitC 10 l).getD 0 []))).isSome = true then .inr (0, (firstBad (wordsC ((splitC 10 l).getD 0 []))).getD 0)
  else if (splitC 10 l).length = 1 then .inr (1, 0)
  else if (firstBad (wordsC ((splitC 10 l).getD 1 []))).isSome = true then .inr (1, (firstBad (wordsC ((splitC 10 l).getD 1 []))).getD 0)
  else if (splitC 10 l).length = 2 then .inl (deedsOf (wordsC ((splitC 10 l).getD 0 [])), deedsOf (wordsC ((splitC 10 l).getD 1 []))) else .inr (2, 0)
def readRel (A : AdX) (ds : List D) (S : Sl → Prop) (T : Value → List (Str × V) → Prop) : Prop := ∃ l : List Nat, ds = [.str (mkS l)] ∧ l.length ≤ 1000000 ∧ (∀ c ∈ l, c < 0x110000) ∧
  ((∃ a b, readOut l = .inl (a, b) ∧ S = (fun s => s = .d (.tuple [encP a, encP b])) ∧ T = fun _ _ => False) ∨ ∃ k p, readOut l = .inr (k, p) ∧ S = (fun _ => False) ∧ T = bT A k p)
def sp_readX (K : PySem.W.Frag) (A : AdX) : Sp := excSp K (readRel A)
def t_readX (K : PySem.W.Frag) (A : AdX) (E : XK) : TS :=
  (tSeq (tAsg (tBM K "str" r_split (tVar 0) (tCons (tC (.str "\n")) tNil)) (gName 1))
    (tSeq (tAsg (tLc (iRng1 (tCons (tCB (rMinA) (tCons (tC (.int 2)) (tCons (tCB (rLenA K) (tCons (tVar 1) tNil)) tNil))) tNil)) (gName 3) tYes (tCallS (sp_program_ofX K A) (fun _ => E) (tCons (tVar 3) (tCons (tOp (rIx K) (tVar 1) (tVar 3)) tNil))) [3]) (gName 2))
    (tSeq (tIfS (tTest (tOp (rNeD K) (tCB (rLenA K) (tCons (tVar 1) tNil)) (tC (.int 2)))) (tRaiseO A.aBadText (initSp A.aBadText "row" "place") (tCons (tCB (rMinA) (tCons (tC (.int 2)) (tCons (tCB (rLenA K) (tCons (tVar 1) tNil)) tNil))) (tCons (tC (.int 0)) tNil)) E) tNext)
    (tRet (tTup (tCons (tOp (rIx K) (tVar 2) (tC (.int 0))) (tCons (tOp (rIx K) (tVar 2) (tC (.int 1))) tNil)))))))
end DL
set_option Elab.async false
set_option linter.all false
set_option maxRecDepth 100000
set_option maxHeartbeats 4000000
/-! HH: read, for any text. -/
namespace DL
open PySem PySem.Spec PyProof.Rows L2

theorem rows_pos (l : List Nat) : 1 ≤ (splitC 10 l).length := List.length_pos_iff.mpr (splitC_ne 10 l)
theorem row_mem {l : List Nat} {i : Nat} (h : i < (splitC 10 l).length) : (splitC 10 l).getD i [] ∈ splitC 10 l := by
  rw [List.getD_eq_getElem?_getD, List.getElem?_eq_getElem h]; exact List.getElem_mem h
theorem row_at {l : List Nat} {i : Nat} (h : i < (splitC 10 l).length) : atI (encW (splitC 10 l)) (i : Nat) = some (.str (mkS ((splitC 10 l).getD i []))) := by
  rw [encW_atI h, List.getD_eq_getElem?_getD, List.getElem?_eq_getElem h]; rfl
theorem rd_readX {C : Cc} {A : AdX} {l : List Nat} {E : XK} {S : Sl → Prop} {T : Value → List (Str × V) → Prop} (hl : l.length ≤ 1000000) (hc : ∀ c ∈ l, c < 0x110000)
    (h : (∃ a b, readOut l = .inl (a, b) ∧ S = (fun s => s = .d (.tuple [encP a, encP b])) ∧ T = fun _ _ => False) ∨ ∃ k p, readOut l = .inr (k, p) ∧ S = (fun _ => False) ∧ T = bT A k p)
    (hE : ∀ cls fs d Hb' H', T cls fs → Step C.M C.Hb C.H Hb' H' → H' d = some (.xd fs) → Hb' d = none → C.H d = none → E cls (some d) H') :
    Ex C (t_readX C.K A E) [.d (.str (mkS l)), .no, .no, .no] { nx := fun _ => S (.d .none), rt := fun s _ => S s } := by
  have hpos := rows_pos l
  have hmany := splitC_many 10 l
  have len : ∀ {ρ : List Sl}, ρ[1]? = some (.d (.list (encW (splitC 10 l)))) → PD C (tCB (rLenA C.K) (tCons (tVar 1) tNil)) ρ (.int ((splitC 10 l).length : Nat)) := fun h => ev_is (ev_call (ea_one (ev_var h)) (on_lenL (ds := encW (splitC 10 l)))) (by rw [encW_len])
  have emin : (if (((splitC 10 l).length : Nat) : Int) < 2 then (((splitC 10 l).length : Nat) : Int) else 2) = ((min 2 (splitC 10 l).length : Nat) : Int) := by
    split <;> omega
  have min2 : ∀ {ρ : List Sl}, ρ[1]? = some (.d (.list (encW (splitC 10 l)))) → PD C (tCB rMinA (tCons (tC (.int 2)) (tCons (tCB (rLenA C.K) (tCons (tVar 1) tNil)) tNil))) ρ (.int (min 2 (splitC 10 l).length : Nat)) := fun h => ev_is (ev_call (ea_two ev_int (len h)) on_min) (by rw [emin])
  have tells : ∀ k p, readOut l = .inr (k, p) → ∀ cls fs, bT A k p cls fs → T cls fs := fun k p hr cls fs ht => by
    rcases h with ⟨a, b, e, _⟩ | ⟨k', p', e, _, hT⟩
    · rw [hr] at e; cases e
    · rw [hr] at e; cases e; rw [hT]; exact ht
  have rowL : ∀ i, i < (splitC 10 l).length → ((splitC 10 l).getD i []).length ≤ 1000000 ∧ ∀ c ∈ (splitC 10 l).getD i [], c < 0x110000 := fun i hi =>
    ⟨Nat.le_trans (splitC_len (row_mem hi)) hl, fun c h => hc c (splitC_mem 10 l _ (row_mem hi) c h)⟩
  refine ex_seq (ex_set (s := .d (.list (encW (splitC 10 l)))) (ev_rows (ev_var rfl) hl) ?_)
  refine ex_seq (ex_asg (ef_lc (ei_rng1 (fa_p (ea_one (min2 rfl)) ⟨_, rfl, by omega, by omega, ?_⟩))))
  have e0 : ((min 2 (splitC 10 l).length : Nat) : Int).toNat = min 2 (splitC 10 l).length := by omega
  rw [e0]
  refine ⟨by omega, fun i acc ρ => ρ = [.d (.str (mkS l)), .d (.list (encW (splitC 10 l))), .no, .no] ∧ (∀ j, j < i → firstBad (wordsC ((splitC 10 l).getD j [])) = none) ∧ acc = (List.range i).map fun j => encP (deedsOf (wordsC ((splitC 10 l).getD j []))), ⟨rfl, fun j hj => absurd hj (Nat.not_lt_zero j), rfl⟩, fun i acc ρ hi ⟨e, hb, ea⟩ => ?_, fun acc ρ ⟨e, hb, ea⟩ => ?_⟩
  · subst e
    have hin : i < (splitC 10 l).length := by omega
    refine ⟨_, gp_name (List.mem_singleton.mpr rfl), fun σ Hb H fp W Q q => ?_⟩
    refine q true _ Hb H fp .refl W ?_
    cases hfb : firstBad (wordsC ((splitC 10 l).getD i [])) with
    | none =>
      refine ef_userX (rel := progRel A) (xs := [.int (i : Nat), .str (mkS ((splitC 10 l).getD i []))]) (S := fun s => s = .d (encP (deedsOf (wordsC ((splitC 10 l).getD i []))))) (T := fun _ _ => False) (ea_two (ev_var rfl) (ev_op (ev_var rfl) (ev_var rfl) (o2_ixL (row_at hin)))) ⟨i, _, rfl, (rowL i hin).1, (rowL i hin).2, .inl ⟨hfb, rfl, rfl⟩⟩ (fun s hs => ⟨_, hs, rfl, fun j hj => ?_, ?_⟩) fun _ _ _ _ _ _ z => z.elim
      · by_cases e : j = i
        · rw [e]; exact hfb
        · exact hb j (by omega)
      · rw [ea, List.range_succ, List.map_append]; rfl
    | some p =>
      refine ef_userX (rel := progRel A) (xs := [.int (i : Nat), .str (mkS ((splitC 10 l).getD i []))]) (S := fun _ => False) (T := bT A i p) (ea_two (ev_var rfl) (ev_op (ev_var rfl) (ev_var rfl) (o2_ixL (row_at hin)))) ⟨i, _, rfl, (rowL i hin).1, (rowL i hin).2, .inr ⟨p, hfb, rfl, rfl⟩⟩ (fun s hs => hs.elim) fun _ cls fs d Hb' H' ht t e n1 n2 => hE cls fs d Hb' H' (tells i p ?_ cls fs ht) t e n1 n2
      have : i = 0 ∨ i = 1 := by omega
      unfold readOut
      rcases this with e | e
      · subst e
        rw [hfb]; rfl
      · subst e
        rw [hb 0 (by omega), if_neg (fun z => nomatch z), if_neg (by omega), hfb]; rfl
  subst e
  subst ea
  refine ⟨_, .dat, ?_⟩
  have hb0 : firstBad (wordsC ((splitC 10 l).getD 0 [])) = none := hb 0 (by omega)
  refine ex_seq (ex_ifp (b := !decide ((splitC 10 l).length = 2)) (et_test (ev_is (ev_neI (len rfl) (ev_int (i := ((2 : Nat) : Int)))) (by
    congr 1; congr 1; rw [Bool.eq_iff_iff, beq_iff_eq, decide_eq_true_iff]; omega))) (fun ht => ?_) fun hf => ex_next ?_)
  · have hn : (splitC 10 l).length ≠ 2 := fun z => by rw [z] at ht; cases ht
    refine ex_raiseO (r := ((min 2 (splitC 10 l).length : Nat) : Int)) (p := ((0 : Nat) : Int)) (ea_two (min2 rfl) ev_int) fun d Hb' H' t e n1 n2 => hE _ _ d Hb' H' (tells (min 2 (splitC 10 l).length) 0 ?_ _ _ ⟨rfl, rfl⟩) t e n1 n2
    unfold readOut
    rw [hb0, if_neg (fun z => nomatch z)]
    by_cases h1 : (splitC 10 l).length = 1
    · rw [if_pos h1, h1]; rfl
    · rw [if_neg h1, hb 1 (by omega), if_neg (fun z => nomatch z), if_neg hn]
      congr 2; omega
  · have hn : (splitC 10 l).length = 2 := by
      cases hd : decide ((splitC 10 l).length = 2) with
      | true => exact of_decide_eq_true hd
      | false => rw [hd] at hf; cases hf
    have hb1 : firstBad (wordsC ((splitC 10 l).getD 1 [])) = none := hb 1 (by omega)
    have er : readOut l = .inl (deedsOf (wordsC ((splitC 10 l).getD 0 [])), deedsOf (wordsC ((splitC 10 l).getD 1 []))) := by
      unfold readOut
      rw [hb0, hb1, if_neg (fun z => nomatch z), if_neg (by omega), if_neg (fun z => nomatch z), if_pos hn]
    rcases h with ⟨a, b, e, hS, _⟩ | ⟨k, p, e, _⟩
    · rw [er] at e; cases e
      subst hS
      have em : (List.range (min 2 (splitC 10 l).length)).map (fun j => encP (deedsOf (wordsC ((splitC 10 l).getD j [])))) = [encP (deedsOf (wordsC ((splitC 10 l).getD 0 []))), encP (deedsOf (wordsC ((splitC 10 l).getD 1 [])))] := by
        rw [hn]; rfl
      rw [em]
      exact ex_ret (ef_d (ev_tup (ea_two (ev_op (ev_var rfl) ev_int (o2_ixL (atI_nat (j := 0) rfl))) (ev_op (ev_var rfl) ev_int (o2_ixL (atI_nat (j := 1) rfl))))) rfl)
    · rw [er] at e; cases e
end DL
set_option Elab.async false
set_option linter.all false
set_option maxRecDepth 100000
set_option maxHeartbeats 4000000
/-! HI: a dict of one's own with text keys; _law_word. -/
namespace DL
open PySem PySem.Spec PyProof.Rows L2

/-- a dict that one slot alone holds, its keys texts -/
def Res.txd (K : PySem.W.Frag) (kvs : List (Str × D)) : Res where
  holds := fun Hb H v fp => ∃ (a : Addr) (raw : List (Key × V)), v = .ref a ∧ fp = [a] ∧ H a = some (.dK raw) ∧ raw.map (·.1) = kvs.map (fun p => (Sum.inr p.1 : Key)) ∧ RpAll K Hb (raw.map (·.2)) (kvs.map (·.2))
  mono := by
    rintro Hb H Hb' H' v fp ⟨a, raw, e, ef, ha, hk, h⟩ s k
    exact ⟨a, raw, e, ef, (k a (by rw [ef]; exact List.mem_singleton.mpr rfl)).trans ha, hk, h.mono s⟩
theorem txd_at {K : PySem.W.Frag} {Hb : Hp} (k : Str) : ∀ {kvs : List (Str × D)} {raw : List (Key × V)}, raw.map (·.1) = kvs.map (fun p => (Sum.inr p.1 : Key)) → RpAll K Hb (raw.map (·.2)) (kvs.map (·.2)) →
    (lkA kvs k = none ∧ valV raw (.inr k) = none) ∨ ∃ x v, lkA kvs k = some x ∧ valV raw (.inr k) = some v ∧ Rp K Hb v x
  | [], [], _, _ => .inl ⟨rfl, rfl⟩
  | [], _ :: _, h, _ => by cases h
  | _ :: _, [], h, _ => by cases h
  | p :: kvs, q :: raw, h, r => by
    rw [List.map_cons, List.map_cons] at h
    obtain ⟨h1, h2⟩ := List.cons.inj h
    rw [List.map_cons, List.map_cons] at r
    cases r with
    | cons rv rr =>
      by_cases e : p.1 = k
      · exact .inr ⟨p.2, q.2, lkA_pos e, valV_pos (by rw [h1, e]), rv⟩
      · have e2 : ¬ q.1 = (Sum.inr k : Key) := fun z => e (Sum.inr.inj (h1.symm.trans z))
        rw [lkA_neg e, valV_neg e2]
        exact txd_at k h2 rr
section
variable {C : Cc} {ρ : List Sl} {te td ty tk tv : TE} {i : Nat} {k : Str} {x : D} {kvs : List (Str × D)} {P : Po}
theorem ev_tdisp1 (hv : PD C tv ρ x) : PEv C (tDisp [((tC (.str k)), tv)]) ρ (.ow (.txd C.K [(k, x)])) := fun σ Hb H fp W Q q p hp => by
  have t1 : Step [] Hb H Hb (upd H p (.dK [])) := Step.newO W.same hp
  refine hv σ Hb _ fp (W.step t1) _ fun v Hb1 H1 _ t2 ⟨_, e, r⟩ _ => ?_
  cases e
  have h1 : H1 p = some (.dK []) := t2.same _ _ upd_same
  have hb1 : Hb1 p = none := by
    rw [t2.f p (by rw [upd_same]; exact fun z => nomatch z)]
    exact none_of W.same hp
  refine ⟨h1, [(Sum.inr k, v)], rfl, Nat.le_of_ble_eq_true rfl, ?_⟩
  have t3 : Step [p] Hb1 H1 Hb1 (upd H1 p (.dK [(Sum.inr k, v)])) := Step.wr t2.s hb1 (List.mem_singleton.mpr rfl)
  refine q (.ref p) Hb1 _ [p] ((t1.trans0 t2).trans t3 fun y hy => .inr (by rw [List.mem_singleton.mp hy]; exact hp)) ⟨_, rfl, p, [(Sum.inr k, v)], rfl, rfl, upd_same, rfl, .cons r .nil⟩ fun b hb => ?_
  rw [List.mem_singleton.mp hb]
  exact ⟨hb1, (by rw [upd_same]; exact fun z => (nomatch z)), hp⟩
theorem ex_tput (hi : ρ[i]? = some (.ow (.txd C.K kvs))) (hv : PD C tv ρ x) (hy : PD C ty ρ (.str k)) (hn : k ∉ kvs.map (·.1)) (hl : kvs.length < 1000) (p : P.nx (ρ.set i (.ow (.txd C.K (kvs ++ [(k, x)]))))) : Ex C (sDPut (tVar i) ty tv) ρ P := fun σ Hb H fp E W q =>
  hv σ Hb H fp W _ fun v Hb1 H1 _ t1 ⟨_, e1, r1⟩ _ => by
    cases e1
    have W1 := W.step t1
    obtain ⟨u, eu, a, raw, rfl, ef, ha, hk, hr⟩ := W1.owns hi
    refine ⟨_, eu, hy σ Hb1 H1 fp W1 _ fun y Hb2 H2 _ t2 ⟨_, e2, r2⟩ _ => ?_⟩
    cases e2; cases r2
    have W2 := W1.step t2
    have ha2 : H2 a = some (.dK raw) := t2.same _ _ ha
    have hnr : (Sum.inr k : Key) ∉ raw.map (·.1) := by
      rw [hk]
      intro z
      obtain ⟨p, hp, e⟩ := List.mem_map.mp z
      exact hn (List.mem_map.mpr ⟨p, hp, Sum.inr.inj e⟩)
    have hlen : raw.length = kvs.length := by have := congrArg List.length hk; rwa [List.length_map, List.length_map] at this
    refine ⟨a, _, rfl, DPut.k (k := Sum.inr k) ha2 (small1000 (by omega)), ?_⟩
    rw [putK_new hnr]
    have hfp := (W2.fr i a (by rw [ef]; exact List.mem_singleton.mpr rfl))
    have t3 : Step [a] Hb2 H2 Hb2 (upd H2 a (.dK (raw ++ [(Sum.inr k, v)]))) := Step.wr W2.same hfp.1 (List.mem_singleton.mpr rfl)
    have hil : i < σ.length := by rw [W.len]; exact (List.getElem?_eq_some_iff.mp hi).1
    have W3 := W2.write (i := i) (s := .ow (.txd C.K (kvs ++ [(k, x)]))) (fpi := [a]) t3 (fun b hb => by rw [ef]; exact hb) hil (fun w hw => by
      rw [eu] at hw; cases hw
      refine ⟨_, rfl, a, raw ++ [(Sum.inr k, v)], rfl, rfl, upd_same, ?_, ?_⟩
      · rw [List.map_append, List.map_append, hk]; rfl
      · rw [List.map_append, List.map_append]
        exact ((hr.mono t2.b)).append (.cons (r1.mono t2.b) .nil)) (fun b hb => .inl (by rw [ef]; exact hb))
    refine q.nx σ _ Hb2 _ _ ((Fr.of (t1.trans0 t2)).etrans ⟨Same.refl _, fun b o hb e => t3.k b o (fun z => hb ⟨i, by rw [ef]; exact z⟩) e, fun _ _ _ => rfl, fun b ⟨j, hj⟩ => ?_⟩) W3 p
    have hj : b ∈ (if j = i then [a] else fp j) := hj
    by_cases e : j = i
    · rw [if_pos e] at hj; exact .inl ⟨i, by rw [ef]; exact hj⟩
    · rw [if_neg e] at hj; exact .inl ⟨j, hj⟩
theorem ev_tget1 (hi : ρ[i]? = some (.ow (.txd C.K kvs))) (hy : PD C ty ρ (.str k)) : PD C (tDGet1 (tVar i) ty) ρ ((lkA kvs k).getD .none) := fun σ Hb H fp W Q q => by
  obtain ⟨u, eu, a, raw, rfl, ef, ha, hk, hr⟩ := W.owns hi
  refine ⟨_, eu, a, rfl, .inl ⟨raw, .inl ha⟩, hy σ Hb H fp W _ fun y Hb1 H1 _ t1 ⟨_, e1, r1⟩ _ => ?_⟩
  cases e1; cases r1
  have ha1 : H1 a = some (.dK raw) := t1.same _ _ ha
  refine ⟨_, DGet.k (k := Sum.inr k) ha1, ?_⟩
  rcases txd_at k hk (hr.mono t1.b) with ⟨e1, e2⟩ | ⟨x, v, e1, e2, r⟩
  · rw [e2]
    have : (lkA kvs k).getD .none = PyData.none := by rw [e1]; rfl
    rw [this] at q
    exact q.data t1 .non
  · rw [e2]
    have : (lkA kvs k).getD .none = x := by rw [e1]; rfl
    rw [this] at q
    exact q.data t1 r
end
/-! ### _law_word -/
def tabW : Nat → List (List Nat × Deed)
  | 0 => [([45], .rest)]
  | c + 1 => tabW c ++ ([114, 48 + c], Deed.read c) :: (List.range 3).map fun v => ([119, 48 + c, 48 + v], Deed.write c v)
def encT (t : List (List Nat × Deed)) : List (Str × D) := t.map fun p => (mkS p.1, p.2.enc)
theorem encT_app (a b : List (List Nat × Deed)) : encT a ++ encT b = encT (a ++ b) := by unfold encT; rw [List.map_append]
theorem encT_lk (l : List Nat) : ∀ t : List (List Nat × Deed), lkA (encT t) (mkS l) = (lkA t l).map Deed.enc
  | [] => rfl
  | p :: t => by
    by_cases e : p.1 = l
    · rw [lkA_pos e]
      exact lkA_pos (p := (mkS p.1, p.2.enc)) (congrArg mkS e)
    · rw [lkA_neg e, ← encT_lk l t]
      exact lkA_neg (p := (mkS p.1, p.2.enc)) fun z => e (mkS_inj z)
theorem encT_new {t : List (List Nat × Deed)} {l : List Nat} (h : l ∉ t.map (·.1)) : mkS l ∉ (encT t).map (·.1) := fun z => by
  obtain ⟨p, hp, e⟩ := List.mem_map.mp z
  obtain ⟨q, hq, rfl⟩ := List.mem_map.mp hp
  exact h (List.mem_map.mpr ⟨q, hq, mkS_inj e⟩)
theorem tab_deeds : ∀ p ∈ tabW 4, deedOfC p.1 = some p.2 := by decide
theorem tab_nd : ((tabW 4).map (·.1)).Nodup := by decide
theorem tab_has {l : List Nat} {d : Deed} (h : deedOfC l = some d) : (l, d) ∈ tabW 4 := by
  unfold deedOfC at h
  split at h
  · split at h
    · rename_i a e; cases h; subst e; decide
    · cases h
  · split at h
    · rename_i a c e
      cases h
      obtain ⟨rfl, h1, h2⟩ := e
      have : c = 48 ∨ c = 49 ∨ c = 50 ∨ c = 51 := by omega
      rcases this with e | e | e | e <;> subst e <;> decide
    · cases h
  · split at h
    · rename_i a c v e
      cases h
      obtain ⟨rfl, ⟨h1, h2⟩, h3, h4⟩ := e
      have h5 : c = 48 ∨ c = 49 ∨ c = 50 ∨ c = 51 := by omega
      have h6 : v = 48 ∨ v = 49 ∨ v = 50 := by omega
      rcases h5 with e | e | e | e <;> subst e <;> rcases h6 with e | e | e <;> subst e <;> decide
    · cases h
  · cases h
theorem tab_lk (l : List Nat) : lkA (tabW 4) l = deedOfC l := by
  cases hd : deedOfC l with
  | some d => exact lkA_of tab_nd (tab_has hd)
  | none =>
    cases hk : lkA (tabW 4) l with
    | none => rfl
    | some d =>
      have := tab_deeds _ (lkA_mem hk)
      rw [hd] at this; cases this
theorem tab_len : ∀ c : Nat, c ≤ 4 → (tabW c).length ≤ 17 := by
  intro c h
  have : c = 0 ∨ c = 1 ∨ c = 2 ∨ c = 3 ∨ c = 4 := by omega
  rcases this with e | e | e | e | e <;> subst e <;> decide
theorem tab_newR : ∀ c : Nat, c < 4 → [114, 48 + c] ∉ (tabW c).map (·.1) := by
  intro c h
  have : c = 0 ∨ c = 1 ∨ c = 2 ∨ c = 3 := by omega
  rcases this with e | e | e | e <;> subst e <;> decide
def tabV (c v : Nat) : List (List Nat × Deed) := tabW c ++ ([114, 48 + c], Deed.read c) :: (List.range v).map fun v => ([119, 48 + c, 48 + v], Deed.write c v)
theorem tab_newW : ∀ c : Nat, c < 4 → ∀ v : Nat, v < 3 → [119, 48 + c, 48 + v] ∉ (tabV c v).map (·.1) ∧ (tabV c v).length ≤ 20 := by
  intro c h v hv
  have : c = 0 ∨ c = 1 ∨ c = 2 ∨ c = 3 := by omega
  have : v = 0 ∨ v = 1 ∨ v = 2 := by omega
  rcases ‹c = 0 ∨ _› with e | e | e | e <;> subst e <;> rcases ‹v = 0 ∨ _› with e | e | e <;> subst e <;> decide
theorem tabV_succ (c v : Nat) : tabV c (v + 1) = tabV c v ++ [([119, 48 + c, 48 + v], Deed.write c v)] := by
  unfold tabV
  rw [List.range_succ, List.map_append, ← List.cons_append, ← List.append_assoc]; rfl
def t_law_word (K : PySem.W.Frag) (A : Ad) : TS :=
  (tSeq (tAsg (tDisp [((tC (.str "-")), (tTup (tCons (tC (.str "rest")) tNil)))]) (gName 1))
    (tSeq (tFor (iRng1 (tCons (tC (.int 4)) tNil)) (gName 2) (tSeq (sDPut (tVar 1) (tOp (rAddA K) (tC (.str "r")) (tCB rStrA (tCons (tVar 2) tNil))) (tTup (tCons (tC (.str "read")) (tCons (tVar 2) tNil))))
    (tFor (iRng1 (tCons (tC (.int 3)) tNil)) (gName 3) (sDPut (tVar 1) (tOp (rAddA K) (tOp (rAddA K) (tC (.str "w")) (tCB rStrA (tCons (tVar 2) tNil))) (tCB rStrA (tCons (tVar 3) tNil))) (tTup (tCons (tC (.str "write")) (tCons (tVar 2) (tCons (tVar 3) tNil))))))))
    (tRet (tDGet1 (tVar 1) (tVar 0)))))
def sp_law_word (K : PySem.W.Frag) (A : Ad) : Sp := datSp K fun ds x => ∃ l : List Nat, ds = [.str (mkS l)] ∧ x = deedD (deedOfC l)
theorem one_app (a b : Nat) : one a ++ one b = mkS [a, b] := mkS_app [a] [b]
theorem rd_law_word {C : Cc} {A : Ad} {l : List Nat} : Ex C (t_law_word C.K A) [.d (.str (mkS l)), .no, .no, .no] (retD (deedD (deedOfC l))) := by
  refine ex_seq (ex_set (s := .ow (.txd C.K (encT (tabW 0)))) ?_ ?_)
  · have e : encT (tabW 0) = [(("-" : Str), (Deed.rest).enc)] := by
      have : ("-" : Str) = mkS [45] := by decide +kernel
      rw [this]; rfl
    rw [e]
    exact ev_tdisp1 (ev_tup (ea_one ev_str))
  refine ex_seq (ex_for (ei_p (pi_r1 (j := 4) (ea_one ev_int) (by decide)) ⟨fun i ρ => ∃ s2 s3, ρ = [.d (.str (mkS l)), .ow (.txd C.K (encT (tabW i))), s2, s3], ⟨_, _, rfl⟩, fun c ρ hc ⟨s2, s3, e⟩ => ?_, fun ρ ⟨s2, s3, e⟩ => ?_⟩))
  · subst e
    have hc : c < 4 := by have : c < (4 : Int).toNat := hc; simpa using this
    refine eg_name ?_
    refine ex_seq (ex_tput (k := mkS [114, 48 + c]) (x := (Deed.read c).enc) rfl (ev_tup (ea_two ev_str (ev_var rfl))) (ev_is (ev_op ev_str (ev_call (ea_one (ev_var rfl)) (on_strI hc)) (o2_addS (by rw [lit_r1]; exact Nat.le_of_ble_eq_true rfl))) (by rw [lit_r1, one_app])) (encT_new (tab_newR c hc)) (by have := tab_len c (by omega); unfold encT; rw [List.length_map]; omega) ?_)
    refine ex_for (ei_p (pi_r1 (j := 3) (ea_one ev_int) (by decide)) ⟨fun v ρ => ∃ s3, ρ = [.d (.str (mkS l)), .ow (.txd C.K (encT (tabV c v))), .d (.int (c : Nat)), s3], ⟨s3, ?_⟩, fun v ρ hv ⟨s3, e⟩ => ?_, fun ρ ⟨s3, e⟩ => ⟨_, _, e⟩⟩)
    · have e : encT (tabW c) ++ [(mkS [114, 48 + c], (Deed.read c).enc)] = encT (tabV c 0) := encT_app (tabW c) [([114, 48 + c], Deed.read c)]
      rw [← e]; rfl
    · subst e
      have hv : v < 3 := by have : v < (3 : Int).toNat := hv; simpa using this
      obtain ⟨hn, hlen⟩ := tab_newW c hc v hv
      refine eg_name ?_
      refine ex_tput (k := mkS [119, 48 + c, 48 + v]) (x := (Deed.write c v).enc) rfl (ev_tup (ea_cons ev_str (ea_two (ev_var rfl) (ev_var rfl)))) (ev_is (ev_op (x := .str (mkS [119, 48 + c])) (ev_is (ev_op ev_str (ev_call (ea_one (ev_var rfl)) (on_strI hc)) (o2_addS (by rw [lit_w1]; exact Nat.le_of_ble_eq_true rfl))) (by rw [lit_w1, one_app])) (ev_call (ea_one (ev_var rfl)) (on_strI (by omega))) (o2_addS (by rw [mkS_len]; exact Nat.le_of_ble_eq_true rfl))) (by rw [show one (48 + v) = mkS [48 + v] from rfl, mkS_app]; rfl)) (encT_new hn) (by unfold encT; rw [List.length_map]; omega) ⟨.d (.int (v : Nat)), ?_⟩
      have e : encT (tabV c v) ++ [(mkS [119, 48 + c, 48 + v], (Deed.write c v).enc)] = encT (tabV c (v + 1)) := by rw [tabV_succ]; exact encT_app _ [([119, 48 + c, 48 + v], Deed.write c v)]
      rw [← e]; rfl
  · subst e
    refine ex_ret (ef_d (ev_is (ev_tget1 (kvs := encT (tabW 4)) rfl (ev_var rfl)) ?_) rfl)
    rw [encT_lk, tab_lk]
    cases deedOfC l <;> rfl
end DL
set_option Elab.async false
set_option linter.all false
set_option maxRecDepth 100000
set_option maxHeartbeats 4000000
/-! HJ: _law_due, for any text. -/
namespace DL
open PySem PySem.Spec PyProof.Rows L2

theorem bad_head (ws : List (List Nat)) : ((List.range (min 41 ws.length)).filter (badW ws)).head? = firstBad ws := by
  rw [List.head?_filter]
  by_cases h : ws.length ≤ 41
  · rw [Nat.min_eq_right h]; rfl
  · rw [Nat.min_eq_left (by omega)]
    have hb : badW ws 40 = true := by unfold badW; rw [decide_eq_true (Nat.le_refl 40), Bool.or_true]
    cases hf : firstBad ws with
    | none =>
      have := first_inv hf 40 (by omega)
      rw [hb] at this; cases this
    | some i =>
      obtain ⟨h1, h2, h3⟩ := first_at hf
      have hi : i ≤ 40 := Nat.le_of_not_lt fun z => by
        have := h3 40 z
        rw [hb] at this; cases this
      exact find_range (by omega) h2 h3
theorem all_good {ws : List (List Nat)} (h : firstBad ws = none) : ws.length ≤ 40 ∧ (ws.take 41).map (fun w => deedD (deedOfC w)) = encs (deedsOf ws) := by
  have hi := first_inv h
  have hl : ws.length ≤ 40 := Nat.le_of_not_lt fun z => by
    have := hi 40 z
    unfold badW at this
    rw [decide_eq_true (Nat.le_refl 40), Bool.or_true] at this; cases this
  refine ⟨hl, ?_⟩
  rw [List.take_of_length_le (by omega)]
  have key : ∀ ws : List (List Nat), (∀ w ∈ ws, ∃ d, deedOfC w = some d) → ws.map (fun w => deedD (deedOfC w)) = encs (deedsOf ws) := fun ws => by
    induction ws with
    | nil => exact fun _ => rfl
    | cons w ws ih =>
      intro hw
      obtain ⟨d, hd⟩ := hw w List.mem_cons_self
      have e : deedsOf (w :: ws) = d :: deedsOf ws := List.filterMap_cons_some hd
      rw [List.map_cons, ih fun x hx => hw x (List.mem_cons_of_mem _ hx), e, hd]; rfl
  refine key ws fun w hw => ?_
  obtain ⟨i, hi2, rfl⟩ := List.mem_iff_getElem.mp hw
  obtain ⟨d, hd, _⟩ := good_at hi2 (hi i hi2)
  exact ⟨d, hd⟩
def dueOf : (List Deed × List Deed) ⊕ (Nat × Nat) → D
  | .inl (a, b) => .tuple [encP a, encP b]
  | .inr (k, p) => .tuple [.str "BadText", .int (k : Nat), .int (p : Nat)]
def sp_law_due12 (K : PySem.W.Frag) (A : Ad) : Sp := datSp K fun ds x => ∃ l : List Nat, ds = [.str (mkS l)] ∧ l.length ≤ 1000000 ∧ (∀ c ∈ l, c < 0x110000) ∧ x = dueOf (readOut l)
def t_law_due12 (K : PySem.W.Frag) (A : Ad) : TS :=
  (tSeq (tAsg (tBM K "str" r_split (tVar 0) (tCons (tC (.str "\n")) tNil)) (gName 1))
    (tSeq (tAsg (tLst tNil) (gName 2))
    (tSeq (tFor (iRng1 (tCons (tCB (rMinA) (tCons (tC (.int 2)) (tCons (tCB (rLenA K) (tCons (tVar 1) tNil)) tNil))) tNil)) (gName 3) (tSeq (tAsg (tIf (tTest (tOp (rNeD K) (tOp (rIx K) (tVar 1) (tVar 3)) (tC (.str "")))) (tBM K "str" r_split (tOp (rIx K) (tVar 1) (tVar 3)) (tCons (tC (.str " ")) tNil)) (tLst tNil)) (gName 4))
    (tSeq (tAsg (tSl (rSlX K) (tLc (iList K (tVar 4)) (gName 6) tYes (tUser (sp_law_word K A) (tCons (tVar 6) tNil)) [6]) tNoPart (tPart (tC (.int 41)))) (gName 5))
    (tSeq (tAsg (tLc (iRng1 (tCons (tCB (rLenA K) (tCons (tVar 5) tNil)) tNil)) (gName 8) (tOr (tTest (tOp rIsNA (tOp (rIx K) (tVar 5) (tVar 8)) (tC .non))) (tTest (tOp (rEqD K) (tVar 8) (tC (.int 40))))) (tVar 8) [8]) (gName 7))
    (tSeq (tIfS (tTest (tOp (rNeD K) (tVar 7) (tLst tNil))) (tRet (tTup (tCons (tC (.str "BadText")) (tCons (tVar 3) (tCons (tOp (rIx K) (tVar 7) (tC (.int 0))) tNil))))) tNext)
    (tDrop (tBM K "list" rAppend (tVar 2) (tCons (tVar 5) tNil))))))))
    (tSeq (tIfS (tTest (tOp (rNeD K) (tCB (rLenA K) (tCons (tVar 1) tNil)) (tC (.int 2)))) (tRet (tTup (tCons (tC (.str "BadText")) (tCons (tOp (rIx K) (tLst (tCons (tC (.int 1)) (tCons (tC (.int 2)) tNil))) (tCB (rIntA) (tCons (tOp rGtA (tCB (rLenA K) (tCons (tVar 1) tNil)) (tC (.int 2))) tNil))) (tCons (tC (.int 0)) tNil))))) tNext)
    (tRet (tTup (tCons (tOp (rIx K) (tVar 2) (tC (.int 0))) (tCons (tOp (rIx K) (tVar 2) (tC (.int 1))) tNil))))))))
theorem rd_law_due12 {C : Cc} {A : Ad} {l : List Nat} (hl : l.length ≤ 1000000) (hc : ∀ c ∈ l, c < 0x110000) : Ex C (t_law_due12 C.K A) [.d (.str (mkS l)), .no, .no, .no, .no, .no, .no, .no, .no] (retD (dueOf (readOut l))) := by
  have hpos := rows_pos l
  have hmany := splitC_many 10 l
  have len : ∀ {ρ : List Sl}, ρ[1]? = some (.d (.list (encW (splitC 10 l)))) → PD C (tCB (rLenA C.K) (tCons (tVar 1) tNil)) ρ (.int ((splitC 10 l).length : Nat)) := fun h => ev_is (ev_call (ea_one (ev_var h)) (on_lenL (ds := encW (splitC 10 l)))) (by rw [encW_len])
  have emin : (if (((splitC 10 l).length : Nat) : Int) < 2 then (((splitC 10 l).length : Nat) : Int) else 2) = ((min 2 (splitC 10 l).length : Nat) : Int) := by
    split <;> omega
  have e0 : ((min 2 (splitC 10 l).length : Nat) : Int).toNat = min 2 (splitC 10 l).length := by omega
  refine ex_seq (ex_set (s := .d (.list (encW (splitC 10 l)))) (ev_rows (ev_var rfl) hl) ?_)
  refine ex_seq (ex_set (s := own C.K ((List.range 0).map fun j => encP (deedsOf (wordsC ((splitC 10 l).getD j []))))) (ev_lstO ea_nil) ?_)
  refine ex_seq (ex_for (ei_p (pi_r1 (j := ((min 2 (splitC 10 l).length : Nat) : Int)) (ea_one (ev_is (ev_call (ea_two ev_int (len rfl)) on_min) (by rw [emin]))) (by omega)) ⟨fun i ρ => (∀ j, j < i → firstBad (wordsC ((splitC 10 l).getD j [])) = none) ∧ ∃ s3 s4 s5 s6 s7 s8, ρ = [.d (.str (mkS l)), .d (.list (encW (splitC 10 l))), own C.K ((List.range i).map fun j => encP (deedsOf (wordsC ((splitC 10 l).getD j [])))), s3, s4, s5, s6, s7, s8], ⟨fun j hj => absurd hj (Nat.not_lt_zero j), _, _, _, _, _, _, rfl⟩, fun i ρ hi ⟨hb, s3, s4, s5, s6, s7, s8, e⟩ => ?_, fun ρ ⟨hb, s3, s4, s5, s6, s7, s8, e⟩ => ?_⟩))
  · subst e
    rw [e0] at hi
    have hin : i < (splitC 10 l).length := by omega
    have hrl : ((splitC 10 l).getD i []).length ≤ 1000000 := Nat.le_trans (splitC_len (row_mem hin)) hl
    have hrc : ∀ c ∈ (splitC 10 l).getD i [], c < 0x110000 := fun c h => hc c (splitC_mem 10 l _ (row_mem hin) c h)
    have hat := row_at hin
    have hro : ∀ p, firstBad (wordsC ((splitC 10 l).getD i [])) = some p → readOut l = .inr (i, p) := fun p hfb => by
      have : i = 0 ∨ i = 1 := by omega
      unfold readOut
      rcases this with e | e
      · subst e; rw [hfb]; rfl
      · subst e; rw [hb 0 (by omega), if_neg (fun z => nomatch z), if_neg (by omega), hfb]; rfl
    have hsucc : (List.range (i + 1)).map (fun j => encP (deedsOf (wordsC ((splitC 10 l).getD j [])))) = (List.range i).map (fun j => encP (deedsOf (wordsC ((splitC 10 l).getD j [])))) ++ [encP (deedsOf (wordsC ((splitC 10 l).getD i [])))] := by
      rw [List.range_succ, List.map_append]; rfl
    have hbs : firstBad (wordsC ((splitC 10 l).getD i [])) = none → ∀ j, j < i + 1 → firstBad (wordsC ((splitC 10 l).getD j [])) = none := fun h j hj => by
      by_cases e : j = i
      · rw [e]; exact h
      · exact hb j (by omega)
    generalize (splitC 10 l).getD i [] = r at hrl hrc hat hro hsucc hbs
    have hwm := wordsC_many r
    refine eg_name ?_
    refine ex_seq (ex_set (s := .d (.list (encW (wordsC r)))) (ev_words (ev_op (ev_var rfl) (ev_var rfl) (o2_ixL hat)) hrl hrc) ?_)
    refine ex_seq (ex_set (s := .d (.list (((wordsC r).take 41).map fun w => deedD (deedOfC w)))) (ev_sl (ev_lcL (s := .d (.list ((wordsC r).map fun w => deedD (deedOfC w)))) (xs := wordsC r) (enc := fun w => .str (mkS w)) (v := fun w => deedD (deedOfC w)) (pi_l (ds := encW (wordsC r)) (ev_var rfl)) (by omega) (List.mem_singleton.mpr rfl) (fun w hw => ev_dat (ea_one (ev_var rfl)) ⟨w, rfl, rfl⟩) .dat) eo_no (eo_part (ev_int (i := ((41 : Nat) : Int)))) (os_list (by rw [cut_pre, List.map_take]; exact .dat))) ?_)
    have hn41 : (((wordsC r).take 41).map fun w => deedD (deedOfC w)).length = min 41 (wordsC r).length := by rw [List.length_map, List.length_take]
    have e41 : (((min 41 (wordsC r).length : Nat) : Int)).toNat = min 41 (wordsC r).length := by omega
    refine ex_seq (ex_set (s := .d (.list (encN ((List.range (min 41 (wordsC r).length)).filter (badW (wordsC r)))))) (ev_lc (fun j => [.d (.str (mkS l)), .d (.list (encW (splitC 10 l))), own C.K ((List.range i).map fun j => encP (deedsOf (wordsC ((splitC 10 l).getD j [])))), .d (.int (i : Nat)), .d (.list (encW (wordsC r))), .d (.list (((wordsC r).take 41).map fun w => deedD (deedOfC w))), s6, s7, .d (.int (j : Nat))]) (badW (wordsC r)) (fun j => .int (j : Nat)) (pi_r1 (j := ((min 41 (wordsC r).length : Nat) : Int)) (ea_one (ev_is (ev_call (ea_one (ev_var rfl)) on_lenL) (by rw [hn41]))) (by omega)) (by omega) (fun j hj => gp_name (List.mem_singleton.mpr rfl)) (fun j hj => ?_) (fun j hj _ => ev_var rfl) ?_) ?_)
    · rw [e41] at hj
      have hjw : j < (wordsC r).length := by omega
      have hgd : (wordsC r).getD j [] = (wordsC r)[j] := by rw [List.getD_eq_getElem?_getD, List.getElem?_eq_getElem hjw]; rfl
      refine et_is (et_or (et_test (ev_is (ev_op (ev_op (ev_var rfl) (ev_var rfl) (o2_ixL (z := deedD (deedOfC (wordsC r)[j])) (atI_nat ?_))) ev_non o2_isN) (by rw [isNon_deed]))) fun _ => et_test (ev_is (ev_eqI (ev_var rfl) (ev_int (i := ((40 : Nat) : Int)))) (y := .bool (decide (40 ≤ j))) (by congr 1; rw [Bool.eq_iff_iff, beq_iff_eq, decide_eq_true_iff]; omega))) (by unfold badW; rw [hgd])
      rw [List.getElem?_map, List.getElem?_take_of_lt (by omega), List.getElem?_eq_getElem hjw]; rfl
    · rw [e41]; exact .dat
    have hh := bad_head (wordsC r)
    cases hf : (List.range (min 41 (wordsC r).length)).filter (badW (wordsC r)) with
    | cons p L =>
      rw [hf] at hh
      have hfb : firstBad (wordsC r) = some p := hh.symm
      refine ex_seq (ex_ifp (b := true) (et_test (ev_is (ev_op (x := .list (encN (p :: L))) (ev_var rfl) (ev_lst ea_nil) (o2_ne (encNl_sh (n := 0) _).shaped rfl)) rfl)) (fun _ => ?_) fun z => nomatch z)
      rw [hro p hfb]
      exact ex_ret (ef_d (ev_tup (ea_cons ev_str (ea_two (ev_var rfl) (ev_op (ev_var rfl) ev_int (o2_ixL (atI_nat (j := 0) rfl)))))) rfl)
    | nil =>
      rw [hf] at hh
      have hfb : firstBad (wordsC r) = none := hh.symm
      obtain ⟨h40, hall⟩ := all_good hfb
      refine ex_seq (ex_ifp (b := false) (et_test (ev_is (ev_op (x := .list (encN [])) (ev_var rfl) (ev_lst ea_nil) (o2_ne (encNl_sh (n := 0) _).shaped rfl)) rfl)) (fun z => nomatch z) fun _ => ex_next ?_)
      refine ex_app (x := encP (deedsOf (wordsC r))) (lr_own rfl) (ev_is (ev_var rfl) (by rw [hall])) (by rw [List.length_map, List.length_range]; omega) ⟨hbs hfb, _, _, _, _, _, _, by rw [hsucc]; rfl⟩
  subst e
  rw [e0] at hb ⊢
  have hb0 : firstBad (wordsC ((splitC 10 l).getD 0 [])) = none := hb 0 (by omega)
  refine ex_seq (ex_ifp (b := !decide ((splitC 10 l).length = 2)) (et_test (ev_is (ev_neI (len rfl) (ev_int (i := ((2 : Nat) : Int)))) (by
    congr 1; congr 1; rw [Bool.eq_iff_iff, beq_iff_eq, decide_eq_true_iff]; omega))) (fun ht => ?_) fun hf => ex_next ?_)
  · have hn : (splitC 10 l).length ≠ 2 := fun z => by rw [z] at ht; cases ht
    have er : readOut l = .inr (min 2 (splitC 10 l).length, 0) := by
      unfold readOut
      rw [hb0, if_neg (fun z => nomatch z)]
      by_cases h1 : (splitC 10 l).length = 1
      · rw [if_pos h1, h1]; rfl
      · rw [if_neg h1, hb 1 (by omega), if_neg (fun z => nomatch z), if_neg hn]
        congr 2; omega
    rw [er]
    have gt : PD C (tOp (rIx C.K) (tLst (tCons (tC (.int 1)) (tCons (tC (.int 2)) tNil))) (tCB (rIntA) (tCons (tOp rGtA (tCB (rLenA C.K) (tCons (tVar 1) tNil)) (tC (.int 2))) tNil))) [.d (.str (mkS l)), .d (.list (encW (splitC 10 l))), own C.K ((List.range (min 2 (splitC 10 l).length)).map fun j => encP (deedsOf (wordsC ((splitC 10 l).getD j [])))), s3, s4, s5, s6, s7, s8] (.int (min 2 (splitC 10 l).length : Nat)) := by
      by_cases h1 : (splitC 10 l).length = 1
      · refine ev_op (ev_lst (ea_two ev_int ev_int)) (ev_is (ev_call (ea_one (ev_is (ev_op (len rfl) (ev_int (i := ((2 : Nat) : Int))) o2_gtI) (y := .bool false) (by rw [decide_eq_false (by omega)]))) on_intB) rfl) (o2_ixL (i := 0) ?_)
        rw [h1]; exact atI_nat (j := 0) rfl
      · refine ev_op (ev_lst (ea_two ev_int ev_int)) (ev_is (ev_call (ea_one (ev_is (ev_op (len rfl) (ev_int (i := ((2 : Nat) : Int))) o2_gtI) (y := .bool true) (by rw [decide_eq_true (by omega)]))) on_intB) rfl) (o2_ixL (i := 1) ?_)
        have : min 2 (splitC 10 l).length = 2 := by omega
        rw [this]; exact atI_nat (j := 1) rfl
    exact ex_ret (ef_d (ev_tup (ea_cons ev_str (ea_two gt ev_int))) rfl)
  · have hn : (splitC 10 l).length = 2 := by
      cases hd : decide ((splitC 10 l).length = 2) with
      | true => exact of_decide_eq_true hd
      | false => rw [hd] at hf; cases hf
    have hb1 : firstBad (wordsC ((splitC 10 l).getD 1 [])) = none := hb 1 (by omega)
    have er : readOut l = .inl (deedsOf (wordsC ((splitC 10 l).getD 0 [])), deedsOf (wordsC ((splitC 10 l).getD 1 []))) := by
      unfold readOut
      rw [hb0, hb1, if_neg (fun z => nomatch z), if_neg (by omega), if_neg (fun z => nomatch z), if_pos hn]
    have em : (List.range (min 2 (splitC 10 l).length)).map (fun j => encP (deedsOf (wordsC ((splitC 10 l).getD j [])))) = [encP (deedsOf (wordsC ((splitC 10 l).getD 0 []))), encP (deedsOf (wordsC ((splitC 10 l).getD 1 [])))] := by
      rw [hn]; rfl
    rw [er, em]
    exact ex_ret (ef_tup (fa_cons (ef_op (ef_frz (i := 2) rfl ⟨_, rfl, ef_d ev_int ⟨_, _, rfl, o2_ixL (atI_nat (j := 0) rfl), _, rfl, fa_cons (ef_d (ev_op (ev_var rfl) ev_int (o2_ixL (atI_nat (j := 1) rfl))) ⟨_, rfl, fa_nil ⟨Nat.le_of_ble_eq_true rfl, rfl⟩⟩)⟩⟩))))
end DL
set_option Elab.async false
set_option linter.all false
set_option maxRecDepth 100000
set_option maxHeartbeats 4000000
/-! HK: _law_told, for any text. -/
namespace DL
open PySem PySem.Spec PyProof.Rows L2

/-- isinstance(e, ..) of whatever the suite holds -/
def rIsY (K : PySem.W.Frag) (D a : Addr) (cls : Value) (od : Option Addr) : List V → Hp → VK → Prop := fun xs H Q => ∃ d, cls = .ref D ∧ od = some d ∧ rIsX K D a d xs H Q
theorem call_isY {X : Cx} {a D : Addr} {oe : Obj} {cls : Value} {od : Option Addr} {pn : List (Addr × Obj)} (T : ExcC X.K D) (hz : Zc cls od oe) (hf : ∃ vs, oe.data = .fields vs) : CallR (X.suite a ((a, oe) :: pn)) (.builtin "isinstance") (rIsY X.K D a cls od) := by
  intro pins s σ H xs us Q I r h
  obtain ⟨d, hc, hd, h⟩ := h
  exact call_isX T hc hd hz hf pins s σ H xs us Q I r h
section
variable {C : Cc} {ρ : List Sl} {i : Nat} {a d D : Addr} {fs : List (Str × V)}
theorem ev_isY1 {c : V} {cv : Value} {b : Bool} (hi : ρ[i]? = some (.ow (exnR a d fs))) (hc : ∀ u, RelV c u → u = cv) (k : PySem.W.kitOne C.K (.ref D) cv = some b) : PD C (tCB (rIsY C.K D a (.ref D) (some d)) (tCons (tVar i) (tCons (tC c) tNil))) ρ (.bool b) := fun σ Hb H fp W Q q => by
  obtain ⟨v, ev, rfl, ef, hd⟩ := W.owns hi
  exact ⟨_, ev, d, rfl, rfl, ⟨fs, hd⟩, .inl ⟨c, cv, b, rfl, hc, k, q.flat W.same (.bl _)⟩⟩
theorem ev_isY5 {c1 c2 c3 c4 c5 : Addr} {b : Bool} (hi : ρ[i]? = some (.ow (exnR a d fs))) (k : PySem.W.kitAny C.K (.ref D) [.ref c1, .ref c2, .ref c3, .ref c4, .ref c5] = some b) :
    PD C (tCB (rIsY C.K D a (.ref D) (some d)) (tCons (tVar i) (tCons (tTup (tCons (tC (.ref c1)) (tCons (tC (.ref c2)) (tCons (tC (.ref c3)) (tCons (tC (.ref c4)) (tCons (tC (.ref c5)) tNil)))))) tNil))) ρ (.bool b) := fun σ Hb H fp W Q q => by
  obtain ⟨v, ev, rfl, ef, hd⟩ := W.owns hi
  refine ⟨_, ev, Nat.le_trans (show 5 ≤ 10000000 by decide) (by rw [sizeLine_eq]; decide), fun p hp => ⟨d, rfl, rfl, ⟨fs, ?_⟩, .inr ⟨p, _, [.ref c1, .ref c2, .ref c3, .ref c4, .ref c5], b, rfl, upd_same, fun us h => ?_, k, ?_⟩⟩⟩
  · rw [upd_ne (fun z => by rw [z, hp] at hd; cases hd)]; exact hd
  · cases h with | cons h1 h => cases h with | cons h2 h => cases h with | cons h3 h => cases h with | cons h4 h => cases h with | cons h5 h =>
      cases h; cases h1; cases h2; cases h3; cases h4; cases h5; rfl
  · exact q.data (Step.newO W.same hp) (.bl _)
end
/-- what is asked of the classes -/
structure TextOk (K : PySem.W.Frag) (A : AdX) : Prop where
  ex : PySem.W.exmOne K (.ref A.aBadText) (.ref A.aDoorError) = some true
  k1 : PySem.W.kitOne K (.ref A.aBadText) (.ref A.aBadText) = some true
  kV : PySem.W.kitOne K (.ref A.aBadText) (.type "ValueError") = some true
  k5 : PySem.W.kitAny K (.ref A.aBadText) [.ref A.aBadMemory, .ref A.aBadOrder, .ref A.aBadProgram, .ref A.aBadRule, .ref A.aTooMany] = some false
def ts_told (K : PySem.W.Frag) (A : AdX) (a : Addr) (cls : Value) (d : Option Addr) : TS :=
  (tSeq (tAsg (tCB (rIsY K A.aBadText a cls d) (tCons (tVar 1) (tCons (tTup (tCons (tC (.ref A.aBadMemory)) (tCons (tC (.ref A.aBadOrder)) (tCons (tC (.ref A.aBadProgram)) (tCons (tC (.ref A.aBadRule)) (tCons (tC (.ref A.aTooMany)) tNil)))))) tNil))) (gName 2))
    (tSeq (tIfS (tOr (tNot (tB (tCB (rIsY K A.aBadText a cls d) (tCons (tVar 1) (tCons (tC (.ref A.aBadText)) tNil))))) (tOr (tNot (tB (tCB (rIsY K A.aBadText a cls d) (tCons (tVar 1) (tCons (tC (.ty "ValueError")) tNil))))) (tB (tVar 2)))) (tRet (tTup (tCons (tC (.str "other")) (tCons (tC (.int 0)) (tCons (tC (.int 0)) tNil))))) tNext)
    (tRet (tTup (tCons (tC (.str "BadText")) (tCons (tXf a cls d A.aBadText "row" (tVar 1)) (tCons (tXf a cls d A.aBadText "place" (tVar 1)) tNil)))))))
def t_law_told (K : PySem.W.Frag) (A : AdX) : TS := tTry1 K (.ref A.aDoorError) 1 (sp_readX K A) (tCons (tVar 0) tNil) (ts_told K A) (fun _ _ _ _ => False)
def sp_law_told (K : PySem.W.Frag) (A : AdX) : Sp := datSp K fun ds x => ∃ l : List Nat, ds = [.str (mkS l)] ∧ l.length ≤ 1000000 ∧ (∀ c ∈ l, c < 0x110000) ∧ x = dueOf (readOut l)
theorem rd_law_told {C : Cc} {A : AdX} {l : List Nat} (T : TextOk C.K A) (hl : l.length ≤ 1000000) (hc : ∀ c ∈ l, c < 0x110000) : Ex C (t_law_told C.K A) [.d (.str (mkS l)), .no, .no] (retD (dueOf (readOut l))) := by
  cases hr : readOut l with
  | inl q =>
    obtain ⟨a, b⟩ := q
    exact ex_try1 (rel := readRel A) (S := fun s => s = .d (.tuple [encP a, encP b])) (T := fun _ _ => False) (ea_one (ev_var rfl)) ⟨l, rfl, hl, hc, .inl ⟨a, b, hr, rfl, rfl⟩⟩ (fun s hs => hs) fun _ _ z => z.elim
  | inr q =>
    obtain ⟨k, p⟩ := q
    refine ex_try1 (rel := readRel A) (S := fun _ => False) (T := bT A k p) (ea_one (ev_var rfl)) ⟨l, rfl, hl, hc, .inr ⟨k, p, hr, rfl, rfl⟩⟩ (fun s hs => hs.elim) fun cls fs hT => ?_
    obtain ⟨rfl, rfl⟩ := hT
    refine ⟨T.ex, fun a d => ?_⟩
    refine ex_seq (ex_set (ev_isY5 rfl T.k5) ?_)
    refine ex_seq (ex_ifp (b := false) (et_is (et_or (et_not (et_B (ev_isY1 rfl (fun u h => h) T.k1))) fun _ => et_or (et_not (et_B (ev_isY1 rfl (fun u h => h) T.kV))) fun _ => et_B (ev_var rfl)) rfl) (fun z => nomatch z) fun _ => ex_next ?_)
    exact ex_ret (ef_d (ev_tup (ea_cons ev_str (ea_two (ev_xf rfl rfl ((lk_past (by decide +kernel)).trans lk_here)) (ev_xf rfl rfl lk_here)))) rfl)
theorem due_alk {n : Nat} (l : List Nat) : alk (n + 4) (dueOf (readOut l)) := by
  have two : ∀ a b : List Deed, a.length ≤ 1000000 → b.length ≤ 1000000 → alk (n + 4) (dueOf (.inl (a, b))) := fun a b ha hb => .tuple (show 2 ≤ 1000000 by decide) fun x hx => by
    rcases List.mem_cons.mp hx with e | hx
    · rw [e]; exact encP_alk ha
    · rw [List.mem_singleton.mp hx]; exact encP_alk hb
  have bad : ∀ k p : Nat, alk (n + 4) (dueOf (.inr (k, p))) := fun k p => .tuple (show 3 ≤ 1000000 by decide) fun x hx => by
    simp only [List.mem_cons, List.not_mem_nil, or_false] at hx
    rcases hx with e | e | e <;> subst e
    · exact .str (by decide +kernel)
    · exact .int
    · exact .int
  unfold readOut
  split
  · exact bad _ _
  split
  · exact bad _ _
  split
  · exact bad _ _
  split
  · rename_i h1 h2 h3 h4
    have none_of' : ∀ {o : Option Nat}, ¬ o.isSome = true → o = none := fun {o} h => by
      cases o with
      | none => rfl
      | some x => exact absurd rfl h
    have g0 := (all_good (none_of' h1)).1
    have g1 := (all_good (none_of' h3)).1
    have d0 := deeds_len (wordsC ((splitC 10 l).getD 0 []))
    have d1 := deeds_len (wordsC ((splitC 10 l).getD 1 []))
    exact two _ _ (by omega) (by omega)
  · exact bad _ _
end DL
set_option Elab.async false
set_option linter.all false
set_option maxRecDepth 100000
set_option maxHeartbeats 4000000
/-! HL: plain: how long a changed text is. -/
namespace DL
open PySem PySem.Spec PyProof.Rows L2

/-- what a list of pieces weighs: its signs and one more for each piece -/
def wgt (ps : List (List Nat)) : Nat := (ps.map fun p => p.length + 1).sum
theorem wgt_app (a b : List (List Nat)) : wgt (a ++ b) = wgt a + wgt b := by unfold wgt; rw [List.map_append, List.sum_append]
theorem wgt_cons (p : List Nat) (ps : List (List Nat)) : wgt (p :: ps) = p.length + 1 + wgt ps := by unfold wgt; rw [List.map_cons, List.sum_cons]
theorem wgt_take (ps : List (List Nat)) (k : Nat) : wgt (ps.take k) + wgt (ps.drop k) = wgt ps := by rw [← wgt_app, List.take_append_drop]
theorem wgt_mid {ps : List (List Nat)} {k : Nat} (h : k < ps.length) : wgt (ps.take k) + (ps[k].length + 1) + wgt (ps.drop (k + 1)) = wgt ps := by
  have e : ps = ps.take k ++ ps[k] :: ps.drop (k + 1) := by rw [← List.drop_eq_getElem_cons h, List.take_append_drop]
  conv => rhs; rw [e]
  rw [wgt_app, wgt_cons]; omega
theorem wgt_rep (p : List Nat) : ∀ n : Nat, wgt (List.replicate n p) = n * (p.length + 1)
  | 0 => by rw [Nat.zero_mul]; rfl
  | n + 1 => by rw [List.replicate_succ, wgt_cons, wgt_rep p n, Nat.succ_mul]; omega
theorem wgt_split (c : Nat) (l : List Nat) : wgt (splitC c l) = l.length + 1 := by
  have h := splitC_sum c l
  have e : ∀ ps : List (List Nat), wgt ps = (ps.map (·.length)).sum + ps.length := fun ps => by
    induction ps with
    | nil => rfl
    | cons p ps ih => rw [wgt_cons, ih, List.map_cons, List.sum_cons, List.length_cons]; omega
  rw [e]; exact h
theorem joinC_wgt (c : Nat) : ∀ ps : List (List Nat), (joinC c ps).length ≤ wgt ps ∧ (ps ≠ [] → (joinC c ps).length + 1 = wgt ps)
  | [] => ⟨Nat.zero_le _, fun h => absurd rfl h⟩
  | p :: ps => by
    have ih := joinC_wgt c ps
    rw [joinC_cons, wgt_cons, List.length_append]
    by_cases h : ps = []
    · subst h
      rw [if_pos rfl]
      exact ⟨by show p.length + 0 ≤ _; omega, fun _ => rfl⟩
    · rw [if_neg h, List.length_cons]
      have := ih.2 h
      exact ⟨by omega, fun _ => by omega⟩
theorem joinC_le {c : Nat} {ps : List (List Nat)} {n : Nat} (h : wgt ps ≤ n + 1) : (joinC c ps).length ≤ n := by
  by_cases e : ps = []
  · subst e; exact Nat.zero_le _
  · have := (joinC_wgt c ps).2 e; omega
theorem joinC_memL {c : Nat} : ∀ {ps : List (List Nat)} {y : Nat}, y ∈ joinC c ps → y = c ∨ ∃ p ∈ ps, y ∈ p
  | [], y, h => absurd h List.not_mem_nil
  | p :: ps, y, h => by
    rw [joinC_cons] at h
    rcases List.mem_append.mp h with h | h
    · exact .inr ⟨p, List.mem_cons_self, h⟩
    · split at h
      · exact absurd h List.not_mem_nil
      · rcases List.mem_cons.mp h with h | h
        · exact .inl h
        · rcases joinC_memL h with h | ⟨q, hq, h⟩
          · exact .inl h
          · exact .inr ⟨q, List.mem_cons_of_mem _ hq, h⟩
/-- the longest word of a text -/
def WordB (W : Nat) (l : List Nat) : Prop := ∀ r ∈ splitC 10 l, ∀ w ∈ splitC 32 r, w.length ≤ W
theorem wordB_all (l : List Nat) : WordB l.length l := fun r hr w hw => Nat.le_trans (splitC_len hw) (splitC_len hr)
def codesOk (l : List Nat) : Prop := ∀ c ∈ l, c < 0x110000
theorem codes_rows {l r : List Nat} {c : Nat} (h : codesOk l) (hr : r ∈ splitC c l) : codesOk r := fun y hy => h y (splitC_mem c l r hr y hy)
theorem codes_join {c : Nat} {ps : List (List Nat)} (hc : c < 0x110000) (h : ∀ p ∈ ps, codesOk p) : codesOk (joinC c ps) := fun y hy => by
  rcases joinC_memL hy with e | ⟨p, hp, hy⟩
  · rw [e]; exact hc
  · exact h p hp y hy
/-- a row changed: its j-th word is replaced by the words X -/
theorem row_changed {r : List Nat} {j : Nat} {X : List (List Nat)} {m : Nat} (hj : j < (splitC 32 r).length) (hX : wgt X ≤ m) : (joinC 32 ((splitC 32 r).take j ++ X ++ (splitC 32 r).drop (j + 1))).length ≤ r.length + m := by
  have h1 := wgt_mid hj
  rw [wgt_split] at h1
  refine joinC_le ?_
  rw [wgt_app, wgt_app]; omega
/-- a text with its k-th row replaced -/
theorem text_changed {l r' : List Nat} {k : Nat} {m : Nat} (hk : k < (splitC 10 l).length) (hr : r'.length ≤ (splitC 10 l)[k].length + m) : (joinC 10 ((splitC 10 l).take k ++ [r'] ++ (splitC 10 l).drop (k + 1))).length ≤ l.length + m := by
  have h1 := wgt_mid hk
  rw [wgt_split] at h1
  refine joinC_le ?_
  rw [wgt_app, wgt_app]
  have : wgt [r'] = r'.length + 1 := by unfold wgt; simp
  omega
theorem rows_less {l : List Nat} {k : Nat} (hk : k < (splitC 10 l).length) : (joinC 10 ((splitC 10 l).take k ++ (splitC 10 l).drop (k + 1))).length ≤ l.length := by
  have h1 := wgt_mid hk
  rw [wgt_split] at h1
  refine joinC_le ?_
  rw [wgt_app]; omega
theorem rows_twice {l : List Nat} {k : Nat} (hk : k < (splitC 10 l).length) : (joinC 10 ((splitC 10 l).take k ++ [(splitC 10 l)[k]] ++ (splitC 10 l).drop k)).length ≤ 2 * l.length + 1 := by
  have h1 := wgt_mid hk
  have h2 := wgt_take (splitC 10 l) k
  rw [wgt_split] at h1 h2
  refine joinC_le ?_
  rw [wgt_app, wgt_app]
  have : wgt [(splitC 10 l)[k]] = (splitC 10 l)[k].length + 1 := by unfold wgt; simp
  omega
theorem rows_turned {l : List Nat} {k : Nat} : (joinC 10 ((splitC 10 l).drop k ++ (splitC 10 l).take k)).length ≤ l.length := by
  have h2 := wgt_take (splitC 10 l) k
  rw [wgt_split] at h2
  refine joinC_le ?_
  rw [wgt_app]; omega
def chB (N W : Nat) : Nat := max (2 * N + 1) (N + 40 * (W + 1))
/-- texts of two programs: their words are short -/
theorem wordC_short (d : Deed) : (wordC d).length ≤ 3 := wordC_len d
theorem cut_preS (l : List Nat) (k : Nat) : cutS (mkS l) none (some (k : Nat)) = mkS (l.take k) := by
  unfold cutS
  rw [HT.sIx_none, HT.sIx_nat, List.drop_zero, Nat.sub_zero, mkS_cps, mkS_len]
  by_cases h : k ≤ l.length
  · rw [Nat.min_eq_left h]
  · rw [Nat.min_eq_right (by omega), List.take_of_length_le (Nat.le_refl _), List.take_of_length_le (by omega)]
theorem cut_sufS (l : List Nat) (k : Nat) : cutS (mkS l) (some (k : Nat)) none = mkS (l.drop k) := by
  unfold cutS
  rw [HT.sIx_none, HT.sIx_nat, mkS_cps, mkS_len]
  by_cases h : k ≤ l.length
  · rw [Nat.min_eq_left h, List.take_of_length_le (by rw [List.length_drop]; exact Nat.le_refl _)]
  · rw [Nat.min_eq_right (by omega), List.drop_of_length_le (Nat.le_refl _), List.drop_of_length_le (by omega), List.take_nil]
end DL
set_option Elab.async false
set_option linter.all false
set_option maxRecDepth 100000
set_option maxHeartbeats 4000000
/-! HM: _law_changed, read. -/
namespace DL
open PySem PySem.Spec PyProof.Rows L2

theorem encW_take (ps : List (List Nat)) (k : Nat) : (encW ps).take k = encW (ps.take k) := by unfold encW; rw [List.map_take]
theorem encW_drop (ps : List (List Nat)) (k : Nat) : (encW ps).drop k = encW (ps.drop k) := by unfold encW; rw [List.map_drop]
theorem encW_app (a b : List (List Nat)) : encW a ++ encW b = encW (a ++ b) := by unfold encW; rw [List.map_append]
theorem encW_rep (p : List Nat) : ∀ n : Nat, (List.replicate n [(.str (mkS p) : D)]).flatten = encW (List.replicate n p)
  | 0 => rfl
  | n + 1 => by rw [List.replicate_succ, List.flatten_cons, encW_rep p n, List.replicate_succ]; rfl
theorem ev_joinC {C : Cc} {ρ : List Sl} {te : TE} {ps : List (List Nat)} {s : Str} {c : Nat} (hs : s = mkS [c]) (h : PD C te ρ (.list (encW ps))) (hw : wgt ps ≤ 1000000) : PD C (tBM C.K "str" (r_join C.K) (tC (.str s)) (tCons te tNil)) ρ (.str (mkS (joinC c ps))) := by
  subst hs
  have hb : ((ps.map mkS).map (·.length)).sum + (ps.map mkS).length * (mkS [c]).length = wgt ps := by
    have e1 : (mkS [c]).length = 1 := mkS_len [c]
    rw [e1, Nat.mul_one]
    clear hw h
    induction ps with
    | nil => rfl
    | cons p ps ih =>
      rw [wgt_cons, ← ih, List.map_cons, List.map_cons, List.sum_cons, List.length_cons]
      have : (mkS p).length = p.length := mkS_len p
      omega
  refine ev_is (ev_bmS ev_str (ea_one (x := .list ((ps.map mkS).map PyData.str)) (ev_is h (by rw [encW_str]))) (om_join (by rw [hb]; omega))) ?_
  rw [join_mk]
theorem wgt_item {ps : List (List Nat)} {p : List Nat} (h : p ∈ ps) : p.length + 1 ≤ wgt ps := sum_mem (List.mem_map_of_mem (f := fun q : List Nat => q.length + 1) h)
theorem len_wgt (ps : List (List Nat)) : ps.length ≤ wgt ps := by
  induction ps with
  | nil => exact Nat.zero_le _
  | cons p ps ih => rw [wgt_cons, List.length_cons]; omega
section
variable {C : Cc} {ρ : List Sl} {te tk : TE} {ps : List (List Nat)} {k : Nat}
theorem ev_wpre (h : PD C te ρ (.list (encW ps))) (hk : PD C tk ρ (.int (k : Nat))) : PD C (tSl (rSlX C.K) te tNoPart (tPart tk)) ρ (.list (encW (ps.take k))) := ev_sl h eo_no (eo_part hk) (os_list (by rw [cut_pre, encW_take]; exact .dat))
theorem ev_wsuf (h : PD C te ρ (.list (encW ps))) (hk : PD C tk ρ (.int (k : Nat))) : PD C (tSl (rSlX C.K) te (tPart tk) tNoPart) ρ (.list (encW (ps.drop k))) := ev_sl h (eo_part hk) eo_no (os_list (by rw [cut_suf, encW_drop]; exact .dat))
theorem ev_wcat {ta tb : TE} {a b : List (List Nat)} (ha : PD C ta ρ (.list (encW a))) (hb : PD C tb ρ (.list (encW b))) (hl : a.length + b.length ≤ 10000000) : PD C (tOp (rAddA C.K) ta tb) ρ (.list (encW (a ++ b))) := ev_op ha hb (o2_addL (by rw [encW_len, encW_len]; exact hl) (by rw [encW_app]; exact .dat))
theorem ev_wsucc {t : TE} {j : Nat} (h : PD C t ρ (.int (j : Nat))) : PD C (tOp (rAddA C.K) t (tC (.int 1))) ρ (.int (j + 1 : Nat)) := ev_is (ev_op h ev_int o2_addI) (by congr 1)
end
def signsC : List Nat := [48, 49, 50, 51, 32, 45, 114, 119, 10, 52, 120, 82]
theorem lit_signs : ("0123 -rw\n4xR" : Str) = mkS signsC := by decide +kernel
def oddsC : List (List Nat) := [[], [45], [114, 48], [114, 51], [114, 52], [119, 48, 50], [119, 48, 51], [119, 52, 48], [119, 48], [114, 48, 48], [45, 45], [82, 48], [119, 48, 49, 50]]
theorem lit_odds : ([.str "", .str "-", .str "r0", .str "r3", .str "r4", .str "w02", .str "w03", .str "w40", .str "w0", .str "r00", .str "--", .str "R0", .str "w012"] : List D) = encW oddsC := by
  have e : (["", "-", "r0", "r3", "r4", "w02", "w03", "w40", "w0", "r00", "--", "R0", "w012"] : List Str) = oddsC.map mkS := by decide +kernel
  have := congrArg (List.map PyData.str) e
  rw [encW_str] at this
  exact this
theorem odds_ok : ∀ o ∈ oddsC, o.length ≤ 4 ∧ ∀ c ∈ o, c < 0x110000 := by decide
def t_law_changed (K : PySem.W.Frag) (A : Ad) : TS :=
  (tSeq (tAsg (tUser (sp_law_next K A) (tCons (tVar 0) (tCons (tC (.int 9)) tNil))) (gName 2))
    (tSeq (tAsg (tUser (sp_law_next K A) (tCons (tVar 0) (tCons (tOp (rAddA K) (tCB (rLenA K) (tCons (tVar 1) tNil)) (tC (.int 1))) tNil))) (gName 3))
    (tSeq (tAsg (tOp (rIx K) (tC (.str "0123 -rw\n4xR")) (tUser (sp_law_next K A) (tCons (tVar 0) (tCons (tC (.int 12)) tNil)))) (gName 4))
    (tSeq (tIfS (tTest (tOp rLtA (tVar 2) (tC (.int 3)))) (tRet (tOp (rAddA K) (tOp (rAddA K) (tSl (rSlX K) (tVar 1) tNoPart (tPart (tVar 3))) (tOp (rIx K) (tLst (tCons (tVar 4) (tCons (tC (.str "")) (tCons (tVar 4) tNil)))) (tVar 2))) (tSl (rSlX K) (tVar 1) (tPart (tOp (rAddA K) (tVar 3) (tCB (rIntA) (tCons (tOp rGtA (tVar 2) (tC (.int 0))) tNil)))) tNoPart))) tNext)
    (tSeq (tAsg (tBM K "str" r_split (tVar 1) (tCons (tC (.str "\n")) tNil)) (gName 5))
    (tSeq (tAsg (tUser (sp_law_next K A) (tCons (tVar 0) (tCons (tCB (rLenA K) (tCons (tVar 5) tNil)) tNil))) (gName 6))
    (tSeq (tIfS (tTest (tOp rLtA (tVar 2) (tC (.int 6)))) (tSeq (tAsg (tLst (tCons (tOp (rAddA K) (tSl (rSlX K) (tVar 5) tNoPart (tPart (tVar 6))) (tSl (rSlX K) (tVar 5) (tPart (tOp (rAddA K) (tVar 6) (tC (.int 1)))) tNoPart)) (tCons (tOp (rAddA K) (tOp (rAddA K) (tSl (rSlX K) (tVar 5) tNoPart (tPart (tVar 6))) (tSl (rSlX K) (tVar 5) (tPart (tVar 6)) (tPart (tOp (rAddA K) (tVar 6) (tC (.int 1)))))) (tSl (rSlX K) (tVar 5) (tPart (tVar 6)) tNoPart)) (tCons (tOp (rAddA K) (tSl (rSlX K) (tVar 5) (tPart (tVar 6)) tNoPart) (tSl (rSlX K) (tVar 5) tNoPart (tPart (tVar 6)))) tNil)))) (gName 7))
    (tRet (tBM K "str" (r_join K) (tC (.str "\n")) (tCons (tOp (rIx K) (tVar 7) (tOp rSubA (tVar 2) (tC (.int 3)))) tNil)))) tNext)
    (tSeq (tAsg (tBM K "str" r_split (tOp (rIx K) (tVar 5) (tVar 6)) (tCons (tC (.str " ")) tNil)) (gName 8))
    (tSeq (tAsg (tUser (sp_law_next K A) (tCons (tVar 0) (tCons (tCB (rLenA K) (tCons (tVar 8) tNil)) tNil))) (gName 9))
    (tSeq (tAsg (tOp (rIx K) (tLst (tCons (tC (.str "")) (tCons (tC (.str "-")) (tCons (tC (.str "r0")) (tCons (tC (.str "r3")) (tCons (tC (.str "r4")) (tCons (tC (.str "w02")) (tCons (tC (.str "w03")) (tCons (tC (.str "w40")) (tCons (tC (.str "w0")) (tCons (tC (.str "r00")) (tCons (tC (.str "--")) (tCons (tC (.str "R0")) (tCons (tC (.str "w012")) tNil)))))))))))))) (tUser (sp_law_next K A) (tCons (tVar 0) (tCons (tC (.int 13)) tNil)))) (gName 10))
    (tSeq (tAsg (tOp (rAddA K) (tOp (rAddA K) (tSl (rSlX K) (tVar 8) tNoPart (tPart (tVar 9))) (tOp (rIx K) (tLst (tCons (tLst tNil) (tCons (tOp rMulA (tLst (tCons (tOp (rIx K) (tVar 8) (tVar 9)) tNil)) (tOp (rIx K) (tLst (tCons (tC (.int 2)) (tCons (tC (.int 41)) tNil))) (tUser (sp_law_next K A) (tCons (tVar 0) (tCons (tC (.int 2)) tNil))))) (tCons (tLst (tCons (tVar 10) tNil)) tNil)))) (tOp rSubA (tVar 2) (tC (.int 6))))) (tSl (rSlX K) (tVar 8) (tPart (tOp (rAddA K) (tVar 9) (tC (.int 1)))) tNoPart)) (gName 8))
    (tRet (tBM K "str" (r_join K) (tC (.str "\n")) (tCons (tOp (rAddA K) (tOp (rAddA K) (tSl (rSlX K) (tVar 5) tNoPart (tPart (tVar 6))) (tLst (tCons (tBM K "str" (r_join K) (tC (.str " ")) (tCons (tVar 8) tNil)) tNil))) (tSl (rSlX K) (tVar 5) (tPart (tOp (rAddA K) (tVar 6) (tC (.int 1)))) tNoPart)) tNil))))))))))))))
def chPost (l l' : List Nat) : Prop := codesOk l' ∧ ∀ W, WordB W l → l'.length ≤ chB l.length W
def sp_law_changed (K : PySem.W.Frag) (A : Ad) : Sp := drawSp K (fun ds => ∃ l : List Nat, ds = [.str (mkS l)] ∧ l.length ≤ 20000 ∧ codesOk l) (fun ds x => ∃ l l' : List Nat, ds = [.str (mkS l)] ∧ chPost l l' ∧ x = .str (mkS l'))
theorem ef_changed {C : Cc} {ρ : List Sl} {A : Ad} {te : TE} {i : Nat} {l : List Nat} {h : Addr} {P : Sl → List Sl → Prop} (hi : ρ[i]? = some (rnd h)) (he : PD C te ρ (.str (mkS l))) (h1 : l.length ≤ 20000) (h2 : codesOk l) (p : ∀ l', chPost l l' → P (.d (.str (mkS l'))) ρ) :
    Ev C (tUser (sp_law_changed C.K A) (tCons (tVar i) (tCons te tNil))) ρ P :=
  ef_draw hi (fa_p (ea_one he) ⟨hi, ⟨l, rfl, h1, h2⟩, fun d ⟨l2, l', e, hp, ed⟩ => by
    have e1 : mkS l = mkS l2 := PyData.str.inj (List.cons.inj e).1
    have e2 := mkS_inj e1
    subst e2; subst ed
    exact p l' hp⟩)
theorem rd_law_changed {C : Cc} {A : Ad} {h : Addr} {l : List Nat} (hl : l.length ≤ 20000) (hc : codesOk l) : Ex C (t_law_changed C.K A) [rnd h, .d (.str (mkS l)), .no, .no, .no, .no, .no, .no, .no, .no, .no]
    { nx := fun _ => False, rt := fun s ρ' => ∃ x, ∃ _ : Unit, s = .d x ∧ (∃ l2 l' : List Nat, [(.str (mkS l) : D)] = [.str (mkS l2)] ∧ chPost l2 l' ∧ x = .str (mkS l')) ∧ ρ'[0]? = some (rnd h) } := by
  refine ex_seq (ex_asg (ef_next (n := 9) rfl ev_int (by decide) (by decide) fun t ht => ?_))
  refine ex_seq (ex_asg (ef_next (n := l.length + 1) rfl (ev_wsucc (ev_is (ev_call (ea_one (ev_var rfl)) (on_lenS (by rw [mkS_len]; omega))) (by rw [mkS_len]))) (by omega) (by omega) fun a ha => ?_))
  refine ex_seq (ex_asg (ef_op (ef_d (ev_is ev_str (congrArg PyData.str lit_signs)) ⟨_, rfl, ef_next (n := 12) rfl ev_int (by decide) (by decide) fun m hm => ⟨_, .d (.str (one (signsC.getD m 0))), rfl, o2_ixS (by rw [mkS_len]; decide) (by rw [mkS_cps]; exact atI_nat (by rw [List.getD_eq_getElem?_getD, List.getElem?_eq_getElem (show m < signsC.length from hm)]; rfl)), ?_⟩⟩)))
  have hsc : signsC.getD m 0 < 0x110000 := by
    have : ∀ m, m < 12 → signsC.getD m 0 < 0x110000 := by decide
    exact this m hm
  generalize signsC.getD m 0 = c at hsc
  have hge : ∀ W, 2 * l.length + 1 ≤ chB l.length W := fun W => Nat.le_max_left _ _
  have hge2 : ∀ W, l.length + 40 * (W + 1) ≤ chB l.length W := fun W => Nat.le_max_right _ _
  refine ex_seq (ex_ifp (b := decide (t < 3)) (et_test (ev_is (ev_op (ev_var rfl) ev_int o2_ltI) (by congr 1; rw [decide_eq_decide]; omega))) (fun h3 => ?_) fun h3 => ex_next ?_)
  · have h3 := of_decide_eq_true h3
    have mid : ∀ {ρ : List Sl}, ρ[4]? = some (.d (.str (one c))) → ρ[2]? = some (.d (.int (t : Nat))) → PD C (tOp (rIx C.K) (tLst (tCons (tVar 4) (tCons (tC (.str "")) (tCons (tVar 4) tNil)))) (tVar 2)) ρ (.str (mkS (if t = 1 then [] else [c]))) := fun {ρ} h4 h2 => by
      refine ev_op (ev_lst (ea_cons (ev_var h4) (ea_two (ev_is ev_str (congrArg PyData.str lit_e)) (ev_var h4)))) (ev_var h2) (o2_ixL ?_)
      have : t = 0 ∨ t = 1 ∨ t = 2 := by omega
      rcases this with e | e | e <;> subst e
      · exact atI_nat (j := 0) rfl
      · exact atI_nat (j := 1) rfl
      · exact atI_nat (j := 2) rfl
    have hx : (if t = 1 then ([] : List Nat) else [c]).length ≤ 1 ∧ codesOk (if t = 1 then ([] : List Nat) else [c]) := by
      split
      · exact ⟨Nat.zero_le _, fun y hy => absurd hy List.not_mem_nil⟩
      · exact ⟨Nat.le_refl _, fun y hy => by rw [List.mem_singleton.mp hy]; exact hsc⟩
    generalize (if t = 1 then ([] : List Nat) else [c]) = X at mid hx
    have off : ∀ {ρ : List Sl}, ρ[3]? = some (.d (.int (a : Nat))) → ρ[2]? = some (.d (.int (t : Nat))) → PD C (tOp (rAddA C.K) (tVar 3) (tCB rIntA (tCons (tOp rGtA (tVar 2) (tC (.int 0))) tNil))) ρ (.int (a + (if 0 < t then 1 else 0) : Nat)) := fun {ρ} h3 h2 => by
      refine ev_is (ev_op (ev_var h3) (ev_call (ea_one (ev_is (ev_op (ev_var h2) (ev_int (i := ((0 : Nat) : Int))) o2_gtI) (y := .bool (decide (0 < t))) (by congr 1; rw [decide_eq_decide]; omega))) on_intB) o2_addI) ?_
      congr 1
      by_cases h : 0 < t
      · rw [if_pos h, decide_eq_true h]; rfl
      · rw [if_neg h, decide_eq_false h]; rfl
    have lt : (l.take a).length + (l.drop (a + (if 0 < t then 1 else 0))).length ≤ l.length := by rw [List.length_take, List.length_drop]; split <;> omega
    refine ex_ret (ef_d (x := .str (mkS (l.take a ++ X ++ l.drop (a + (if 0 < t then 1 else 0))))) (ev_is (ev_op (x := .str (mkS (l.take a ++ X))) (ev_is (ev_op (ev_is (ev_sl (ev_var rfl) eo_no (eo_part (ev_var rfl)) (os_str (by rw [mkS_len]; omega))) (by rw [cut_preS])) (mid rfl rfl) (o2_addS (by rw [mkS_len, mkS_len]; omega))) (by rw [mkS_app])) (ev_is (ev_sl (ev_var rfl) (eo_part (off rfl rfl)) eo_no (os_str (by rw [mkS_len]; omega))) (by rw [cut_sufS])) (o2_addS (by rw [mkS_len, mkS_len, List.length_append]; omega))) (by rw [mkS_app])) ⟨_, (), rfl, ⟨l, _, rfl, ⟨fun y hy => ?_, fun W _ => Nat.le_trans ?_ (hge W)⟩, rfl⟩, rfl⟩)
    · rcases List.mem_append.mp hy with hy | hy
      · rcases List.mem_append.mp hy with hy | hy
        · exact hc y (List.mem_of_mem_take hy)
        · exact hx.2 y hy
      · exact hc y (List.mem_of_mem_drop hy)
    · rw [List.length_append, List.length_append]; omega
  have h3 := of_decide_eq_false h3
  have hrw := wgt_split 10 l
  have hrl := len_wgt (splitC 10 l)
  refine ex_seq (ex_set (ev_rows (ev_var rfl) (by omega)) ?_)
  refine ex_seq (ex_asg (ef_next (n := (splitC 10 l).length) rfl (ev_is (ev_call (ea_one (ev_var rfl)) on_lenL) (by rw [encW_len])) (rows_pos l) (by omega) fun k hk => ?_))
  have rowsOk : ∀ p ∈ splitC 10 l, codesOk p := fun p hp => codes_rows hc hp
  refine ex_seq (ex_ifp (b := decide (t < 6)) (et_test (ev_is (ev_op (ev_var rfl) ev_int o2_ltI) (by congr 1; rw [decide_eq_decide]; omega))) (fun h6 => ?_) fun h6 => ex_next ?_)
  · have h6 := of_decide_eq_true h6
    have w1 := wgt_mid hk
    have w2 := wgt_take (splitC 10 l) k
    have hmid : ((splitC 10 l).drop k).take 1 = [(splitC 10 l)[k]] := by rw [List.drop_eq_getElem_cons hk]; rfl
    have lt1 := len_wgt ((splitC 10 l).take k)
    have lt2 := len_wgt ((splitC 10 l).drop (k + 1))
    have lt3 := len_wgt ((splitC 10 l).drop k)
    have ks : PD C (tOp (rAddA C.K) (tVar 6) (tC (.int 1))) [rnd h, .d (.str (mkS l)), .d (.int (t : Nat)), .d (.int (a : Nat)), .d (.str (one c)), .d (.list (encW (splitC 10 l))), .d (.int (k : Nat)), .no, .no, .no, .no] (.int (k + 1 : Nat)) := ev_wsucc (ev_var rfl)
    have m1 : PD C (tSl (rSlX C.K) (tVar 5) (tPart (tVar 6)) (tPart (tOp (rAddA C.K) (tVar 6) (tC (.int 1))))) [rnd h, .d (.str (mkS l)), .d (.int (t : Nat)), .d (.int (a : Nat)), .d (.str (one c)), .d (.list (encW (splitC 10 l))), .d (.int (k : Nat)), .no, .no, .no, .no] (.list (encW [(splitC 10 l)[k]])) := ev_sl (ev_var rfl) (eo_part (ev_var rfl)) (eo_part ks) (os_list (by rw [cut_mid, show k + 1 - k = 1 by omega, encW_drop, encW_take, hmid]; exact .dat))
    refine ex_seq (ex_set (s := .d (.list [.list (encW ((splitC 10 l).take k ++ (splitC 10 l).drop (k + 1))), .list (encW ((splitC 10 l).take k ++ [(splitC 10 l)[k]] ++ (splitC 10 l).drop k)), .list (encW ((splitC 10 l).drop k ++ (splitC 10 l).take k))])) (ev_lst (ea_cons (ev_wcat (ev_wpre (ev_var rfl) (ev_var rfl)) (ev_wsuf (ev_var rfl) ks) (by omega)) (ea_two (ev_wcat (ev_wcat (ev_wpre (ev_var rfl) (ev_var rfl)) m1 (by show _ + 1 ≤ _; omega)) (ev_wsuf (ev_var rfl) (ev_var rfl)) (by rw [List.length_append]; show _ + 1 + _ ≤ _; omega)) (ev_wcat (ev_wsuf (ev_var rfl) (ev_var rfl)) (ev_wpre (ev_var rfl) (ev_var rfl)) (by omega))))) ?_)
    have pick : ∃ R : List (List Nat), (∀ {ρ : List Sl}, ρ[7]? = some (.d (.list [.list (encW ((splitC 10 l).take k ++ (splitC 10 l).drop (k + 1))), .list (encW ((splitC 10 l).take k ++ [(splitC 10 l)[k]] ++ (splitC 10 l).drop k)), .list (encW ((splitC 10 l).drop k ++ (splitC 10 l).take k))])) → ρ[2]? = some (.d (.int (t : Nat))) → PD C (tOp (rIx C.K) (tVar 7) (tOp rSubA (tVar 2) (tC (.int 3)))) ρ (.list (encW R))) ∧ (∀ p ∈ R, codesOk p) ∧ (joinC 10 R).length ≤ 2 * l.length + 1 ∧ wgt R ≤ 1000000 := by
      have sub : ∀ {ρ : List Sl} {v : Nat}, t = v + 3 → ρ[2]? = some (.d (.int (t : Nat))) → PD C (tOp rSubA (tVar 2) (tC (.int 3))) ρ (.int (v : Nat)) := fun {ρ v} e h => ev_is (ev_op (ev_var h) ev_int o2_subI) (by congr 1; omega)
      have : t = 3 ∨ t = 4 ∨ t = 5 := by omega
      rcases this with e | e | e
      · refine ⟨_, fun h7 h2 => ev_op (ev_var h7) (sub (v := 0) e h2) (o2_ixL (atI_nat (j := 0) rfl)), fun p hp => ?_, Nat.le_trans (rows_less hk) (by omega), by rw [wgt_app]; omega⟩
        rcases List.mem_append.mp hp with z | z
        · exact rowsOk p (List.mem_of_mem_take z)
        · exact rowsOk p (List.mem_of_mem_drop z)
      · refine ⟨_, fun h7 h2 => ev_op (ev_var h7) (sub (v := 1) e h2) (o2_ixL (atI_nat (j := 1) rfl)), fun p hp => ?_, rows_twice hk, by
          rw [wgt_app, wgt_app]
          have : wgt [(splitC 10 l)[k]] = (splitC 10 l)[k].length + 1 := by unfold wgt; simp
          omega⟩
        rcases List.mem_append.mp hp with z | z
        · rcases List.mem_append.mp z with z | z
          · exact rowsOk p (List.mem_of_mem_take z)
          · rw [List.mem_singleton.mp z]; exact rowsOk _ (List.getElem_mem hk)
        · exact rowsOk p (List.mem_of_mem_drop z)
      · refine ⟨_, fun h7 h2 => ev_op (ev_var h7) (sub (v := 2) e h2) (o2_ixL (atI_nat (j := 2) rfl)), fun p hp => ?_, Nat.le_trans rows_turned (by omega), by rw [wgt_app]; omega⟩
        rcases List.mem_append.mp hp with z | z
        · exact rowsOk p (List.mem_of_mem_drop z)
        · exact rowsOk p (List.mem_of_mem_take z)
    obtain ⟨R, pR, cR, lR, wR⟩ := pick
    exact ex_ret (ef_d (ev_joinC lit_nl (pR rfl rfl) wR) ⟨_, (), rfl, ⟨l, _, rfl, ⟨codes_join (by decide) cR, fun W _ => Nat.le_trans lR (hge W)⟩, rfl⟩, rfl⟩)
  have h6 := of_decide_eq_false h6
  have hr := rowsOk _ (List.getElem_mem hk)
  have hrow : (splitC 10 l)[k] ∈ splitC 10 l := List.getElem_mem hk
  have hlen := splitC_len hrow
  refine ex_seq (ex_set (s := .d (.list (encW (splitC 32 (splitC 10 l)[k])))) (ev_bmS (ev_op (ev_var rfl) (ev_var rfl) (o2_ixL (encW_atI hk))) (ea_one ev_str) (om_split (xs := (splitC 32 (splitC 10 l)[k]).map mkS) (by decide +kernel) (by rw [mkS_len]; omega) (by rw [lit_sp]; exact txt_split 32 _) (by rw [encW_str]; exact .dat))) ?_)
  have hww := wgt_split 32 (splitC 10 l)[k]
  have hwl := len_wgt (splitC 32 (splitC 10 l)[k])
  have hwc := fun p hp => codes_rows (c := 32) (r := p) hr hp
  refine ex_seq (ex_asg (ef_next (n := (splitC 32 (splitC 10 l)[k]).length) rfl (ev_is (ev_call (ea_one (ev_var rfl)) on_lenL) (by rw [encW_len])) (List.length_pos_iff.mpr (splitC_ne 32 _)) (by omega) fun j hj => ?_))
  refine ex_seq (ex_asg (ef_op (ef_d (ev_is (ev_lst (ea_cons ev_str (ea_cons ev_str (ea_cons ev_str (ea_cons ev_str (ea_cons ev_str (ea_cons ev_str (ea_cons ev_str (ea_cons ev_str (ea_cons ev_str (ea_cons ev_str (ea_cons ev_str (ea_two ev_str ev_str))))))))))))) (congrArg PyData.list lit_odds)) ⟨_, rfl, ef_next (n := 13) rfl ev_int (by decide) (by decide) fun m hm => ⟨_, .d (.str (mkS (oddsC[m]'hm))), rfl, o2_ixL (encW_atI (ws := oddsC) hm), ?_⟩⟩)))
  obtain ⟨ho1, ho2⟩ := odds_ok (oddsC[m]'hm) (List.getElem_mem hm)
  generalize oddsC[m]'hm = o at ho1 ho2
  have t6 : t = 6 ∨ t = 7 ∨ t = 8 := by omega
  have wlen : ∀ W, WordB W l → ((splitC 32 (splitC 10 l)[k])[j]).length ≤ W := fun W hW => hW _ hrow _ (List.getElem_mem hj)
  have wl2 : ((splitC 32 (splitC 10 l)[k])[j]).length ≤ l.length := wlen _ (wordB_all l)
  have wc := hwc _ (List.getElem_mem hj)
  have join32 := @row_changed (splitC 10 l)[k] j
  have lp1 := len_wgt ((splitC 32 (splitC 10 l)[k]).take j)
  have lp2 := len_wgt ((splitC 32 (splitC 10 l)[k]).drop (j + 1))
  have lm := wgt_mid hj
  have ctake : ∀ p ∈ (splitC 32 (splitC 10 l)[k]).take j, codesOk p := fun p hp => hwc p (List.mem_of_mem_take hp)
  have cdrop : ∀ p ∈ (splitC 32 (splitC 10 l)[k]).drop (j + 1), codesOk p := fun p hp => hwc p (List.mem_of_mem_drop hp)
  have wat := encW_atI hj
  generalize (splitC 32 (splitC 10 l)[k])[j] = wj at wlen wl2 wc wat lm
  generalize splitC 32 (splitC 10 l)[k] = ws at join32 hj lp1 lp2 lm ctake cdrop wat hww hwl
  refine ex_seq (ex_asg (ef_op (ef_op (ef_d (ev_wpre (ev_var rfl) (ev_var rfl)) ⟨_, rfl, ef_op (ef_lst (fa_cons (ef_d (ev_lst ea_nil) ⟨_, rfl, fa_cons (ef_op (ef_d (ev_lst (ea_one (ev_op (ev_var rfl) (ev_var rfl) (o2_ixL wat)))) ⟨_, rfl, ef_op (ef_d (ev_lst (ea_two ev_int ev_int)) ⟨_, rfl, ef_next (n := 2) rfl ev_int (by decide) (by decide) fun q hq => ⟨_, .d (.int ((if q = 0 then 2 else 41 : Nat) : Int)), rfl, ?_, _, .d (.list (encW (List.replicate (if q = 0 then 2 else 41) wj))), rfl, ?_, _, rfl, ?_⟩⟩)⟩))⟩)))⟩))))
  · have : q = 0 ∨ q = 1 := by omega
    rcases this with e | e <;> subst e
    · exact o2_ixL (atI_nat (j := 0) rfl)
    · exact o2_ixL (atI_nat (j := 1) rfl)
  · exact o2_repL (xs := [.str (mkS wj)]) (by show 1 * _ ≤ _; split <;> omega) (by split <;> omega) (by rw [encW_rep]; exact .dat)
  have hn : (if q = 0 then 2 else 41 : Nat) ≤ 41 := by split <;> omega
  generalize (if q = 0 then 2 else 41 : Nat) = n at hn
  refine fa_cons (ef_d (ev_lst (ea_one (ev_var rfl))) ⟨_, rfl, fa_nil ⟨Nat.le_of_ble_eq_true rfl, _, .dat, _, rfl, ?_⟩⟩)
  have hX : ∃ X : List (List Nat), atI [(.list (encW []) : D), .list (encW (List.replicate n wj)), .list (encW [o])] ((t : Int) - 6) = some (.list (encW X)) ∧ (∀ p ∈ X, codesOk p) ∧ X.length ≤ 41 ∧ wgt X ≤ 41 * (l.length + 5) ∧ ∀ W, wj.length ≤ W → wgt X ≤ wj.length + 1 + 40 * (W + 1) := by
    rcases t6 with e | e | e <;> subst e
    · exact ⟨[], atI_nat (j := 0) rfl, fun p hp => absurd hp List.not_mem_nil, Nat.zero_le _, Nat.zero_le _, fun W _ => Nat.zero_le _⟩
    · refine ⟨List.replicate n wj, atI_nat (j := 1) rfl, fun p hp => by rw [(List.mem_replicate.mp hp).2]; exact wc, by rw [List.length_replicate]; exact hn, ?_, fun W hW => ?_⟩
      · rw [wgt_rep]
        exact Nat.mul_le_mul hn (by omega)
      · rw [wgt_rep]
        have h1 : n * (wj.length + 1) ≤ 41 * (wj.length + 1) := Nat.mul_le_mul hn (Nat.le_refl _)
        omega
    · refine ⟨[o], atI_nat (j := 2) rfl, fun p hp => by rw [List.mem_singleton.mp hp]; exact ho2, Nat.le_of_ble_eq_true rfl, ?_, fun W hW => ?_⟩
      · have : wgt [o] = o.length + 1 := by unfold wgt; simp
        omega
      · have : wgt [o] = o.length + 1 := by unfold wgt; simp
        omega
  obtain ⟨X, hXa, hXc, hXl, hXw, hXW⟩ := hX
  refine ef_d (ev_op (ev_var rfl) ev_int o2_subI) ⟨_, .d (.list (encW X)), rfl, o2_ixL hXa, _, .d (.list (encW (ws.take j ++ X))), rfl, o2_addL (by rw [encW_len, encW_len]; omega) (by rw [encW_app]; exact .dat), _, rfl, ?_⟩
  refine ef_d (ev_wsuf (ev_var rfl) (ev_wsucc (ev_var rfl))) ⟨_, .d (.list (encW (ws.take j ++ X ++ ws.drop (j + 1)))), rfl, o2_addL (by rw [encW_len, encW_len, List.length_append]; omega) (by rw [encW_app]; exact .dat), ?_⟩
  have wv : wgt (ws.take j ++ X ++ ws.drop (j + 1)) ≤ 1000000 := by rw [wgt_app, wgt_app]; omega
  have cv : codesOk (joinC 32 (ws.take j ++ X ++ ws.drop (j + 1))) := codes_join (by decide) fun p hp => by
    rcases List.mem_append.mp hp with z | z
    · rcases List.mem_append.mp z with z | z
      · exact ctake p z
      · exact hXc p z
    · exact cdrop p z
  have lv : ∀ W, wj.length ≤ W → (joinC 32 (ws.take j ++ X ++ ws.drop (j + 1))).length ≤ (splitC 10 l)[k].length + 40 * (W + 1) := fun W hW => joinC_le (by rw [wgt_app, wgt_app]; have := hXW W hW; omega)
  have lv2 := lv _ wl2
  have w1 := wgt_mid hk
  have lt1 := len_wgt ((splitC 10 l).take k)
  have lt2 := len_wgt ((splitC 10 l).drop (k + 1))
  have wr : wgt [joinC 32 (ws.take j ++ X ++ ws.drop (j + 1))] = (joinC 32 (ws.take j ++ X ++ ws.drop (j + 1))).length + 1 := by unfold wgt; simp
  refine ex_ret (ef_d (ev_joinC (ps := (splitC 10 l).take k ++ [joinC 32 (ws.take j ++ X ++ ws.drop (j + 1))] ++ (splitC 10 l).drop (k + 1)) lit_nl (ev_wcat (ev_wcat (b := [joinC 32 (ws.take j ++ X ++ ws.drop (j + 1))]) (ev_wpre (ev_var rfl) (ev_var rfl)) (ev_lst (ea_one (ev_joinC lit_sp (ev_var rfl) wv))) (by show _ + 1 ≤ _; omega)) (ev_wsuf (ev_var rfl) (ev_wsucc (ev_var rfl))) (by rw [List.length_append]; show _ + 1 + _ ≤ _; omega)) (by rw [wgt_app, wgt_app, wr]; omega)) ⟨_, (), rfl, ⟨l, _, rfl, ⟨codes_join (by decide) fun p hp => ?_, fun W hW => Nat.le_trans (text_changed hk (lv W (wlen W hW))) (hge2 W)⟩, rfl⟩, rfl⟩)
  rcases List.mem_append.mp hp with z | z
  · rcases List.mem_append.mp z with z | z
    · exact rowsOk p (List.mem_of_mem_take z)
    · rw [List.mem_singleton.mp z]; exact cv
  · exact rowsOk p (List.mem_of_mem_drop z)
end DL
set_option Elab.async false
set_option linter.all false
set_option maxRecDepth 100000
set_option maxHeartbeats 4000000
/-! EH: a list told of what is looked at; a program of drawn length; _law_text. -/
namespace DL
open PySem PySem.Spec PyProof.Rows L2

section
variable {C : Cc} {ρ : List Sl} {te : TE} {tA : TA} {xs ds : List D} {P : Sl → List Sl → Prop}
theorem rpAll_flat {K : PySem.W.Frag} {H H' : Hp} : ∀ {vs : List V} {ds : List D}, (∀ d ∈ ds, flatD d = true) → RpAll K H vs ds → RpAll K H' vs ds
  | _, _, _, .nil => .nil
  | _, _, f, .cons a b => .cons (rp_flat (f _ List.mem_cons_self) a) (rpAll_flat (fun d hd => f d (List.mem_cons_of_mem _ hd)) b)
/-- arguments that are looked at, a new list of flat items -/
theorem vv_lstf {f : List D → List D → Prop} (ha : VEvA C tA ρ xs) (h : f xs ds) (fl : ∀ d ∈ ds, flatD d = true) : PD C (tUser (lstSp C.K f) tA) ρ (.list ds) := fun σ Hb H fp W Q q =>
  ha σ Hb H fp W _ fun vs Hb1 H1 t1 h1 => (on_user (C := C) (rel := fun ds S => ∃ xs s, f ds xs ∧ Lsl C.K xs s ∧ S = fun s' => s' = s) (xs := xs) (s := own C.K ds) ⟨ds, own C.K ds, h, .own, rfl⟩ (fun _ e => e)) H1 H1 vs Q (Same.refl _) h1 fun w Hb' H' fv t ⟨u, eu, a, us, e, ef, ea, hr⟩ hf => by
    cases eu; subst e; subst ef
    obtain ⟨f1, f2, f3⟩ := hf a (List.mem_singleton.mpr rfl)
    have nb : Hb1 a = none := by
      cases e : Hb1 a with
      | none => rfl
      | some o => rw [t1.s a o e] at f3; cases f3
    refine (q.after t1).data (Hb' := upd Hb1 a (.lst us)) (H' := H') ⟨fun x u e => ?_, fun x u e => ?_, t.k, fun x hx => ?_, t.t⟩ (.lst upd_same (rpAll_flat fl hr))
    · rw [upd_ne (ne_of_none e nb)]; exact e
    · by_cases hx : x = a
      · subst hx; rw [upd_same] at e; cases e; exact ea
      · rw [upd_ne hx] at e; exact t.same _ _ (t1.s x u e)
    · rw [upd_ne (fun z => hx (by rw [z]; exact f3))]
theorem ef_programD {A : Ad} {te te2 : TE} {i n M : Nat} {h : Addr} (hi : ρ[i]? = some (rnd h)) (he : PD C te ρ (.int (n : Nat))) (h0 : 0 < n) (h1 : n ≤ 4)
    (h2 : Ev C te2 ρ fun s ρ' => ∃ m : Nat, m ≤ M ∧ s = .d (.int (m : Nat)) ∧ ρ' = ρ) (hm : M ≤ 1000) (p : ∀ l : List Deed, GoodP n l → l.length ≤ M → P (.d (encP l)) ρ) :
    Ev C (tUser (sp_law_program C.K A) (tCons (tVar i) (tCons te (tCons te2 tNil)))) ρ P :=
  ef_draw hi (fa_cons (ef_d he ⟨_, rfl, fa_cons (ef_mono h2 fun s ρ' ⟨m, hmM, es, er⟩ => ⟨_, es, fa_nil (by
    subst er
    exact ⟨hi, ⟨n, m, rfl, h0, h1, Nat.le_trans hmM hm⟩, fun d ⟨n', m', l, e, hl, hl2, ed⟩ => by
      obtain ⟨e1, e⟩ := int_inj e
      obtain ⟨e2, _⟩ := int_inj e
      subst e1; subst e2; subst ed
      exact p l hl (Nat.le_trans hl2 hmM)⟩)⟩)⟩))
end
/-! ### _law_text -/
def t_law_text (K : PySem.W.Frag) (A : Ad) : TS :=
  (tSeq (tAsg (tLst tNil) (gName 2))
    (tSeq (tFor (iTup K (tTup (tCons (tVar 0) (tCons (tVar 1) tNil)))) (gName 3) (tSeq (tAsg (tLst tNil) (gName 4))
    (tSeq (tFor (iList K (tVar 3)) (gName 5) (tDrop (tBM K "list" rAppend (tVar 4) (tCons (tOp (rAddA K) (tDGet (tDisp [((tC (.str "read")), (tC (.str "r"))), ((tC (.str "write")), (tC (.str "w"))), ((tC (.str "rest")), (tC (.str "-")))]) (tOp (rIx K) (tVar 5) (tC (.int 0)))) (tBM K "str" (r_join K) (tC (.str "")) (tCons (tLc (iTup K (tSl (rSlX K) (tVar 5) (tPart (tC (.int 1))) tNoPart)) (gName 6) tYes (tCB rStrA (tCons (tVar 6) tNil)) [6]) tNil))) tNil))))
    (tDrop (tBM K "list" rAppend (tVar 2) (tCons (tBM K "str" (r_join K) (tC (.str " ")) (tCons (tVar 4) tNil)) tNil))))))
    (tRet (tBM K "str" (r_join K) (tC (.str "\n")) (tCons (tVar 2) tNil)))))
def sp_law_text (K : PySem.W.Frag) (A : Ad) : Sp := datSp K fun ds x => ∃ l r : List Deed, ds = [encP l, encP r] ∧ GoodP 4 l ∧ GoodP 4 r ∧ l.length ≤ 40 ∧ r.length ≤ 40 ∧ x = .str (mkS (textC l r))
def heads : List (Str × D) := [("read", .str "r"), ("write", .str "w"), ("rest", .str "-")]
theorem heads_nodup : (heads.map (·.1)).Nodup := by decide +kernel
def headC : Deed → Nat
  | .rest => 45
  | .read _ => 114
  | .write _ _ => 119
def headIx : Deed → Nat
  | .rest => 2
  | .read _ => 0
  | .write _ _ => 1
theorem lit_g1 : ("-" : Str) = mkS [45] := lit_gap
theorem lit_r2 : ("r" : Str) = mkS [114] := by decide +kernel
theorem lit_w2 : ("w" : Str) = mkS [119] := by decide +kernel
theorem heads_get (d : Deed) : heads[headIx d]? = some (d.word, .str (mkS [headC d])) := by
  cases d with
  | rest => show some (("rest" : Str), PyData.str "-") = some (wRest, PyData.str (mkS [45])); rw [lit_g1]
  | read c => show some (("read" : Str), PyData.str "r") = some (wRead, PyData.str (mkS [114])); rw [lit_r2]
  | write c w => show some (("write" : Str), PyData.str "w") = some (wWrite, PyData.str (mkS [119])); rw [lit_w2]
theorem wordC_head (d : Deed) : wordC d = headC d :: (argN d).map fun n => 48 + n := by cases d <;> rfl
theorem argN_len (d : Deed) : (argN d).length ≤ 2 := by cases d <;> simp [argN]
abbrev wordsD (l : List Deed) : List Str := l.map fun d => mkS (wordC d)
theorem rd_law_text {C : Cc} {A : Ad} {l r : List Deed} (hl : GoodP 4 l) (hr : GoodP 4 r) (h1 : l.length ≤ 40) (h2 : r.length ≤ 40) : Ex C (t_law_text C.K A) [.d (encP l), .d (encP r), .no, .no, .no, .no, .no] (retD (.str (mkS (textC l r)))) := by
  refine ex_seq (ex_set (s := own C.K []) (ev_lstO ea_nil) ?_)
  have rowsE : ∀ i, (([l, r].take i).map fun p => (.str (mkS (rowC p)) : D)) = (([l, r].take i).map fun p => mkS (rowC p)).map PyData.str := fun i => by rw [List.map_map]; rfl
  refine ex_seq (ex_for (ei_p (pi_t (ds := [encP l, encP r]) (ev_tup (ea_two (ev_var rfl) (ev_var rfl)))) ⟨fun i ρ => ∃ s3 s4 s5 s6, ρ = [.d (encP l), .d (encP r), own C.K ((([l, r].take i).map fun p => mkS (rowC p)).map PyData.str), s3, s4, s5, s6], ⟨_, _, _, _, rfl⟩, fun i ρ hi ⟨s3, s4, s5, s6, e⟩ => ?_, fun ρ ⟨s3, s4, s5, s6, e⟩ => ?_⟩))
  · subst e
    have hi : i < 2 := hi
    obtain ⟨p, ep, eg, hp, hp1⟩ : ∃ p, itemOf [encP l, encP r] i = encP p ∧ [l, r][i]? = some p ∧ GoodP 4 p ∧ p.length ≤ 40 := by
      have : i = 0 ∨ i = 1 := by omega
      rcases this with e | e <;> subst e
      · exact ⟨l, rfl, rfl, hl, h1⟩
      · exact ⟨r, rfl, rfl, hr, h2⟩
    rw [ep]
    refine eg_name (ex_seq (ex_set (s := own C.K []) (ev_lstO ea_nil) ?_))
    refine ex_seq (ex_for (ei_p (pi_l (ds := encs p) (ev_var rfl)) ⟨fun k ρ => ∃ s5 s6, ρ = [.d (encP l), .d (encP r), own C.K ((([l, r].take i).map fun p => mkS (rowC p)).map PyData.str), .d (encP p), own C.K ((wordsD (p.take k)).map PyData.str), s5, s6], ⟨_, _, rfl⟩, fun k ρ hk ⟨s5, s6, e⟩ => ?_, fun ρ ⟨s5, s6, e⟩ => ?_⟩))
    · subst e
      rw [encs_len] at hk
      rw [encs_at hk, ← deedAt_eq hk]
      have hd := deedAt_good hp k
      have ha := argN_len (deedAt p k)
      refine eg_name (ex_append rfl (ef_op (ef_dget (fps_cons (ef_d ev_str ⟨_, rfl, fps_cons (ef_d ev_str ⟨_, rfl, fps_cons (ef_d ev_str ⟨_, rfl, fps_nil ⟨Nat.le_of_ble_eq_true rfl, heads_nodup, (deedAt p k).word, headIx (deedAt p k), .str (mkS [headC (deedAt p k)]), ev_w0 (ev_var rfl), heads_get _, _, rfl, ef_d (ev_argS hd rfl fun x => ⟨_, rfl, rfl⟩) ⟨_, _, rfl, o2_addS ?_, _, _, rfl, rfl, ?_, ?_⟩⟩⟩)⟩)⟩)))))
      · rw [mkS_len, mkS_len, List.length_map]; show 1 + _ ≤ _; omega
      · rw [List.length_map, List.length_map, List.length_take]; omega
      · refine ⟨.d (deedAt p k).enc, s6, ?_⟩
        rw [mkS_app]
        have : (wordsD (p.take (k + 1))).map PyData.str = (wordsD (p.take k)).map PyData.str ++ [PyData.str (mkS (wordC (deedAt p k)))] := by
          rw [List.take_succ_eq_append_getElem hk, deedAt_eq hk]; unfold wordsD; rw [List.map_append, List.map_append]; rfl
        rw [this, wordC_head]; rfl
    · subst e
      rw [encs_len, List.take_length]
      refine ex_app (lr_own rfl) (ev_is (ev_joinO (ys := wordsD p) ev_str rfl (row_bound (by omega))) (by rw [row_join])) ?_ ⟨.d (encP p), own C.K ((wordsD p).map PyData.str), s5, s6, ?_⟩
      · rw [List.length_map, List.length_map, List.length_take]
        show min i 2 < _
        omega
      · have : (([l, r].take (i + 1)).map fun p => mkS (rowC p)).map PyData.str = (([l, r].take i).map fun p => mkS (rowC p)).map PyData.str ++ [PyData.str (mkS (rowC p))] := by
          have hh : i < [l, r].length := hi
          rw [List.getElem?_eq_getElem hh] at eg
          rw [List.take_succ_eq_append_getElem hh, Option.some.inj eg, List.map_append, List.map_append]; rfl
        rw [this]; rfl
  · subst e
    exact ex_ret (ef_d (ev_is (ev_joinO (ys := [mkS (rowC l), mkS (rowC r)]) ev_str rfl (text_bound (by omega) (by omega))) (by rw [text_join])) rfl)
end DL
set_option Elab.async false
set_option linter.all false
set_option maxRecDepth 100000
set_option maxHeartbeats 4000000
/-! L12r: the law k12, read. -/
namespace DL
open PySem PySem.Spec PyProof.Rows L2

theorem split_uniq {c : Nat} {ps : List (List Nat)} (h0 : ps ≠ []) (hf : ∀ p ∈ ps, c ∉ p) : splitC c (joinC c ps) = ps := by
  have h := (txt_split c (joinC c ps)).symm.trans (split_join h0 hf)
  have inj : ∀ {a b : List (List Nat)}, a.map mkS = b.map mkS → a = b := fun {a} => by
    induction a with
    | nil => intro b h; cases b with
      | nil => rfl
      | cons y b => cases h
    | cons x a ih => intro b h; cases b with
      | nil => cases h
      | cons y b =>
        rw [List.map_cons, List.map_cons] at h
        obtain ⟨h1, h2⟩ := List.cons.inj h
        rw [mkS_inj h1, ih h2]
  exact inj h
def oddT : List (List Nat) := [[], [10], [10, 10], [45], [45, 10, 45], [114, 48, 32, 10], [10, 114, 57], [114, 48, 10, 10], [32, 10], [114, 48, 32, 32, 114, 49, 10], [120, 10, 10, 120]]
def oddL : List Nat := 10 :: ((List.replicate 40 [45, 32]).flatten ++ [45])
theorem lit_oddT : ([.str "", .str "\n", .str "\n\n", .str "-", .str "-\n-", .str "r0 \n", .str "\nr9", .str "r0\n\n", .str " \n", .str "r0  r1\n", .str "x\n\nx"] : List D) = encW oddT := by
  have e : (["", "\n", "\n\n", "-", "-\n-", "r0 \n", "\nr9", "r0\n\n", " \n", "r0  r1\n", "x\n\nx"] : List Str) = oddT.map mkS := by decide +kernel
  have := congrArg (List.map PyData.str) e
  rw [encW_str] at this
  exact this
theorem oddT_ok : ∀ p ∈ oddT ++ [oddL], p.length ≤ 1000000 ∧ ∀ c ∈ p, c < 0x110000 := by decide +kernel
theorem word3 {l r : List Deed} (gl : GoodP 4 l) (gr : GoodP 4 r) : WordB 3 (textC l r) := fun row hrow w hw => by
  have e : splitC 10 (textC l r) = [rowC l, rowC r] := split_uniq (fun z => nomatch z) fun p hp => by
    rcases List.mem_cons.mp hp with e | hp
    · rw [e]; exact rowC_free gl
    · rw [List.mem_singleton.mp hp]; exact rowC_free gr
  rw [e] at hrow
  have key : ∀ {d : List Deed}, GoodP 4 d → w ∈ splitC 32 (rowC d) → w.length ≤ 3 := fun {d} gd hw => by
    by_cases hz : d = []
    · subst hz
      have : w ∈ [([] : List Nat)] := hw
      rw [List.mem_singleton.mp this]; exact Nat.zero_le _
    · have e : splitC 32 (rowC d) = d.map wordC := split_uniq (fun z => hz (List.map_eq_nil_iff.mp z)) fun p hp => by
        obtain ⟨x, hx, rfl⟩ := List.mem_map.mp hp
        exact wordC_free (gd x hx) (.inl rfl)
      rw [e] at hw
      obtain ⟨x, _, rfl⟩ := List.mem_map.mp hw
      exact wordC_len x
  rcases List.mem_cons.mp hrow with e | hrow
  · rw [e] at hw; exact key gl hw
  · rw [List.mem_singleton.mp hrow] at hw; exact key gr hw
/-- how long a text is behind so many changes -/
def TxI (i : Nat) (l : List Nat) : Prop := codesOk l ∧ ((i = 0 ∧ l.length ≤ 209 ∧ WordB 3 l) ∨ (i = 1 ∧ l.length ≤ 419) ∨ (i = 2 ∧ l.length ≤ 17219) ∨ (i = 3 ∧ l.length ≤ 706019))
theorem TxI.next {i : Nat} {l l' : List Nat} (hi : i < 3) (h : TxI i l) (p : chPost l l') : TxI (i + 1) l' := by
  obtain ⟨hc, hp⟩ := p
  refine ⟨hc, ?_⟩
  rcases h.2 with ⟨e, h1, h2⟩ | ⟨e, h1⟩ | ⟨e, h1⟩ | ⟨e, h1⟩
  · have := hp 3 h2
    unfold chB at this
    exact .inr (.inl ⟨by omega, by omega⟩)
  · have := hp _ (wordB_all l)
    unfold chB at this
    exact .inr (.inr (.inl ⟨by omega, by omega⟩))
  · have := hp _ (wordB_all l)
    unfold chB at this
    exact .inr (.inr (.inr ⟨by omega, by omega⟩))
  · omega
theorem TxI.small {i : Nat} {l : List Nat} (hi : i < 3) (h : TxI i l) : l.length ≤ 20000 := by
  rcases h.2 with ⟨e, h1, h2⟩ | ⟨e, h1⟩ | ⟨e, h1⟩ | ⟨e, h1⟩ <;> omega
theorem TxI.len {i : Nat} {l : List Nat} (h : TxI i l) : l.length ≤ 1000000 := by
  rcases h.2 with ⟨e, h1, h2⟩ | ⟨e, h1⟩ | ⟨e, h1⟩ | ⟨e, h1⟩ <;> omega
theorem mulOk_gap : PySem.MulOk ("- " : Str) 40 := by
  unfold PySem.MulOk
  decide +kernel
theorem mul_gap : PySem.Txt.mul ("- " : Str) 40 = mkS (List.replicate 40 [45, 32]).flatten := by decide +kernel
def t_law12 (K : PySem.W.Frag) (A : AdX) : TS :=
  (tSeq (tAsg (tUser (sp_law_mix K A) (tCons (tVar 0) (tCons (tC (.int 41)) tNil))) (gName 1))
    (tSeq (tAsg (tLst (tCons (tC (.str "")) (tCons (tC (.str "\n")) (tCons (tC (.str "\n\n")) (tCons (tC (.str "-")) (tCons (tC (.str "-\n-")) (tCons (tC (.str "r0 \n")) (tCons (tC (.str "\nr9")) (tCons (tC (.str "r0\n\n")) (tCons (tC (.str " \n")) (tCons (tC (.str "r0  r1\n")) (tCons (tC (.str "x\n\nx")) tNil)))))))))))) (gName 2))
    (tSeq (tDrop (tBM K "list" rAppend (tVar 2) (tCons (tOp (rAddA K) (tOp (rAddA K) (tC (.str "\n")) (tOp rMulA (tC (.str "- ")) (tC (.int 40)))) (tC (.str "-"))) tNil)))
    (tSeq (tFor (iRng1 (tCons (tC (.int 5)) tNil)) (gName 3) (tSeq (tAsg (tUser (sp_law_text K A) (tCons (tUser (sp_law_program K A) (tCons (tVar 1) (tCons (tC (.int 4)) (tCons (tOp (rIx K) (tLst (tCons (tC (.int 8)) (tCons (tC (.int 40)) tNil))) (tUser (sp_law_next K A) (tCons (tVar 1) (tCons (tC (.int 2)) tNil)))) tNil)))) (tCons (tUser (sp_law_program K A) (tCons (tVar 1) (tCons (tC (.int 4)) (tCons (tC (.int 12)) tNil)))) tNil))) (gName 4))
    (tSeq (tFor (iRng1 (tCons (tUser (sp_law_next K A) (tCons (tVar 1) (tCons (tC (.int 4)) tNil))) tNil)) (gName 5) (tAsg (tUser (sp_law_changed K A) (tCons (tVar 1) (tCons (tVar 4) tNil))) (gName 4)))
    (tFor (iList K (tLst (tCons (tVar 4) (tCons (tOp (rIx K) (tVar 2) (tUser (sp_law_next K A) (tCons (tVar 1) (tCons (tC (.int 12)) tNil)))) tNil)))) (gName 6) (tFor (iRng1 (tCons (tC (.int 2)) tNil)) (gName 7) (tIfS (tNot (tB (tUser (sp_law_alike K A) (tCons (tUser (sp_law_told K A) (tCons (tVar 6) tNil)) (tCons (tUser (sp_law_due12 K A) (tCons (tVar 6) tNil)) tNil))))) (tRet (tC (.bl false))) tNext))))))
    (tRet (tC (.bl true)))))))
theorem rd_law12 {C : Cc} {A : AdX} {a : Addr} {ns : List Int} (hl : ns.length ≤ 63) (hb : ∀ z ∈ ns, bitOk z) :
    Ex C (t_law12 C.K A) [.ow (.scr C.K a ns), .no, .no, .no, .no, .no, .no, .no] lawPo := by
  refine ex_seq (ex_asg (ef_mix (seed := 41) rfl hl hb ev_int (by decide) fun h => ?_))
  refine ex_seq (ex_set (s := own C.K (encW oddT)) (by
    have e := lit_oddT
    rw [← e]
    exact ev_lstO (ea_cons ev_str (ea_cons ev_str (ea_cons ev_str (ea_cons ev_str (ea_cons ev_str (ea_cons ev_str (ea_cons ev_str (ea_cons ev_str (ea_cons ev_str (ea_two ev_str ev_str))))))))))) ?_)
  refine ex_seq (ex_append (xs := encW oddT) rfl (ef_d (x := .str (mkS oddL)) (ev_is (ev_op (x := .str (mkS (10 :: (List.replicate 40 [45, 32]).flatten))) (ev_is (ev_op (y := .str (mkS (List.replicate 40 [45, 32]).flatten)) ev_str (ev_op ev_str ev_int (fun Hb H v u Q sm hx hy q => by
    cases hx; cases hy
    refine .inr (.inr ⟨_, _, rfl, rfl, mulOk_gap, ?_⟩)
    rw [mul_gap]
    exact q.flat sm (.str _))) (o2_addS (by decide +kernel))) (congrArg PyData.str (by decide +kernel))) ev_str (o2_addS (by decide +kernel))) (congrArg PyData.str (by decide +kernel))) ⟨_, _, rfl, rfl, by decide, ?_⟩))
  have eO : encW oddT ++ [.str (mkS oddL)] = encW (oddT ++ [oddL]) := encW_app oddT [oddL]
  rw [eO]
  have hO := oddT_ok
  have hOl : (oddT ++ [oddL]).length = 12 := rfl
  generalize oddT ++ [oddL] = OT at hO hOl
  refine ex_seq (ex_for (ei_p (pi_r1 (j := 5) (ea_one ev_int) (by decide)) ⟨fun _ ρ => ∃ s2 s3 s4 s5 s6 s7, (s2 = own C.K (encW OT) ∨ s2 = .d (.list (encW OT))) ∧ ρ = [.ow (.scr C.K a ns), rnd h, s2, s3, s4, s5, s6, s7], ⟨_, _, _, _, _, _, .inl rfl, rfl⟩, fun i ρ hi ⟨s2, s3, s4, s5, s6, s7, hs2, e⟩ => ?_, fun ρ _ => ex_ret (ef_d ev_bl rfl)⟩))
  subst e
  refine eg_name ?_
  refine ex_seq (ex_asg (ef_user (fa_cons (ef_programD (n := 4) (M := 40) rfl (ev_int (i := ((4 : Nat) : Int))) (by omega) (by omega) (ef_op (ef_d (ev_lst (ea_two ev_int ev_int)) ⟨_, rfl, ef_next (n := 2) rfl ev_int (by decide) (by decide) fun m hm => ⟨_, .d (.int ((if m = 0 then 8 else 40 : Nat) : Int)), rfl, ?_, _, (by split <;> omega), rfl, rfl⟩⟩)) (by omega) fun l gl ll => ⟨_, rfl, fa_cons (ef_program (n := 4) (m := 12) rfl (ev_int (i := ((4 : Nat) : Int))) (by omega) (by omega) (ef_d (ev_int (i := ((12 : Nat) : Int))) ⟨rfl, rfl⟩) (by omega) fun r gr lr => ⟨_, rfl, fa_nil ⟨_, ⟨_, ⟨l, r, rfl, gl, gr, ll, by omega, rfl⟩, rfl⟩, fun s hs => ?_⟩⟩)⟩))))
  · have : m = 0 ∨ m = 1 := by omega
    rcases this with e | e <;> subst e
    · exact o2_ixL (atI_nat (j := 0) rfl)
    · exact o2_ixL (atI_nat (j := 1) rfl)
  subst hs
  have t0 : TxI 0 (textC l r) := ⟨textC_lt gl gr, .inl ⟨rfl, by have := textC_len l r; omega, word3 gl gr⟩⟩
  refine ex_seq (ex_for (ei_rng1 (fa_cons (ef_next (n := 4) rfl ev_int (by decide) (by decide) fun q hq => ⟨_, rfl, fa_nil ⟨_, rfl, by omega, by omega, ?_⟩⟩))))
  have eq : ((q : Nat) : Int).toNat = q := by omega
  rw [eq]
  refine ⟨fun k ρ => ∃ lt s5, TxI k lt ∧ ρ = [.ow (.scr C.K a ns), rnd h, s2, .d (.int (i : Nat)), .d (.str (mkS lt)), s5, s6, s7], ⟨_, _, t0, rfl⟩, fun k ρ hk ⟨lt, s5, ht, e⟩ => ?_, fun ρ ⟨lt, s5, ht, e⟩ => ?_⟩
  · subst e
    refine eg_name ?_
    exact ex_asg (ef_changed rfl (ev_var rfl) (ht.small (by omega)) ht.1 fun l' hp => ⟨l', _, ht.next (by omega) hp, rfl⟩)
  subst e
  have frz : ∀ {P : Sl → List Sl → Prop}, P (.d (.list (encW OT))) [.ow (.scr C.K a ns), rnd h, .d (.list (encW OT)), .d (.int (i : Nat)), .d (.str (mkS lt)), s5, s6, s7] → Ev C (tVar 2) [.ow (.scr C.K a ns), rnd h, s2, .d (.int (i : Nat)), .d (.str (mkS lt)), s5, s6, s7] P := by
    rcases hs2 with e | e
    · subst e; exact fun p => ef_frz (i := 2) rfl p
    · subst e; exact fun p => ef_d (ev_var rfl) p
  refine ex_for (ei_list (ef_lst (fa_cons (ef_d (ev_var rfl) ⟨_, rfl, fa_cons (ef_op (frz ⟨_, rfl, ef_next (n := 12) rfl ev_int (by decide) (by decide) fun m hm => ⟨_, .d (.str (mkS (OT[m]'(by omega)))), rfl, o2_ixL (encW_atI (by omega)), _, rfl, fa_nil ⟨Nat.le_of_ble_eq_true rfl, _, .dat, _, rfl, ?_⟩⟩⟩))⟩))))
  have hom := hO _ (List.getElem_mem (show m < OT.length by omega))
  generalize OT[m]'(by omega) = om at hom
  refine ⟨fun _ ρ => ∃ s6 s7, ρ = [.ow (.scr C.K a ns), rnd h, .d (.list (encW OT)), .d (.int (i : Nat)), .d (.str (mkS lt)), s5, s6, s7], ⟨_, _, rfl⟩, fun k ρ hk ⟨s6, s7, e⟩ => ?_, fun ρ ⟨s6, s7, e⟩ => ⟨_, _, _, _, _, _, .inr rfl, e⟩⟩
  subst e
  have item : ∃ x : List Nat, itemOf [(.str (mkS lt) : D), .str (mkS om)] k = .str (mkS x) ∧ x.length ≤ 1000000 ∧ codesOk x := by
    have : k = 0 ∨ k = 1 := by have : k < 2 := hk; omega
    rcases this with e | e <;> subst e
    · exact ⟨lt, rfl, ht.len, ht.1⟩
    · exact ⟨om, rfl, hom.1, hom.2⟩
  obtain ⟨x, ex, hx1, hx2⟩ := item
  rw [ex]
  refine eg_name ?_
  refine ex_for (ei_p (pi_r1 (j := 2) (ea_one ev_int) (by decide)) ⟨fun _ ρ => ∃ s7, ρ = [.ow (.scr C.K a ns), rnd h, .d (.list (encW OT)), .d (.int (i : Nat)), .d (.str (mkS lt)), s5, .d (.str (mkS x)), s7], ⟨_, rfl⟩, fun v ρ hv ⟨s7, e⟩ => ?_, fun ρ ⟨s7, e⟩ => ⟨_, _, e⟩⟩)
  subst e
  refine eg_name ?_
  exact ex_ifp (b := false) (et_not (et_B (b := true) (ev_dat (x := .bool true) (ea_two (ev_dat (x := dueOf (readOut x)) (ea_one (ev_var rfl)) ⟨x, rfl, hx1, hx2, rfl⟩) (ev_dat (x := dueOf (readOut x)) (ea_one (ev_var rfl)) ⟨x, rfl, hx1, hx2, rfl⟩)) ⟨_, rfl, due_alk (n := 4) x, rfl⟩))) (fun z => nomatch z) fun _ => ex_next ⟨_, rfl⟩
end DL
set_option Elab.async false
set_option linter.all false
set_option maxRecDepth 100000
set_option maxHeartbeats 4000000
/-! HN: BadText's own __init__ as a def; raise BadText(..) as a statement's rule. -/
namespace DL
open PySem PySem.Spec PyProof.Rows L2

/-- BadText can be made -/
structure BtOk (P : Program) (w : World) (K : PySem.W.Frag) (mg : Str → Option Value) (base : Heap) (A : AdX) (k : Nat) : Prop where
  ex : ∃ (fI : Addr) (fd : FuncData), PySem.W.findIn K (.ref A.aBadText) "__init__" = some (some (.ref fI)) ∧ PySem.W.typeIn K (.ref fI) = some (.type "function") ∧ FnOk P w K mg base CX0 k fI fd ["self", "row", "place"] (initSp A.aBadText "row" "place") ∧ Binds K fd ["self", "row", "place"] []
  o : OexC K A.aBadText
  m : mg "BadText" = some (.ref A.aBadText)
theorem ps_raiseBT {X : Cx} {A : AdX} {k : Nat} {E : XK} {p p2 pos : Pos} {e : Expr} {es : List Expr} {ta : TA} (hc : X.calm = true) (tk : Takes X fun cls d _ H => E cls d H) (B : BtOk X.prog X.w X.K X.mg X.base A k) (hr : Room (k + 1) X.A) (hg : Gl X "BadText") (ha : PA X (e :: es) ta)
    (he : starEach (e :: es) X.env = (false, eval e X.env) :: starEach es X.env := by rfl) (hpl : (backTo p2 (starEach es X.env)).any (·.1) = false := by rfl) : PS X (.Raise (some (.Call (.Name "BadText" p) (e :: es) [] p2)) none pos) (tRaiseO A.aBadText (initSp A.aBadText "row" "place") ta E) := by
  obtain ⟨fI, fd, h1, h2, h3, h4⟩ := B.ex
  exact ps_raise hc tk (pmk_oex B.o h1 h2 h3 hr h4 .nil (fun _ _ _ _ _ _ _ z => z.elim) hg B.m ha (by decide) he hpl)
/-! what isinstance and except ask, from what the text says of the classes -/
theorem cls_some {K : PySem.W.Frag} {C : Addr} (h : PySem.W.hasDictIn K C = true) : (PySem.W.clsIn K C).isSome = true := by
  obtain ⟨cd, hc, _⟩ := PySem.W.any_some h
  rw [hc]; rfl
theorem kit_self {K : PySem.W.Frag} {B : Addr} : PySem.W.kitOne K (.ref B) (.ref B) = some true := if_pos (beq_self_eq_true _)
theorem kit_no {K : PySem.W.Frag} {B C : Addr} (hs : PySem.W.subIn K (.ref B) (.ref B) = some true) (hd : PySem.W.hasDictIn K C = true) (ht : PySem.W.typeIn K (.ref C) = some (.type "type")) (h : PySem.W.subIn K (.ref B) (.ref C) = some false) : PySem.W.kitOne K (.ref B) (.ref C) = some false := by
  have ne : ¬ ((Value.ref B == Value.ref C) = true) := fun z => by
    have e : B = C := Value.ref.inj (beq_iff_eq.mp z)
    rw [e] at hs
    rw [e, hs] at h; cases h
  have e2 : ((PySem.W.clsIn K C).isSome && PySem.W.typeIn K (.ref C) == some (.type "type")) = true := by rw [cls_some hd, ht] <;> rfl
  unfold PySem.W.kitOne
  rw [if_neg ne]
  show (if ((PySem.W.clsIn K C).isSome && PySem.W.typeIn K (.ref C) == some (.type "type")) = true then PySem.W.subIn K (.ref B) (.ref C) else none) = _
  rw [if_pos e2]; exact h
theorem kit_ty {K : PySem.W.Frag} {B : Addr} {T : String} (hm : PySem.W.kitMeta T = true) (h : PySem.W.subIn K (.ref B) (.type T) = some true) : PySem.W.kitOne K (.ref B) (.type T) = some true := by
  have ne : ¬ ((Value.ref B == Value.type T) = true) := fun z => by
    have := beq_iff_eq.mp z
    cases this
  unfold PySem.W.kitOne
  rw [if_neg ne]
  show (if PySem.W.kitMeta T = true then PySem.W.subIn K (.ref B) (.type T) else none) = _
  rw [if_pos hm]; exact h
theorem kit_five {K : PySem.W.Frag} {t a b c d e : Value} (h1 : PySem.W.kitOne K t a = some false) (h2 : PySem.W.kitOne K t b = some false) (h3 : PySem.W.kitOne K t c = some false) (h4 : PySem.W.kitOne K t d = some false) (h5 : PySem.W.kitOne K t e = some false) : PySem.W.kitAny K t [a, b, c, d, e] = some false := by
  simp only [PySem.W.kitAny, h1, h2, h3, h4, h5]
end DL
set_option Elab.async false
set_option linter.all false
set_option maxRecDepth 100000
set_option maxHeartbeats 4000000
namespace K12
open PySem PySem.Spec PyProof.Rows L2 DL
open C8 (Mak Met pe_mk pe_mt)
def topS (i : Nat) : Stmt := PySem.Challenge.pw_doorbeat_k12_texts_that_tell_no_programs.main.body.getD i (.Pass ⟨0, 0, 0, 0⟩)
abbrev s_BadText_init : Stmt := inClass (topS 7) 0
abbrev N_BadText_init : List Str := ["self", "row", "place"]
theorem sc_BadText_init : FnScope ["self", "row", "place"] ["self", "row", "place"] (defScope s_BadText_init) := ⟨rfl, rfl, rfl, by decide +kernel, rfl, by decide +kernel, by decide +kernel⟩
abbrev s_deed_of : Stmt := topS 14
abbrev N_deed_of : List Str := ["word"]
theorem sc_deed_of : FnScope ["word"] ["word"] (defScope s_deed_of) := ⟨rfl, rfl, rfl, by decide +kernel, rfl, by decide +kernel, by decide +kernel⟩
abbrev s_program_of : Stmt := topS 15
abbrev N_program_of : List Str := ["row", "text", "found", "place", "word", "deed"]
theorem sc_program_of : FnScope ["row", "text", "found", "place", "word", "deed"] ["row", "text"] (defScope s_program_of) := ⟨rfl, rfl, rfl, by decide +kernel, rfl, by decide +kernel, by decide +kernel⟩
abbrev s_read : Stmt := topS 16
abbrev N_read : List Str := ["text", "rows", "found", "row"]
theorem sc_read : FnScope ["text", "rows", "found", "row"] ["text"] (defScope s_read) := ⟨rfl, rfl, rfl, by decide +kernel, rfl, by decide +kernel, by decide +kernel⟩
abbrev s_law_mix : Stmt := topS 18
abbrev N_law_mix : List Str := ["_law_script", "_law_seed", "_law_mixed", "_law_cell"]
theorem sc_law_mix : FnScope ["_law_script", "_law_seed", "_law_mixed", "_law_cell"] ["_law_script", "_law_seed"] (defScope s_law_mix) := ⟨rfl, rfl, rfl, by decide +kernel, rfl, by decide +kernel, by decide +kernel⟩
abbrev s_law_next : Stmt := topS 19
abbrev N_law_next : List Str := ["_law_h", "_law_many", "_law_at", "_law_cell"]
theorem sc_law_next : FnScope ["_law_h", "_law_many", "_law_at", "_law_cell"] ["_law_h", "_law_many"] (defScope s_law_next) := ⟨rfl, rfl, rfl, by decide +kernel, rfl, by decide +kernel, by decide +kernel⟩
abbrev s_law_alike : Stmt := topS 20
abbrev N_law_alike : List Str := ["_law_found", "_law_due_here", "_law_k"]
theorem sc_law_alike : FnScope ["_law_found", "_law_due_here", "_law_k"] ["_law_found", "_law_due_here"] (defScope s_law_alike) := ⟨rfl, rfl, rfl, by decide +kernel, rfl, by decide +kernel, by decide +kernel⟩
abbrev s_law_deed : Stmt := topS 21
abbrev N_law_deed : List Str := ["_law_h", "_law_cells", "_law_cell"]
theorem sc_law_deed : FnScope ["_law_h", "_law_cells", "_law_cell"] ["_law_h", "_law_cells"] (defScope s_law_deed) := ⟨rfl, rfl, rfl, by decide +kernel, rfl, by decide +kernel, by decide +kernel⟩
abbrev s_law_program : Stmt := topS 22
abbrev N_law_program : List Str := ["_law_h", "_law_cells", "_law_most", "_law_k"]
theorem sc_law_program : FnScope ["_law_h", "_law_cells", "_law_most", "_law_k"] ["_law_h", "_law_cells", "_law_most"] (defScope s_law_program) := ⟨rfl, rfl, rfl, by decide +kernel, rfl, by decide +kernel, by decide +kernel⟩
abbrev s_law_text : Stmt := topS 23
abbrev N_law_text : List Str := ["_law_left", "_law_right", "_law_rows", "_law_program_here", "_law_words", "_law_deed_here", "_law_one"]
theorem sc_law_text : FnScope ["_law_left", "_law_right", "_law_rows", "_law_program_here", "_law_words", "_law_deed_here", "_law_one"] ["_law_left", "_law_right"] (defScope s_law_text) := ⟨rfl, rfl, rfl, by decide +kernel, rfl, by decide +kernel, by decide +kernel⟩
abbrev s_law_word : Stmt := topS 24
abbrev N_law_word : List Str := ["_law_word_here", "_law_every", "_law_cell", "_law_worth"]
theorem sc_law_word : FnScope ["_law_word_here", "_law_every", "_law_cell", "_law_worth"] ["_law_word_here"] (defScope s_law_word) := ⟨rfl, rfl, rfl, by decide +kernel, rfl, by decide +kernel, by decide +kernel⟩
abbrev s_law_due : Stmt := topS 25
abbrev N_law_due : List Str := ["_law_text_here", "_law_rows", "_law_found", "_law_k", "_law_words", "_law_deeds", "_law_word_here", "_law_bad", "_law_place"]
theorem sc_law_due : FnScope ["_law_text_here", "_law_rows", "_law_found", "_law_k", "_law_words", "_law_deeds", "_law_word_here", "_law_bad", "_law_place"] ["_law_text_here"] (defScope s_law_due) := ⟨rfl, rfl, rfl, by decide +kernel, rfl, by decide +kernel, by decide +kernel⟩
abbrev s_law_told : Stmt := topS 26
abbrev N_law_told : List Str := ["_law_text_here", "e", "_law_other"]
theorem sc_law_told : FnScope ["_law_text_here", "e", "_law_other"] ["_law_text_here"] (defScope s_law_told) := ⟨rfl, rfl, rfl, by decide +kernel, rfl, by decide +kernel, by decide +kernel⟩
abbrev s_law_changed : Stmt := topS 27
abbrev N_law_changed : List Str := ["_law_h", "_law_text_here", "_law_turn", "_law_at", "_law_sign", "_law_rows", "_law_k", "_law_some", "_law_words", "_law_j", "_law_odd"]
theorem sc_law_changed : FnScope ["_law_h", "_law_text_here", "_law_turn", "_law_at", "_law_sign", "_law_rows", "_law_k", "_law_some", "_law_words", "_law_j", "_law_odd"] ["_law_h", "_law_text_here"] (defScope s_law_changed) := ⟨rfl, rfl, rfl, by decide +kernel, rfl, by decide +kernel, by decide +kernel⟩
abbrev s_law : Stmt := topS 28
abbrev N_law : List Str := ["_law_script", "_law_h", "_law_odd", "_law_turn", "_law_text_here", "_law_k", "_law_some", "_law_again"]
theorem sc_law : FnScope ["_law_script", "_law_h", "_law_odd", "_law_turn", "_law_text_here", "_law_k", "_law_some", "_law_again"] ["_law_script"] (defScope s_law) := ⟨rfl, rfl, rfl, by decide +kernel, rfl, by decide +kernel, by decide +kernel⟩
/-- what the top has written -/
structure Txt (K : PySem.W.Frag) (w : World) (mg : Str → Option Value) (A : AdX) : Prop where
  m_ValueError : mg "ValueError" = none
  m_bool : mg "bool" = none
  m_enumerate : mg "enumerate" = none
  m_int : mg "int" = none
  m_isinstance : mg "isinstance" = none
  m_len : mg "len" = none
  m_list : mg "list" = none
  m_max : mg "max" = none
  m_min : mg "min" = none
  m_range : mg "range" = none
  m_str : mg "str" = none
  m_tuple : mg "tuple" = none
  c_MOST_DEEDS : ∃ t, mg "MOST_DEEDS" = some (.int 40 t)
  c_REST : mg "REST" = some (.ref A.aREST)
  c_CELLS : ∃ t, mg "CELLS" = some (.str "0123" t)
  c_SIGNS : ∃ t, mg "SIGNS" = some (.str "012" t)
  c_GAP : ∃ t, mg "GAP" = some (.str "-" t)
  c_BadText : mg "BadText" = some (.ref A.aBadText)
  c_DoorError : mg "DoorError" = some (.ref A.aDoorError)
  c_BadMemory : mg "BadMemory" = some (.ref A.aBadMemory)
  c_BadProgram : mg "BadProgram" = some (.ref A.aBadProgram)
  c_BadRule : mg "BadRule" = some (.ref A.aBadRule)
  c_BadOrder : mg "BadOrder" = some (.ref A.aBadOrder)
  c_TooMany : mg "TooMany" = some (.ref A.aTooMany)
  o_BadText : OexC K A.aBadText
  n_row : PySem.W.findIn K (.ref A.aBadText) "row" = some none
  n_place : PySem.W.findIn K (.ref A.aBadText) "place" = some none
  d_DoorError : DInit K A.aDoorError
  e_BadText : ExcC K A.aBadText
  x_BadText : XfC K A.aBadText
  o_text : TextOk K A
  f_BadText_init : ∃ f fd, Fun K "__init__" "BadText.__init__" s_BadText_init f fd ∧ PySem.W.findIn K (.ref A.aBadText) "__init__" = some (some (.ref f)) ∧ PySem.W.typeIn K (.ref f) = some (.type "function")
  f_deed_of : ∃ f fd, Fun K "deed_of" "deed_of" s_deed_of f fd ∧ mg "deed_of" = some (.ref f)
  f_program_of : ∃ f fd, Fun K "program_of" "program_of" s_program_of f fd ∧ mg "program_of" = some (.ref f)
  f_read : ∃ f fd, Fun K "read" "read" s_read f fd ∧ mg "read" = some (.ref f)
  f_law_mix : ∃ f fd, Fun K "_law_mix" "_law_mix" s_law_mix f fd ∧ mg "_law_mix" = some (.ref f)
  f_law_next : ∃ f fd, Fun K "_law_next" "_law_next" s_law_next f fd ∧ mg "_law_next" = some (.ref f)
  f_law_alike : ∃ f fd, Fun K "_law_alike" "_law_alike" s_law_alike f fd ∧ mg "_law_alike" = some (.ref f)
  f_law_deed : ∃ f fd, Fun K "_law_deed" "_law_deed" s_law_deed f fd ∧ mg "_law_deed" = some (.ref f)
  f_law_program : ∃ f fd, Fun K "_law_program" "_law_program" s_law_program f fd ∧ mg "_law_program" = some (.ref f)
  f_law_text : ∃ f fd, Fun K "_law_text" "_law_text" s_law_text f fd ∧ mg "_law_text" = some (.ref f)
  f_law_word : ∃ f fd, Fun K "_law_word" "_law_word" s_law_word f fd ∧ mg "_law_word" = some (.ref f)
  f_law_due : ∃ f fd, Fun K "_law_due" "_law_due" s_law_due f fd ∧ mg "_law_due" = some (.ref f)
  f_law_told : ∃ f fd, Fun K "_law_told" "_law_told" s_law_told f fd ∧ mg "_law_told" = some (.ref f)
  f_law_changed : ∃ f fd, Fun K "_law_changed" "_law_changed" s_law_changed f fd ∧ mg "_law_changed" = some (.ref f)
  f_law : ∃ f fd, Fun K "law" "law" s_law f fd ∧ mg "law" = some (.ref f)
  o_REST : RestOk K A
section
variable {P : Program} {w : World} {K : PySem.W.Frag} {mg : Str → Option Value} {base : Heap} {A : AdX}
theorem ok_BadText_init (T : Txt K w mg A) : BtOk P w K mg base A 1 := by
  obtain ⟨f, fd, F, h1, h2⟩ := T.f_BadText_init
  refine ⟨⟨f, fd, h1, h2, ?_, F.binds fun _ _ _ _ _ _ us hl => match us, hl with | [_, _, _], _ => rfl⟩, T.o_BadText, T.c_BadText⟩
  refine F.ok sc_BadText_init (fun vs H Q E ⟨a, r, p, e, _⟩ => by rw [e]; rfl) fun cdv A0 outer s H vs Q E hr ⟨a, r, p, e, ha, hq⟩ => ⟨t_init2 K "row" "place", ?_, ?_⟩
  · exact pss_cons (ps_expr (pe_dinit (by rfl) T.c_DoorError T.d_DoorError (pa_cons (pv 0) (pa_cons (pv 1) (pa_cons (pv 2) pa_nil))))) (pss_cons (ps_ost (pv 0) (pv 1)) (pss_one (ps_ost (pv 0) (pv 2))))
  · subst e
    exact rd_init2 (Q := Q) T.o_BadText T.n_row T.n_place ha fun d hd ne σ => hq d hd ne
theorem ok_deed_of (T : Txt K w mg A) : Callee P w K mg base 1 "deed_of" ["word"] (sp_deed_ofC K A) := by
  obtain ⟨f, fd, F, hm⟩ := T.f_deed_of
  refine ⟨f, fd, fn_pure F sc_deed_of (fun ds S ⟨_, ⟨_, e, _⟩, _⟩ => by rw [e]; rfl) (t_deed_of K A) (fun cdv A0 outer s H E hr => ?_) (fun C ds S hK hM h => ?_), hm, F.kp, F.binds fun _ _ _ _ _ _ us hl => match us, hl with | [_], _ => rfl⟩
  · exact (pss_cons (ps_if (pt_cmpR (op_eqD hr.units) (pv 0) (pe_gstr T.c_GAP (by rfl)) (nomark _)) (pss_one (ps_ret (pe_gref T.c_REST (by rfl)))) pss_nil)
        (pss_cons (ps_if (PW.pt (pw_and (pt_cmpR (op_eqD hr.units) (pe_callB cr_lenA (by rfl) T.m_len (by decide +kernel) (pa_cons (pv 0) pa_nil)) pe_int (nomark _)) (pw_and (pt_cmpR (op_eqD hr.units) (pe_ix ix_seq (pv 0) pe_int (fun _ _ => rfl)) pe_str (nomark _)) (pw_and1 (pt_cmpR (op_inA hr.u65) (pe_ix ix_seq (pv 0) pe_int (fun _ _ => rfl)) (pe_gstr T.c_CELLS (by rfl)) (by rfl)))))) (pss_one (ps_ret (pe_tup (pa_cons pe_str (pa_cons (pe_callTy cr_intA (by rfl) T.m_int (by decide +kernel) (pa_cons (pe_ix ix_seq (pv 0) pe_int (fun _ _ => rfl)) pa_nil)) pa_nil))))) pss_nil)
        (pss_cons (ps_if (PW.pt (pw_and (pt_cmpR (op_eqD hr.units) (pe_callB cr_lenA (by rfl) T.m_len (by decide +kernel) (pa_cons (pv 0) pa_nil)) pe_int (nomark _)) (pw_and (pt_cmpR (op_eqD hr.units) (pe_ix ix_seq (pv 0) pe_int (fun _ _ => rfl)) pe_str (nomark _)) (pw_and (pt_cmpR (op_inA hr.u65) (pe_ix ix_seq (pv 0) pe_int (fun _ _ => rfl)) (pe_gstr T.c_CELLS (by rfl)) (by rfl)) (pw_and1 (pt_cmpR (op_inA hr.u65) (pe_ix ix_seq (pv 0) pe_int (fun _ _ => rfl)) (pe_gstr T.c_SIGNS (by rfl)) (by rfl))))))) (pss_one (ps_ret (pe_tup (pa_cons pe_str (pa_cons (pe_callTy cr_intA (by rfl) T.m_int (by decide +kernel) (pa_cons (pe_ix ix_seq (pv 0) pe_int (fun _ _ => rfl)) pa_nil)) (pa_cons (pe_callTy cr_intA (by rfl) T.m_int (by decide +kernel) (pa_cons (pe_ix ix_seq (pv 0) pe_int (fun _ _ => rfl)) pa_nil)) pa_nil)))))) pss_nil)
        (pss_one (ps_ret pe_non)))))
  · obtain ⟨_, ⟨l, rfl, h1, h2, rfl⟩, rfl⟩ := h
    subst hK
    exact rd_deed_ofC T.o_REST h1 h2
theorem ok_program_of (T : Txt K w mg A) (G_deed_of : Callee P w K mg base 1 "deed_of" ["word"] (sp_deed_ofC K A)) (G_BadText_init : BtOk P w K mg base A 1) : CalleeX P w K mg base 3 "program_of" ["row", "text"] (sp_program_ofX K A) := by
  obtain ⟨f, fd, F, hm⟩ := T.f_program_of
  refine ⟨f, fd, fn_exc F sc_program_of (fun ds S T2 ⟨_, _, e, _⟩ => by rw [e]; rfl) (t_program_ofX K A) (fun cdv A0 outer s H E hr => ?_) (fun C ds S T2 E hK hM h hE => ?_), hm, F.kp, F.binds fun _ _ _ _ _ _ us hl => match us, hl with | [_, _], _ => rfl⟩
  · exact (pss_cons (ps_set (i := 2) sc_program_of.nd rfl (.inl rfl) (pe_lst pa_nil))
        (pss_cons (ps_for (passes_of rfl) rfl (pi_enum (by rfl) T.m_enumerate (pa_cons (pe_ifExp (pt_cmpR (op_neD hr.units) (pv 1) pe_str (nomark _)) (pe_bm PySem.F.plainAttrs_str PySem.F.slot_str_split PySem.F.type_str_split mt_split (pv 1) (pa_cons pe_str pa_nil)) (pe_lst pa_nil)) pa_nil)) (pg_tup rfl (pgs_cons (pg_name (i := 3) sc_program_of.nd rfl (.inl rfl)) (pgs_cons (pg_name (i := 4) sc_program_of.nd rfl (.inl rfl)) pgs_nil))) (pss_cons (ps_set (i := 5) sc_program_of.nd rfl (.inl rfl) (pe_user G_deed_of (hr.mono (by decide)) (by rfl) (pa_cons (pv 4) pa_nil)))
        (pss_cons (ps_if (PW.pt (pw_or (pt_cmpR op_isA (pv 5) pe_non (nomark _)) (pw_or1 (pt_cmpR op_geA (pv 3) (pe_gint T.c_MOST_DEEDS (by rfl)) (nomark _))))) (pss_one (ps_raiseBT rfl (takes_of rfl rfl rfl rfl) G_BadText_init (hr.mono (by decide)) (by rfl) (pa_cons (pv 0) (pa_cons (pv 3) pa_nil)))) pss_nil)
        (pss_one (ps_expr (pe_bm PySem.F.plainAttrs_list PySem.F.slot_list_append PySem.F.type_list_append mt_append (pv 2) (pa_cons (pv 5) pa_nil)))))))
        (pss_one (ps_ret (pv 2)))))
  · obtain ⟨row, l, rfl, h1, h2, h3⟩ := h
    subst hK
    exact rd_program_ofX h1 h2 h3 hE
theorem ok_read (T : Txt K w mg A) (G_program_of : CalleeX P w K mg base 3 "program_of" ["row", "text"] (sp_program_ofX K A)) (G_BadText_init : BtOk P w K mg base A 1) : CalleeX P w K mg base 4 "read" ["text"] (sp_readX K A) := by
  obtain ⟨f, fd, F, hm⟩ := T.f_read
  refine ⟨f, fd, fn_exc F sc_read (fun ds S T2 ⟨_, e, _⟩ => by rw [e]; rfl) (t_readX K A) (fun cdv A0 outer s H E hr => ?_) (fun C ds S T2 E hK hM h hE => ?_), hm, F.kp, F.binds fun _ _ _ _ _ _ us hl => match us, hl with | [_], _ => rfl⟩
  · exact (pss_cons (ps_set (i := 1) sc_read.nd rfl (.inr rfl) (pe_bm PySem.F.plainAttrs_str PySem.F.slot_str_split PySem.F.type_str_split mt_split (pv 0) (pa_cons pe_str pa_nil)))
        (pss_cons (ps_setLcX (i := 2) (own := [("row", 3)]) rfl sc_read.nd rfl rfl (sw_true rfl rfl rfl (by decide +kernel)) rfl rfl (takes_of rfl rfl rfl rfl) (pi_range1 (by rfl) T.m_range (pa_cons (pe_callB (cr_minA rfl) (by rfl) T.m_min (by decide +kernel) (pa_cons pe_int (pa_cons (pe_callB cr_lenA (by rfl) T.m_len (by decide +kernel) (pa_cons (pv 1) pa_nil)) pa_nil))) pa_nil)) (blkOk_by (N := N_read) (sc := defScope s_read) (by decide +kernel)) (fun _ _ _ _ _ _ => (pg_name (i := 3) sc_read.nd rfl (.inl rfl))) (fun _ _ _ _ _ _ px => (pe_userX G_program_of (hr.mono (by decide)) (by rfl) px (pa_cons (pv 3) (pa_cons (pe_ix ix_seq (pv 1) (pv 3) (fun _ _ => rfl)) pa_nil)))))
        (pss_cons (ps_if (pt_cmpR (op_neD hr.units) (pe_callB cr_lenA (by rfl) T.m_len (by decide +kernel) (pa_cons (pv 1) pa_nil)) pe_int (nomark _)) (pss_one (ps_raiseBT rfl (takes_of rfl rfl rfl rfl) G_BadText_init (hr.mono (by decide)) (by rfl) (pa_cons (pe_callB (cr_minA rfl) (by rfl) T.m_min (by decide +kernel) (pa_cons pe_int (pa_cons (pe_callB cr_lenA (by rfl) T.m_len (by decide +kernel) (pa_cons (pv 1) pa_nil)) pa_nil))) (pa_cons pe_int pa_nil)))) pss_nil)
        (pss_one (ps_ret (pe_tup (pa_cons (pe_ix ix_seq (pv 2) pe_int (fun _ _ => rfl)) (pa_cons (pe_ix ix_seq (pv 2) pe_int (fun _ _ => rfl)) pa_nil))))))))
  · obtain ⟨l, rfl, h1, h2, h3⟩ := h
    subst hK
    exact rd_readX h1 h2 h3 hE
theorem ok_law_mix (T : Txt K w mg A) : Callee P w K mg base 1 "_law_mix" ["_law_script", "_law_seed"] (sp_law_mix K A) := by
  obtain ⟨f, fd, F, hm⟩ := T.f_law_mix
  refine ⟨f, fd, fn_scr F sc_law_mix (fun ns ds ⟨_, _, _, e, _⟩ => by rw [e]; rfl) (t_law_mix K A) (fun cdv A0 outer s H E hr => ?_) (fun C a ns ds hK hM h => ?_), hm, F.kp, F.binds fun _ _ _ _ _ _ us hl => match us, hl with | [_, _], _ => rfl⟩
  · exact (pss_cons (ps_set (i := 2) sc_law_mix.nd rfl (.inl rfl) (pv 1))
        (pss_cons (ps_for PassesOwn.never rfl (pi_list (pv 0)) (pg_name (i := 3) sc_law_mix.nd rfl (.inl rfl)) (pss_one (ps_set (i := 2) sc_law_mix.nd rfl (.inl rfl) (pe_op op_modA (pe_op op_addA (pe_op op_addA (pe_op op_mulA (pv 2) pe_int) (pe_op op_modA (pv 3) pe_int)) pe_int) pe_int))))
        (pss_one (ps_ret (pe_lst (pa_cons (pv 2) (pa_cons (pe_callTy cr_listA (by rfl) T.m_list (by decide +kernel) (pa_cons (pv 0) pa_nil)) (pa_cons pe_int pa_nil))))))))
  · obtain ⟨h1, h2, seed, rfl, h3⟩ := h
    subst hK
    exact rd_law_mix h1 h2 h3
theorem ok_law_next (T : Txt K w mg A) : Callee P w K mg base 1 "_law_next" ["_law_h", "_law_many"] (sp_law_next K A) := by
  obtain ⟨f, fd, F, hm⟩ := T.f_law_next
  have G := fn_eff (P := P) (w := w) (mg := mg) (base := base) (k := 0) (β := RSt) (R := fun h r => .rng h r) (pre := fun r ds => r.Ok ∧ ∃ n : Nat, ds = [.int (n : Nat)] ∧ 0 < n ∧ n < 1000000000) (post := fun _ ds r' d => r'.Ok ∧ ∃ n r : Nat, ds = [.int (n : Nat)] ∧ r < n ∧ d = .int (r : Nat)) F sc_law_next (fun r ds ⟨_, _, e, _⟩ => by rw [e]; rfl) (t_law_next K A) (fun cdv A0 outer s H E hr => ?_) (fun h r Hb H v fp ⟨_, e, _⟩ => e) (fun C h r ds hK hp => ?_)
  · exact ⟨f, fd, G.imp fun vs H Q E z => draw_of z, hm, F.kp, F.binds fun _ _ _ _ _ _ us hl => match us, hl with | [_, _], _ => rfl⟩
  · exact (pss_cons (ps_set (i := 2) sc_law_next.nd rfl (.inl rfl) (pe_op op_modA (pe_ix ix_seq (pv 0) pe_int (fun _ _ => rfl)) (pe_callB (cr_maxA rfl) (by rfl) T.m_max (by decide +kernel) (pa_cons pe_int (pa_cons (pe_callB cr_lenA (by rfl) T.m_len (by decide +kernel) (pa_cons (pe_ix ix_seq (pv 0) pe_int (fun _ _ => rfl)) pa_nil)) pa_nil)))))
        (pss_cons (ps_set (i := 3) sc_law_next.nd rfl (.inl rfl) (pe_ifExp (pt_cmpR (op_neD hr.units) (pe_ix ix_seq (pv 0) pe_int (fun _ _ => rfl)) (pe_lst pa_nil) (nomark _)) (pe_ix ix_seq (pe_ix ix_seq (pv 0) pe_int (fun _ _ => rfl)) (pv 2) (fun _ _ => rfl)) pe_int))
        (pss_cons (ps_if (pt_cmpR op_geA (pv 3) (pe_op op_powA pe_int pe_int) (nomark _)) (pss_cons (ps_asg (pe_op op_divA (pv 3) (pv 1)) (pg_sub (pe_ix ix_seq (pv 0) pe_int (fun _ _ => rfl)) (pv 2) set_list))
        (pss_one (ps_ret (pe_op op_modA (pv 3) (pv 1))))) pss_nil)
        (pss_cons (ps_asg (pe_op op_modA (pe_op op_addA (pe_op op_addA (pe_op op_mulA (pe_ix ix_seq (pv 0) pe_int (fun _ _ => rfl)) pe_int) (pe_op op_mulA (pv 3) pe_int)) pe_int) pe_int) (pg_sub (pv 0) pe_int set_list))
        (pss_cons (ps_asg (pe_op op_addA (pe_ix ix_seq (pv 0) pe_int (fun _ _ => rfl)) pe_int) (pg_sub (pv 0) pe_int set_list))
        (pss_one (ps_ret (pe_op op_modA (pe_op op_divA (pe_ix ix_seq (pv 0) pe_int (fun _ _ => rfl)) pe_int) (pv 1)))))))))
  · obtain ⟨ok, n, rfl, h1, h2⟩ := hp
    subst hK
    exact ex_mono (rd_law_next ok h1 h2) (fun _ z => z.elim) (fun s ρ ⟨d, r', e, ⟨ok', k, hk, ed⟩, h0⟩ => ⟨d, r', e, ⟨ok', n, k, rfl, hk, ed⟩, h0⟩) (fun _ z => z) (fun _ z => z)
theorem ok_law_alike (T : Txt K w mg A) (n : Nat) (G_law_alike : Callee P w K mg base (n + 0) "_law_alike" ["_law_found", "_law_due_here"] (sp_alikeR K n)) : Callee P w K mg base (n + 0 + 1) "_law_alike" ["_law_found", "_law_due_here"] (sp_alikeN K n) := by
  obtain ⟨f, fd, F, hm⟩ := T.f_law_alike
  refine ⟨f, fd, fn_pure F sc_law_alike (fun ds S ⟨_, ⟨_, e, _⟩, _⟩ => by rw [e]; rfl) (t_law_alike K A (sp_alikeR K n)) (fun cdv A0 outer s H E hr => ?_) (fun C ds S hK hM h => ?_), hm, F.kp, F.binds fun _ _ _ _ _ _ us hl => match us, hl with | [_, _], _ => rfl⟩
  · have hrR := hr
    exact (pss_cons (ps_if (pt_val (pe_callB cr_isiA (by rfl) T.m_isinstance (by decide +kernel) (pa_cons (pv 1) (pa_cons (pe_tup (pa_cons (pe_bltn (v := .ty "tuple") (by rfl) T.m_tuple (by decide +kernel) rfl) (pa_cons (pe_bltn (v := .ty "list") (by rfl) T.m_list (by decide +kernel) rfl) pa_nil))) pa_nil)))) (pss_cons (ps_if (PW.pt (pw_or (pt_not (pt_val (pe_callB cr_isiA (by rfl) T.m_isinstance (by decide +kernel) (pa_cons (pv 0) (pa_cons (pe_tup (pa_cons (pe_bltn (v := .ty "tuple") (by rfl) T.m_tuple (by decide +kernel) rfl) (pa_cons (pe_bltn (v := .ty "list") (by rfl) T.m_list (by decide +kernel) rfl) pa_nil))) pa_nil))))) (pw_or1 (pt_cmpR (op_neD hr.units) (pe_callB cr_isiA (by rfl) T.m_isinstance (by decide +kernel) (pa_cons (pv 0) (pa_cons (pe_bltn (v := .ty "list") (by rfl) T.m_list (by decide +kernel) rfl) pa_nil))) (pe_callB cr_isiA (by rfl) T.m_isinstance (by decide +kernel) (pa_cons (pv 1) (pa_cons (pe_bltn (v := .ty "list") (by rfl) T.m_list (by decide +kernel) rfl) pa_nil))) (nomark _))))) (pss_one (ps_ret pe_bl)) pss_nil)
        (pss_cons (ps_if (pt_cmpR (op_neD hr.units) (pe_callB cr_lenA (by rfl) T.m_len (by decide +kernel) (pa_cons (pv 0) pa_nil)) (pe_callB cr_lenA (by rfl) T.m_len (by decide +kernel) (pa_cons (pv 1) pa_nil)) (nomark _)) (pss_one (ps_ret pe_bl)) pss_nil)
        (pss_one (ps_ret (pe_cmpR (op_eqD hr.units) (pe_lc (own := [("_law_k", 2)]) rfl sc_law_alike.nd (pi_range1 (by rfl) T.m_range (pa_cons (pe_callB cr_lenA (by rfl) T.m_len (by decide +kernel) (pa_cons (pv 1) pa_nil)) pa_nil)) (blkOk_by (N := N_law_alike) (sc := defScope s_law_alike) (by decide +kernel)) (fun _ _ _ _ _ => (pg_name (i := 2) sc_law_alike.nd rfl (.inl rfl))) (fun _ _ _ _ _ => (pts_one (pt_not (pt_val (pe_user G_law_alike hrR (by rfl) (pa_cons (pe_ix ix_seq (pv 0) (pv 2) (fun _ _ => rfl)) (pa_cons (pe_ix ix_seq (pv 1) (pv 2) (fun _ _ => rfl)) pa_nil))))))) (fun _ _ _ _ _ => (pv 2))) (pe_lst pa_nil) (nomark _)))))) pss_nil)
        (pss_cons (ps_if (pt_cmpR op_isA (pv 1) pe_non (nomark _)) (pss_one (ps_ret (pe_cmpR op_isA (pv 0) pe_non (nomark _)))) pss_nil)
        (pss_cons (ps_if (pt_val (pe_callB cr_isiA (by rfl) T.m_isinstance (by decide +kernel) (pa_cons (pv 1) (pa_cons (pe_bltn (v := .ty "str") (by rfl) T.m_str (by decide +kernel) rfl) pa_nil)))) (pss_one (ps_ret (pe_and (pe_callB cr_isiA (by rfl) T.m_isinstance (by decide +kernel) (pa_cons (pv 0) (pa_cons (pe_bltn (v := .ty "str") (by rfl) T.m_str (by decide +kernel) rfl) pa_nil))) (pe_one (pe_cmpR (op_eqD hr.units) (pv 0) (pv 1) (nomark _)))))) pss_nil)
        (pss_cons (ps_if (PW.pt (pw_or (pt_val (pe_callB cr_isiA (by rfl) T.m_isinstance (by decide +kernel) (pa_cons (pv 1) (pa_cons (pe_bltn (v := .ty "bool") (by rfl) T.m_bool (by decide +kernel) rfl) pa_nil)))) (pw_or1 (pt_val (pe_callB cr_isiA (by rfl) T.m_isinstance (by decide +kernel) (pa_cons (pv 0) (pa_cons (pe_bltn (v := .ty "bool") (by rfl) T.m_bool (by decide +kernel) rfl) pa_nil))))))) (pss_one (ps_ret (pe_and (pe_callB cr_isiA (by rfl) T.m_isinstance (by decide +kernel) (pa_cons (pv 1) (pa_cons (pe_bltn (v := .ty "bool") (by rfl) T.m_bool (by decide +kernel) rfl) pa_nil))) (pe_and (pe_callB cr_isiA (by rfl) T.m_isinstance (by decide +kernel) (pa_cons (pv 0) (pa_cons (pe_bltn (v := .ty "bool") (by rfl) T.m_bool (by decide +kernel) rfl) pa_nil))) (pe_one (pe_cmpR (op_eqD hr.units) (pv 0) (pv 1) (nomark _))))))) pss_nil)
        (pss_one (ps_ret (pe_and (pe_callB cr_isiA (by rfl) T.m_isinstance (by decide +kernel) (pa_cons (pv 0) (pa_cons (pe_bltn (v := .ty "int") (by rfl) T.m_int (by decide +kernel) rfl) pa_nil))) (pe_one (pe_cmpR (op_eqD hr.units) (pv 0) (pv 1) (nomark _))))))))))
  · obtain ⟨_, ⟨x, rfl, hx, rfl⟩, rfl⟩ := h
    subst hK
    exact rd_law_alike (A := A) hx
theorem cal_law_alike (T : Txt K w mg A) : ∀ n : Nat, Callee P w K mg base (n + 0 + 1) "_law_alike" ["_law_found", "_law_due_here"] (sp_alikeN K n)
  | 0 => ok_law_alike T 0 (by
    obtain ⟨f, fd, F, hm⟩ := T.f_law_alike
    exact ⟨f, fd, ⟨fun _ _ _ _ z => z.elim, fun _ _ _ _ _ _ _ _ _ _ _ _ _ z => z.elim⟩, hm, F.kp, F.binds fun _ _ _ _ _ _ us hl => match us, hl with | [_, _], _ => rfl⟩)
  | n + 1 => ok_law_alike T (n + 1) (cal_law_alike T n)
theorem ok_law_deed (T : Txt K w mg A) (G_law_next : Callee P w K mg base 1 "_law_next" ["_law_h", "_law_many"] (sp_law_next K A)) : Callee P w K mg base 2 "_law_deed" ["_law_h", "_law_cells"] (sp_law_deed K A) := by
  obtain ⟨f, fd, F, hm⟩ := T.f_law_deed
  refine ⟨f, fd, fn_eff F sc_law_deed (fun _ ds ⟨_, e, _⟩ => by rw [e]; rfl) (t_law_deed K A) (fun cdv A0 outer s H E hr => ?_) rnd_ref (fun C h b ds hK hp => ?_), hm, F.kp, F.binds fun _ _ _ _ _ _ us hl => match us, hl with | [_, _], _ => rfl⟩
  · exact (pss_cons (ps_set (i := 2) sc_law_deed.nd rfl (.inl rfl) (pe_user G_law_next (hr.mono (by decide)) (by rfl) (pa_cons (pv 0) (pa_cons (pv 1) pa_nil))))
        (pss_one (ps_ret (pe_ix ix_seq (pe_lst (pa_cons (pe_tup (pa_cons pe_str (pa_cons (pv 2) pa_nil))) (pa_cons (pe_tup (pa_cons pe_str (pa_cons (pv 2) (pa_cons (pe_user G_law_next (hr.mono (by decide)) (by rfl) (pa_cons (pv 0) (pa_cons pe_int pa_nil))) pa_nil)))) (pa_cons (pe_tup (pa_cons pe_str (pa_cons (pv 2) pa_nil))) (pa_cons (pe_tup (pa_cons pe_str pa_nil)) pa_nil))))) (pe_op op_divA (pe_user G_law_next (hr.mono (by decide)) (by rfl) (pa_cons (pv 0) (pa_cons pe_int pa_nil))) pe_int) (fun _ _ => rfl)))))
  · obtain ⟨n, rfl, h1, h2⟩ := hp
    subst hK
    exact ex_mono (rd_law_deed h1 h2) (fun _ z => z.elim) (fun _ _ z => z) (fun _ z => z) (fun _ z => z)
theorem ok_law_program (T : Txt K w mg A) (G_law_next : Callee P w K mg base 1 "_law_next" ["_law_h", "_law_many"] (sp_law_next K A)) (G_law_deed : Callee P w K mg base 2 "_law_deed" ["_law_h", "_law_cells"] (sp_law_deed K A)) : Callee P w K mg base 3 "_law_program" ["_law_h", "_law_cells", "_law_most"] (sp_law_program K A) := by
  obtain ⟨f, fd, F, hm⟩ := T.f_law_program
  refine ⟨f, fd, fn_eff F sc_law_program (fun _ ds ⟨_, _, e, _⟩ => by rw [e]; rfl) (t_law_program K A) (fun cdv A0 outer s H E hr => ?_) rnd_ref (fun C h b ds hK hp => ?_), hm, F.kp, F.binds fun _ _ _ _ _ _ us hl => match us, hl with | [_, _, _], _ => rfl⟩
  · exact (pss_one (ps_ret (pe_lc (own := [("_law_k", 3)]) rfl sc_law_program.nd (pi_range1 (by rfl) T.m_range (pa_cons (pe_user G_law_next (hr.mono (by decide)) (by rfl) (pa_cons (pv 0) (pa_cons (pe_op op_addA (pv 2) pe_int) pa_nil))) pa_nil)) (blkOk_by (N := N_law_program) (sc := defScope s_law_program) (by decide +kernel)) (fun _ _ _ _ _ => (pg_name (i := 3) sc_law_program.nd rfl (.inl rfl))) (fun _ _ _ _ _ => pts_nil) (fun _ _ _ _ _ => (pe_user G_law_deed (hr.mono (by decide)) (by rfl) (pa_cons (pv 0) (pa_cons (pv 1) pa_nil)))))))
  · obtain ⟨n, m, rfl, h1, h2, h3⟩ := hp
    subst hK
    exact ex_mono (rd_law_program h1 h2 h3) (fun _ z => z.elim) (fun _ _ z => z) (fun _ z => z) (fun _ z => z)
theorem ok_law_text (T : Txt K w mg A) : Callee P w K mg base 1 "_law_text" ["_law_left", "_law_right"] (sp_law_text K A) := by
  obtain ⟨f, fd, F, hm⟩ := T.f_law_text
  refine ⟨f, fd, fn_pure F sc_law_text (fun ds S ⟨_, ⟨_, _, e, _⟩, _⟩ => by rw [e]; rfl) (t_law_text K A) (fun cdv A0 outer s H E hr => ?_) (fun C ds S hK hM h => ?_), hm, F.kp, F.binds fun _ _ _ _ _ _ us hl => match us, hl with | [_, _], _ => rfl⟩
  · exact (pss_cons (ps_set (i := 2) sc_law_text.nd rfl (.inl rfl) (pe_lst pa_nil))
        (pss_cons (ps_for PassesOwn.never rfl (pi_tup (pe_tup (pa_cons (pv 0) (pa_cons (pv 1) pa_nil)))) (pg_name (i := 3) sc_law_text.nd rfl (.inl rfl)) (pss_cons (ps_set (i := 4) sc_law_text.nd rfl (.inl rfl) (pe_lst pa_nil))
        (pss_cons (ps_for PassesOwn.never rfl (pi_list (pv 3)) (pg_name (i := 5) sc_law_text.nd rfl (.inl rfl)) (pss_one (ps_expr (pe_bm PySem.F.plainAttrs_list PySem.F.slot_list_append PySem.F.type_list_append mt_append (pv 4) (pa_cons (pe_op op_addA (pe_dget hr.u1 (pe_disp (pps_cons pe_str pe_str (pps_cons pe_str pe_str (pps_cons pe_str pe_str pps_nil))) rfl rfl (fun z => nomatch z) (by decide)) (pe_ix ix_seq (pv 5) pe_int (fun _ _ => rfl)) (fun _ _ => rfl)) (pe_bm PySem.F.plainAttrs_str PySem.F.slot_str_join PySem.F.type_str_join mt_join pe_str (pa_cons (pe_lc (own := [("_law_one", 6)]) rfl sc_law_text.nd (pi_tup (pe_slice sl_any (pv 5) (po_some pe_int) po_none)) (blkOk_by (N := N_law_text) (sc := defScope s_law_text) (by decide +kernel)) (fun _ _ _ _ _ => (pg_name (i := 6) sc_law_text.nd rfl (.inl rfl))) (fun _ _ _ _ _ => pts_nil) (fun _ _ _ _ _ => (pe_callTy call_strA (by rfl) T.m_str (by decide +kernel) (pa_cons (pv 6) pa_nil)))) pa_nil))) pa_nil)))))
        (pss_one (ps_expr (pe_bm PySem.F.plainAttrs_list PySem.F.slot_list_append PySem.F.type_list_append mt_append (pv 2) (pa_cons (pe_bm PySem.F.plainAttrs_str PySem.F.slot_str_join PySem.F.type_str_join mt_join pe_str (pa_cons (pv 4) pa_nil)) pa_nil)))))))
        (pss_one (ps_ret (pe_bm PySem.F.plainAttrs_str PySem.F.slot_str_join PySem.F.type_str_join mt_join pe_str (pa_cons (pv 2) pa_nil))))))
  · obtain ⟨_, ⟨l, r, rfl, h1, h2, h3, h4, rfl⟩, rfl⟩ := h
    subst hK
    exact rd_law_text h1 h2 h3 h4
theorem ok_law_word (T : Txt K w mg A) : Callee P w K mg base 1 "_law_word" ["_law_word_here"] (sp_law_word K A) := by
  obtain ⟨f, fd, F, hm⟩ := T.f_law_word
  refine ⟨f, fd, fn_pure F sc_law_word (fun ds S ⟨_, ⟨_, e, _⟩, _⟩ => by rw [e]; rfl) (t_law_word K A) (fun cdv A0 outer s H E hr => ?_) (fun C ds S hK hM h => ?_), hm, F.kp, F.binds fun _ _ _ _ _ _ us hl => match us, hl with | [_], _ => rfl⟩
  · exact (pss_cons (ps_set (i := 1) sc_law_word.nd rfl (.inl rfl) (pe_disp (pps_cons pe_str (pe_tup (pa_cons pe_str pa_nil)) pps_nil) rfl rfl (fun z => nomatch z) (by decide)))
        (pss_cons (ps_for PassesOwn.never rfl (pi_range1 (by rfl) T.m_range (pa_cons pe_int pa_nil)) (pg_name (i := 2) sc_law_word.nd rfl (.inl rfl)) (pss_cons (ps_dput (hu_of hr) (pv 1) (pe_op op_addA pe_str (pe_callTy call_strA (by rfl) T.m_str (by decide +kernel) (pa_cons (pv 2) pa_nil))) (pe_tup (pa_cons pe_str (pa_cons (pv 2) pa_nil))) rfl)
        (pss_one (ps_for PassesOwn.never rfl (pi_range1 (by rfl) T.m_range (pa_cons pe_int pa_nil)) (pg_name (i := 3) sc_law_word.nd rfl (.inl rfl)) (pss_one (ps_dput (hu_of hr) (pv 1) (pe_op op_addA (pe_op op_addA pe_str (pe_callTy call_strA (by rfl) T.m_str (by decide +kernel) (pa_cons (pv 2) pa_nil))) (pe_callTy call_strA (by rfl) T.m_str (by decide +kernel) (pa_cons (pv 3) pa_nil))) (pe_tup (pa_cons pe_str (pa_cons (pv 2) (pa_cons (pv 3) pa_nil)))) rfl))))))
        (pss_one (ps_ret (pe_dget1 (hu_of hr) (pv 1) (pv 0) ⟨by rfl, by rfl, by rfl, by rfl⟩)))))
  · obtain ⟨_, ⟨l, rfl, rfl⟩, rfl⟩ := h
    subst hK
    exact rd_law_word
theorem ok_law_due (T : Txt K w mg A) (G_law_word : Callee P w K mg base 1 "_law_word" ["_law_word_here"] (sp_law_word K A)) : Callee P w K mg base 2 "_law_due" ["_law_text_here"] (sp_law_due12 K A) := by
  obtain ⟨f, fd, F, hm⟩ := T.f_law_due
  refine ⟨f, fd, fn_pure F sc_law_due (fun ds S ⟨_, ⟨_, e, _⟩, _⟩ => by rw [e]; rfl) (t_law_due12 K A) (fun cdv A0 outer s H E hr => ?_) (fun C ds S hK hM h => ?_), hm, F.kp, F.binds fun _ _ _ _ _ _ us hl => match us, hl with | [_], _ => rfl⟩
  · exact (pss_cons (ps_set (i := 1) sc_law_due.nd rfl (.inl rfl) (pe_bm PySem.F.plainAttrs_str PySem.F.slot_str_split PySem.F.type_str_split mt_split (pv 0) (pa_cons pe_str pa_nil)))
        (pss_cons (ps_set (i := 2) sc_law_due.nd rfl (.inl rfl) (pe_lst pa_nil))
        (pss_cons (ps_for PassesOwn.never rfl (pi_range1 (by rfl) T.m_range (pa_cons (pe_callB (cr_minA rfl) (by rfl) T.m_min (by decide +kernel) (pa_cons pe_int (pa_cons (pe_callB cr_lenA (by rfl) T.m_len (by decide +kernel) (pa_cons (pv 1) pa_nil)) pa_nil))) pa_nil)) (pg_name (i := 3) sc_law_due.nd rfl (.inl rfl)) (pss_cons (ps_set (i := 4) sc_law_due.nd rfl (.inl rfl) (pe_ifExp (pt_cmpR (op_neD hr.units) (pe_ix ix_seq (pv 1) (pv 3) (fun _ _ => rfl)) pe_str (nomark _)) (pe_bm PySem.F.plainAttrs_str PySem.F.slot_str_split PySem.F.type_str_split mt_split (pe_ix ix_seq (pv 1) (pv 3) (fun _ _ => rfl)) (pa_cons pe_str pa_nil)) (pe_lst pa_nil)))
        (pss_cons (ps_set (i := 5) sc_law_due.nd rfl (.inr rfl) (pe_slice sl_any (pe_lc (own := [("_law_word_here", 6)]) rfl sc_law_due.nd (pi_list (pv 4)) (blkOk_by (N := N_law_due) (sc := defScope s_law_due) (by decide +kernel)) (fun _ _ _ _ _ => (pg_name (i := 6) sc_law_due.nd rfl (.inl rfl))) (fun _ _ _ _ _ => pts_nil) (fun _ _ _ _ _ => (pe_user G_law_word (hr.mono (by decide)) (by rfl) (pa_cons (pv 6) pa_nil)))) po_none (po_some pe_int)))
        (pss_cons (ps_setLc (i := 7) (own := [("_law_place", 8)]) rfl sc_law_due.nd rfl rfl (sw_true rfl rfl rfl (by decide +kernel)) (pi_range1 (by rfl) T.m_range (pa_cons (pe_callB cr_lenA (by rfl) T.m_len (by decide +kernel) (pa_cons (pv 5) pa_nil)) pa_nil)) (blkOk_by (N := N_law_due) (sc := defScope s_law_due) (by decide +kernel)) (fun _ _ _ _ _ => (pg_name (i := 8) sc_law_due.nd rfl (.inl rfl))) (fun _ _ _ _ _ => (pts_one (PW.pt (pw_or (pt_cmpR op_isA (pe_ix ix_seq (pv 5) (pv 8) (fun _ _ => rfl)) pe_non (nomark _)) (pw_or1 (pt_cmpR (op_eqD hr.units) (pv 8) pe_int (nomark _))))))) (fun _ _ _ _ _ => (pv 8)))
        (pss_cons (ps_if (pt_cmpR (op_neD hr.units) (pv 7) (pe_lst pa_nil) (nomark _)) (pss_one (ps_ret (pe_tup (pa_cons pe_str (pa_cons (pv 3) (pa_cons (pe_ix ix_seq (pv 7) pe_int (fun _ _ => rfl)) pa_nil)))))) pss_nil)
        (pss_one (ps_expr (pe_bm PySem.F.plainAttrs_list PySem.F.slot_list_append PySem.F.type_list_append mt_append (pv 2) (pa_cons (pv 5) pa_nil)))))))))
        (pss_cons (ps_if (pt_cmpR (op_neD hr.units) (pe_callB cr_lenA (by rfl) T.m_len (by decide +kernel) (pa_cons (pv 1) pa_nil)) pe_int (nomark _)) (pss_one (ps_ret (pe_tup (pa_cons pe_str (pa_cons (pe_ix ix_seq (pe_lst (pa_cons pe_int (pa_cons pe_int pa_nil))) (pe_callTy cr_intA (by rfl) T.m_int (by decide +kernel) (pa_cons (pe_cmpR op_gtA (pe_callB cr_lenA (by rfl) T.m_len (by decide +kernel) (pa_cons (pv 1) pa_nil)) pe_int (nomark _)) pa_nil)) (fun _ _ => rfl)) (pa_cons pe_int pa_nil)))))) pss_nil)
        (pss_one (ps_ret (pe_tup (pa_cons (pe_ix ix_seq (pv 2) pe_int (fun _ _ => rfl)) (pa_cons (pe_ix ix_seq (pv 2) pe_int (fun _ _ => rfl)) pa_nil)))))))))
  · obtain ⟨_, ⟨l, rfl, h1, h2, rfl⟩, rfl⟩ := h
    subst hK
    exact rd_law_due12 h1 h2
theorem ok_law_told (T : Txt K w mg A) (G_read : CalleeX P w K mg base 4 "read" ["text"] (sp_readX K A)) : Callee P w K mg base 5 "_law_told" ["_law_text_here"] (sp_law_told K A) := by
  obtain ⟨f, fd, F, hm⟩ := T.f_law_told
  refine ⟨f, fd, fn_pure F sc_law_told (fun ds S ⟨_, ⟨_, e, _⟩, _⟩ => by rw [e]; rfl) (t_law_told K A) (fun cdv A0 outer s H E hr => ?_) (fun C ds S hK hM h => ?_), hm, F.kp, F.binds fun _ _ _ _ _ _ us hl => match us, hl with | [_], _ => rfl⟩
  · exact (pss_one (ps_try_as (i := 1) rfl rfl sc_law_told.nd rfl rfl ⟨by rfl, by decide, .inl T.c_DoorError⟩ takes0 (fun W pn xe tk _ => pss_one (ps_ret (pe_userX G_read (hr.mono (by decide)) (by rfl) (fun σ => passAt tk σ) (pa_cons (pv 0) pa_nil)))) (fun a oe cls d pn hz hf => (pss_cons (ps_set (i := 2) sc_law_told.nd rfl (.inl rfl) (pe_callB (call_isY T.e_BadText hz hf) (by rfl) T.m_isinstance (by decide +kernel) (pa_cons (pv 1) (pa_cons (pe_tup (pa_cons (pe_gref T.c_BadMemory (by rfl)) (pa_cons (pe_gref T.c_BadOrder (by rfl)) (pa_cons (pe_gref T.c_BadProgram (by rfl)) (pa_cons (pe_gref T.c_BadRule (by rfl)) (pa_cons (pe_gref T.c_TooMany (by rfl)) pa_nil)))))) pa_nil))))
        (pss_cons (ps_if (PW.pt (pw_or (pt_not (pt_val (pe_callB (call_isY T.e_BadText hz hf) (by rfl) T.m_isinstance (by decide +kernel) (pa_cons (pv 1) (pa_cons (pe_gref T.c_BadText (by rfl)) pa_nil))))) (pw_or (pt_not (pt_val (pe_callB (call_isY T.e_BadText hz hf) (by rfl) T.m_isinstance (by decide +kernel) (pa_cons (pv 1) (pa_cons (pe_bltn (v := .ty "ValueError") (by rfl) T.m_ValueError (by decide +kernel) rfl) pa_nil))))) (pw_or1 (pt_val (pv 2)))))) (pss_one (ps_ret (pe_tup (pa_cons pe_str (pa_cons pe_int (pa_cons pe_int pa_nil)))))) pss_nil)
        (pss_one (ps_ret (pe_tup (pa_cons pe_str (pa_cons (pe_xf T.x_BadText T.n_row hz hf (pv 1)) (pa_cons (pe_xf T.x_BadText T.n_place hz hf (pv 1)) pa_nil)))))))))))
  · obtain ⟨_, ⟨l, rfl, h1, h2, rfl⟩, rfl⟩ := h
    subst hK
    exact rd_law_told T.o_text h1 h2
theorem ok_law_changed (T : Txt K w mg A) (G_law_next : Callee P w K mg base 1 "_law_next" ["_law_h", "_law_many"] (sp_law_next K A)) : Callee P w K mg base 2 "_law_changed" ["_law_h", "_law_text_here"] (sp_law_changed K A) := by
  obtain ⟨f, fd, F, hm⟩ := T.f_law_changed
  refine ⟨f, fd, fn_eff F sc_law_changed (fun _ ds ⟨_, e, _⟩ => by rw [e]; rfl) (t_law_changed K A) (fun cdv A0 outer s H E hr => ?_) rnd_ref (fun C h b ds hK hp => ?_), hm, F.kp, F.binds fun _ _ _ _ _ _ us hl => match us, hl with | [_, _], _ => rfl⟩
  · exact (pss_cons (ps_set (i := 2) sc_law_changed.nd rfl (.inl rfl) (pe_user G_law_next (hr.mono (by decide)) (by rfl) (pa_cons (pv 0) (pa_cons pe_int pa_nil))))
        (pss_cons (ps_set (i := 3) sc_law_changed.nd rfl (.inl rfl) (pe_user G_law_next (hr.mono (by decide)) (by rfl) (pa_cons (pv 0) (pa_cons (pe_op op_addA (pe_callB cr_lenA (by rfl) T.m_len (by decide +kernel) (pa_cons (pv 1) pa_nil)) pe_int) pa_nil))))
        (pss_cons (ps_set (i := 4) sc_law_changed.nd rfl (.inl rfl) (pe_ix ix_seq pe_str (pe_user G_law_next (hr.mono (by decide)) (by rfl) (pa_cons (pv 0) (pa_cons pe_int pa_nil))) (fun _ _ => rfl)))
        (pss_cons (ps_if (pt_cmpR op_ltA (pv 2) pe_int (nomark _)) (pss_one (ps_ret (pe_op op_addA (pe_op op_addA (pe_slice sl_any (pv 1) po_none (po_some (pv 3))) (pe_ix ix_seq (pe_lst (pa_cons (pv 4) (pa_cons pe_str (pa_cons (pv 4) pa_nil)))) (pv 2) (fun _ _ => rfl))) (pe_slice sl_any (pv 1) (po_some (pe_op op_addA (pv 3) (pe_callTy cr_intA (by rfl) T.m_int (by decide +kernel) (pa_cons (pe_cmpR op_gtA (pv 2) pe_int (nomark _)) pa_nil)))) po_none)))) pss_nil)
        (pss_cons (ps_set (i := 5) sc_law_changed.nd rfl (.inl rfl) (pe_bm PySem.F.plainAttrs_str PySem.F.slot_str_split PySem.F.type_str_split mt_split (pv 1) (pa_cons pe_str pa_nil)))
        (pss_cons (ps_set (i := 6) sc_law_changed.nd rfl (.inl rfl) (pe_user G_law_next (hr.mono (by decide)) (by rfl) (pa_cons (pv 0) (pa_cons (pe_callB cr_lenA (by rfl) T.m_len (by decide +kernel) (pa_cons (pv 5) pa_nil)) pa_nil))))
        (pss_cons (ps_if (pt_cmpR op_ltA (pv 2) pe_int (nomark _)) (pss_cons (ps_set (i := 7) sc_law_changed.nd rfl (.inl rfl) (pe_lst (pa_cons (pe_op op_addA (pe_slice sl_any (pv 5) po_none (po_some (pv 6))) (pe_slice sl_any (pv 5) (po_some (pe_op op_addA (pv 6) pe_int)) po_none)) (pa_cons (pe_op op_addA (pe_op op_addA (pe_slice sl_any (pv 5) po_none (po_some (pv 6))) (pe_slice sl_any (pv 5) (po_some (pv 6)) (po_some (pe_op op_addA (pv 6) pe_int)))) (pe_slice sl_any (pv 5) (po_some (pv 6)) po_none)) (pa_cons (pe_op op_addA (pe_slice sl_any (pv 5) (po_some (pv 6)) po_none) (pe_slice sl_any (pv 5) po_none (po_some (pv 6)))) pa_nil)))))
        (pss_one (ps_ret (pe_bm PySem.F.plainAttrs_str PySem.F.slot_str_join PySem.F.type_str_join mt_join pe_str (pa_cons (pe_ix ix_seq (pv 7) (pe_op op_subA (pv 2) pe_int) (fun _ _ => rfl)) pa_nil))))) pss_nil)
        (pss_cons (ps_set (i := 8) sc_law_changed.nd rfl (.inl rfl) (pe_bm PySem.F.plainAttrs_str PySem.F.slot_str_split PySem.F.type_str_split mt_split (pe_ix ix_seq (pv 5) (pv 6) (fun _ _ => rfl)) (pa_cons pe_str pa_nil)))
        (pss_cons (ps_set (i := 9) sc_law_changed.nd rfl (.inl rfl) (pe_user G_law_next (hr.mono (by decide)) (by rfl) (pa_cons (pv 0) (pa_cons (pe_callB cr_lenA (by rfl) T.m_len (by decide +kernel) (pa_cons (pv 8) pa_nil)) pa_nil))))
        (pss_cons (ps_set (i := 10) sc_law_changed.nd rfl (.inl rfl) (pe_ix ix_seq (pe_lst (pa_cons pe_str (pa_cons pe_str (pa_cons pe_str (pa_cons pe_str (pa_cons pe_str (pa_cons pe_str (pa_cons pe_str (pa_cons pe_str (pa_cons pe_str (pa_cons pe_str (pa_cons pe_str (pa_cons pe_str (pa_cons pe_str pa_nil)))))))))))))) (pe_user G_law_next (hr.mono (by decide)) (by rfl) (pa_cons (pv 0) (pa_cons pe_int pa_nil))) (fun _ _ => rfl)))
        (pss_cons (ps_set (i := 8) sc_law_changed.nd rfl (.inl rfl) (pe_op op_addA (pe_op op_addA (pe_slice sl_any (pv 8) po_none (po_some (pv 9))) (pe_ix ix_seq (pe_lst (pa_cons (pe_lst pa_nil) (pa_cons (pe_op op_mulA (pe_lst (pa_cons (pe_ix ix_seq (pv 8) (pv 9) (fun _ _ => rfl)) pa_nil)) (pe_ix ix_seq (pe_lst (pa_cons pe_int (pa_cons pe_int pa_nil))) (pe_user G_law_next (hr.mono (by decide)) (by rfl) (pa_cons (pv 0) (pa_cons pe_int pa_nil))) (fun _ _ => rfl))) (pa_cons (pe_lst (pa_cons (pv 10) pa_nil)) pa_nil)))) (pe_op op_subA (pv 2) pe_int) (fun _ _ => rfl))) (pe_slice sl_any (pv 8) (po_some (pe_op op_addA (pv 9) pe_int)) po_none)))
        (pss_one (ps_ret (pe_bm PySem.F.plainAttrs_str PySem.F.slot_str_join PySem.F.type_str_join mt_join pe_str (pa_cons (pe_op op_addA (pe_op op_addA (pe_slice sl_any (pv 5) po_none (po_some (pv 6))) (pe_lst (pa_cons (pe_bm PySem.F.plainAttrs_str PySem.F.slot_str_join PySem.F.type_str_join mt_join pe_str (pa_cons (pv 8) pa_nil)) pa_nil))) (pe_slice sl_any (pv 5) (po_some (pe_op op_addA (pv 6) pe_int)) po_none)) pa_nil)))))))))))))))
  · obtain ⟨l, rfl, h1, h2⟩ := hp
    subst hK
    exact ex_mono (rd_law_changed h1 h2) (fun _ z => z.elim) (fun _ _ z => z) (fun _ z => z) (fun _ z => z)
theorem ok_law {f : Addr} {fd : FuncData} (F : Fun K "law" "law" s_law f fd) (T : Txt K w mg A) (G_law_mix : Callee P w K mg base 1 "_law_mix" ["_law_script", "_law_seed"] (sp_law_mix K A)) (G_law_program : Callee P w K mg base 3 "_law_program" ["_law_h", "_law_cells", "_law_most"] (sp_law_program K A)) (G_law_next : Callee P w K mg base 1 "_law_next" ["_law_h", "_law_many"] (sp_law_next K A)) (G_law_text : Callee P w K mg base 1 "_law_text" ["_law_left", "_law_right"] (sp_law_text K A)) (G_law_changed : Callee P w K mg base 2 "_law_changed" ["_law_h", "_law_text_here"] (sp_law_changed K A)) (G_law_due : Callee P w K mg base 2 "_law_due" ["_law_text_here"] (sp_law_due12 K A)) (G_law_told : Callee P w K mg base 5 "_law_told" ["_law_text_here"] (sp_law_told K A)) (G_law_alike : Callee P w K mg base 9 "_law_alike" ["_law_found", "_law_due_here"] (sp_law_alike K A)) : FnOk P w K mg base CX0 10 f fd ["_law_script"] (sp_law K A) := by
  refine fn_scr F sc_law (fun ns ds ⟨e, _⟩ => by rw [e]; rfl) (t_law12 K A) (fun cdv A0 outer s H E hr => ?_) (fun C a ns ds hK hM h => ?_)
  · exact (pss_cons (ps_set (i := 1) sc_law.nd rfl (.inl rfl) (pe_user G_law_mix (hr.mono (by decide)) (by rfl) (pa_cons (pv 0) (pa_cons pe_int pa_nil))))
        (pss_cons (ps_set (i := 2) sc_law.nd rfl (.inl rfl) (pe_lst (pa_cons pe_str (pa_cons pe_str (pa_cons pe_str (pa_cons pe_str (pa_cons pe_str (pa_cons pe_str (pa_cons pe_str (pa_cons pe_str (pa_cons pe_str (pa_cons pe_str (pa_cons pe_str pa_nil)))))))))))))
        (pss_cons (ps_expr (pe_bm PySem.F.plainAttrs_list PySem.F.slot_list_append PySem.F.type_list_append mt_append (pv 2) (pa_cons (pe_op op_addA (pe_op op_addA pe_str (pe_op op_mulA pe_str pe_int)) pe_str) pa_nil)))
        (pss_cons (ps_for PassesOwn.never rfl (pi_range1 (by rfl) T.m_range (pa_cons pe_int pa_nil)) (pg_name (i := 3) sc_law.nd rfl (.inl rfl)) (pss_cons (ps_set (i := 4) sc_law.nd rfl (.inl rfl) (pe_user G_law_text (hr.mono (by decide)) (by rfl) (pa_cons (pe_user G_law_program (hr.mono (by decide)) (by rfl) (pa_cons (pv 1) (pa_cons pe_int (pa_cons (pe_ix ix_seq (pe_lst (pa_cons pe_int (pa_cons pe_int pa_nil))) (pe_user G_law_next (hr.mono (by decide)) (by rfl) (pa_cons (pv 1) (pa_cons pe_int pa_nil))) (fun _ _ => rfl)) pa_nil)))) (pa_cons (pe_user G_law_program (hr.mono (by decide)) (by rfl) (pa_cons (pv 1) (pa_cons pe_int (pa_cons pe_int pa_nil)))) pa_nil))))
        (pss_cons (ps_for PassesOwn.never rfl (pi_range1 (by rfl) T.m_range (pa_cons (pe_user G_law_next (hr.mono (by decide)) (by rfl) (pa_cons (pv 1) (pa_cons pe_int pa_nil))) pa_nil)) (pg_name (i := 5) sc_law.nd rfl (.inl rfl)) (pss_one (ps_set (i := 4) sc_law.nd rfl (.inl rfl) (pe_user G_law_changed (hr.mono (by decide)) (by rfl) (pa_cons (pv 1) (pa_cons (pv 4) pa_nil))))))
        (pss_one (ps_for PassesOwn.never rfl (pi_list (pe_lst (pa_cons (pv 4) (pa_cons (pe_ix ix_seq (pv 2) (pe_user G_law_next (hr.mono (by decide)) (by rfl) (pa_cons (pv 1) (pa_cons pe_int pa_nil))) (fun _ _ => rfl)) pa_nil)))) (pg_name (i := 6) sc_law.nd rfl (.inl rfl)) (pss_one (ps_for PassesOwn.never rfl (pi_range1 (by rfl) T.m_range (pa_cons pe_int pa_nil)) (pg_name (i := 7) sc_law.nd rfl (.inl rfl)) (pss_one (ps_if (pt_not (pt_val (pe_user G_law_alike (hr.mono (by decide)) (by rfl) (pa_cons (pe_user G_law_told (hr.mono (by decide)) (by rfl) (pa_cons (pv 6) pa_nil)) (pa_cons (pe_user G_law_due (hr.mono (by decide)) (by rfl) (pa_cons (pv 6) pa_nil)) pa_nil))))) (pss_one (ps_ret pe_bl)) pss_nil)))))))))
        (pss_one (ps_ret pe_bl))))))
  · obtain ⟨rfl, h1, h2⟩ := h
    subst hK
    exact rd_law12 h1 h2
theorem all_ok {f : Addr} {fd : FuncData} (F : Fun K "law" "law" s_law f fd) (T : Txt K w mg A) : FnOk P w K mg base CX0 10 f fd ["_law_script"] (sp_law K A) := by
  have G_BadText_init := ok_BadText_init (P := P) (base := base) T
  have G_deed_of := ok_deed_of (P := P) (base := base) T
  have G_program_of := ok_program_of (P := P) (base := base) T G_deed_of G_BadText_init
  have G_read := ok_read (P := P) (base := base) T G_program_of G_BadText_init
  have G_law_mix := ok_law_mix (P := P) (base := base) T
  have G_law_next := ok_law_next (P := P) (base := base) T
  have G_law_alike : Callee P w K mg base 9 "_law_alike" ["_law_found", "_law_due_here"] (sp_law_alike K A) := cal_law_alike T 8
  have G_law_deed := ok_law_deed (P := P) (base := base) T G_law_next
  have G_law_program := ok_law_program (P := P) (base := base) T G_law_next G_law_deed
  have G_law_text := ok_law_text (P := P) (base := base) T
  have G_law_word := ok_law_word (P := P) (base := base) T
  have G_law_due := ok_law_due (P := P) (base := base) T G_law_word
  have G_law_told := ok_law_told (P := P) (base := base) T G_read
  have G_law_changed := ok_law_changed (P := P) (base := base) T G_law_next
  exact ok_law F T G_law_mix G_law_program G_law_next G_law_text G_law_changed G_law_due G_law_told G_law_alike
end
theorem all_mk {P : Program} {w : World} {K : PySem.W.Frag} {h : Heap} {mg : Str → Option Value} {fa : Addr} (X : K.In h) (G : h.Ns mainGlobals mg) (hfa : mg "law" = some (.ref fa))
    {tk_MOST_DEEDS : Tok}
    {a_REST : Addr}
    {tk_REST_0 : Tok}
    {n_REST : Nat} {dd_REST : Option Addr} {sl_REST : Array (Option Value)}
    {tk_CELLS : Tok}
    {tk_SIGNS : Tok}
    {tk_GAP : Tok}
    {a_BadText : Addr}
    {a_DoorError : Addr}
    {a_BadMemory : Addr}
    {a_BadProgram : Addr}
    {a_BadRule : Addr}
    {a_BadOrder : Addr}
    {a_TooMany : Addr}
    {xnm xq : Str} {xN : Addr} {xbs : List Value} {xsn : List Str} {xsub : List Value} {xab : Bool} {xcol : Option Bool} {xdd : Option Addr} {xm0 xm1 xm2 xm3 xm5 : Option Value}
    {f_BadText_init : Addr} {od_BadText_init an_BadText_init : Option Addr} {sl_BadText_init : Array (Option Value)} {oc_BadText_init kV_BadText_init dc_BadText_init pm_BadText_init cd_BadText_init ct_BadText_init : Value}
    {f_deed_of : Addr} {od_deed_of an_deed_of : Option Addr} {sl_deed_of : Array (Option Value)} {oc_deed_of kV_deed_of dc_deed_of pm_deed_of cd_deed_of ct_deed_of : Value}
    {f_program_of : Addr} {od_program_of an_program_of : Option Addr} {sl_program_of : Array (Option Value)} {oc_program_of kV_program_of dc_program_of pm_program_of cd_program_of ct_program_of : Value}
    {f_read : Addr} {od_read an_read : Option Addr} {sl_read : Array (Option Value)} {oc_read kV_read dc_read pm_read cd_read ct_read : Value}
    {f_law_mix : Addr} {od_law_mix an_law_mix : Option Addr} {sl_law_mix : Array (Option Value)} {oc_law_mix kV_law_mix dc_law_mix pm_law_mix cd_law_mix ct_law_mix : Value}
    {f_law_next : Addr} {od_law_next an_law_next : Option Addr} {sl_law_next : Array (Option Value)} {oc_law_next kV_law_next dc_law_next pm_law_next cd_law_next ct_law_next : Value}
    {f_law_alike : Addr} {od_law_alike an_law_alike : Option Addr} {sl_law_alike : Array (Option Value)} {oc_law_alike kV_law_alike dc_law_alike pm_law_alike cd_law_alike ct_law_alike : Value}
    {f_law_deed : Addr} {od_law_deed an_law_deed : Option Addr} {sl_law_deed : Array (Option Value)} {oc_law_deed kV_law_deed dc_law_deed pm_law_deed cd_law_deed ct_law_deed : Value}
    {f_law_program : Addr} {od_law_program an_law_program : Option Addr} {sl_law_program : Array (Option Value)} {oc_law_program kV_law_program dc_law_program pm_law_program cd_law_program ct_law_program : Value}
    {f_law_text : Addr} {od_law_text an_law_text : Option Addr} {sl_law_text : Array (Option Value)} {oc_law_text kV_law_text dc_law_text pm_law_text cd_law_text ct_law_text : Value}
    {f_law_word : Addr} {od_law_word an_law_word : Option Addr} {sl_law_word : Array (Option Value)} {oc_law_word kV_law_word dc_law_word pm_law_word cd_law_word ct_law_word : Value}
    {f_law_due : Addr} {od_law_due an_law_due : Option Addr} {sl_law_due : Array (Option Value)} {oc_law_due kV_law_due dc_law_due pm_law_due cd_law_due ct_law_due : Value}
    {f_law_told : Addr} {od_law_told an_law_told : Option Addr} {sl_law_told : Array (Option Value)} {oc_law_told kV_law_told dc_law_told pm_law_told cd_law_told ct_law_told : Value}
    {f_law_changed : Addr} {od_law_changed an_law_changed : Option Addr} {sl_law_changed : Array (Option Value)} {oc_law_changed kV_law_changed dc_law_changed pm_law_changed cd_law_changed ct_law_changed : Value}
    {f_law : Addr} {od_law an_law : Option Addr} {sl_law : Array (Option Value)} {oc_law kV_law dc_law pm_law cd_law ct_law : Value}
    (z_ValueError : PySem.W.nsIn K mainGlobals "ValueError" = some none)
    (z_bool : PySem.W.nsIn K mainGlobals "bool" = some none)
    (z_enumerate : PySem.W.nsIn K mainGlobals "enumerate" = some none)
    (z_int : PySem.W.nsIn K mainGlobals "int" = some none)
    (z_isinstance : PySem.W.nsIn K mainGlobals "isinstance" = some none)
    (z_len : PySem.W.nsIn K mainGlobals "len" = some none)
    (z_list : PySem.W.nsIn K mainGlobals "list" = some none)
    (z_max : PySem.W.nsIn K mainGlobals "max" = some none)
    (z_min : PySem.W.nsIn K mainGlobals "min" = some none)
    (z_range : PySem.W.nsIn K mainGlobals "range" = some none)
    (z_str : PySem.W.nsIn K mainGlobals "str" = some none)
    (z_tuple : PySem.W.nsIn K mainGlobals "tuple" = some none)
    (g_MOST_DEEDS : PySem.W.nsIn K mainGlobals "MOST_DEEDS" = some (some (.int 40 tk_MOST_DEEDS)))
    (g_REST : PySem.W.nsIn K mainGlobals "REST" = some (some (.ref a_REST)))
    (l_REST : K.lookup a_REST = some ⟨.type "tuple", dd_REST, .seq #[.str "rest" tk_REST_0] n_REST, sl_REST⟩)
    (g_CELLS : PySem.W.nsIn K mainGlobals "CELLS" = some (some (.str "0123" tk_CELLS)))
    (g_SIGNS : PySem.W.nsIn K mainGlobals "SIGNS" = some (some (.str "012" tk_SIGNS)))
    (g_GAP : PySem.W.nsIn K mainGlobals "GAP" = some (some (.str "-" tk_GAP)))
    (g_BadText : PySem.W.nsIn K mainGlobals "BadText" = some (some (.ref a_BadText)))
    (g_DoorError : PySem.W.nsIn K mainGlobals "DoorError" = some (some (.ref a_DoorError)))
    (g_BadMemory : PySem.W.nsIn K mainGlobals "BadMemory" = some (some (.ref a_BadMemory)))
    (g_BadProgram : PySem.W.nsIn K mainGlobals "BadProgram" = some (some (.ref a_BadProgram)))
    (g_BadRule : PySem.W.nsIn K mainGlobals "BadRule" = some (some (.ref a_BadRule)))
    (g_BadOrder : PySem.W.nsIn K mainGlobals "BadOrder" = some (some (.ref a_BadOrder)))
    (g_TooMany : PySem.W.nsIn K mainGlobals "TooMany" = some (some (.ref a_TooMany)))
    (xL : K.lookup a_BadText = some (PySem.excClassObj xnm xq a_BadText xN xbs [.ref a_DoorError, .type "ValueError", .type "Exception", .type "BaseException", .type "object"] true xsn xsub xab xcol xdd xm0 xm1 xm2 xm3 xm5 "ValueError.__new__"))
    (x_sa : PySem.W.findIn K (.ref a_BadText) "__setattr__" = some (some (.builtin "object.__setattr__")))
    (x_ga : PySem.W.findIn K (.ref a_BadText) "__getattribute__" = some (some (.builtin "BaseException.__getattribute__")))
    (x_gg : PySem.W.findIn K (.ref a_BadText) "__getattr__" = some none)
    (x_nr : PySem.W.findIn K (.ref a_BadText) "row" = some none)
    (x_np : PySem.W.findIn K (.ref a_BadText) "place" = some none)
    (x_kC : PySem.W.keepIn K (.ref a_BadText) = true)
    (x_eC : PySem.W.subIn K (.ref a_BadText) (.type "BaseException") = some true)
    (x_tC : PySem.W.typeIn K (.ref a_BadText) = some (.type "type"))
    (x_ca : PySem.W.findIn K (.ref a_BadText) "__class__" = some (some (.builtin "object.__class__")))
    (x_bs : PySem.W.subIn K (.ref a_BadText) (.ref a_BadText) = some true)
    (x_bd : PySem.W.subIn K (.ref a_BadText) (.ref a_DoorError) = some true)
    (x_bv : PySem.W.subIn K (.ref a_BadText) (.type "ValueError") = some true)
    (x_hC : PySem.W.hasDictIn K a_BadText = true)
    (x_sp : PySem.W.specialIn K (.builtin "object.__class__") "__get__" = some (some (.builtin "getset_descriptor.__get__")))
    (x_tk : PySem.W.takesIn K (.builtin "object.__class__") = some true)
    (x_mr : PySem.W.mroIn K a_BadText (.type "object") = some true)
    (y_e : PySem.W.subIn K (.ref a_DoorError) (.type "BaseException") = some true)
    (v_hd_DoorError : PySem.W.hasDictIn K a_DoorError = true)
    (v_ty_DoorError : PySem.W.typeIn K (.ref a_DoorError) = some (.type "type"))
    (v_hd_BadMemory : PySem.W.hasDictIn K a_BadMemory = true)
    (v_ty_BadMemory : PySem.W.typeIn K (.ref a_BadMemory) = some (.type "type"))
    (v_no_BadMemory : PySem.W.subIn K (.ref a_BadText) (.ref a_BadMemory) = some false)
    (v_hd_BadOrder : PySem.W.hasDictIn K a_BadOrder = true)
    (v_ty_BadOrder : PySem.W.typeIn K (.ref a_BadOrder) = some (.type "type"))
    (v_no_BadOrder : PySem.W.subIn K (.ref a_BadText) (.ref a_BadOrder) = some false)
    (v_hd_BadProgram : PySem.W.hasDictIn K a_BadProgram = true)
    (v_ty_BadProgram : PySem.W.typeIn K (.ref a_BadProgram) = some (.type "type"))
    (v_no_BadProgram : PySem.W.subIn K (.ref a_BadText) (.ref a_BadProgram) = some false)
    (v_hd_BadRule : PySem.W.hasDictIn K a_BadRule = true)
    (v_ty_BadRule : PySem.W.typeIn K (.ref a_BadRule) = some (.type "type"))
    (v_no_BadRule : PySem.W.subIn K (.ref a_BadText) (.ref a_BadRule) = some false)
    (v_hd_TooMany : PySem.W.hasDictIn K a_TooMany = true)
    (v_ty_TooMany : PySem.W.typeIn K (.ref a_TooMany) = some (.type "type"))
    (v_no_TooMany : PySem.W.subIn K (.ref a_BadText) (.ref a_TooMany) = some false)
    (y_g : PySem.W.specialIn K (.ref a_DoorError) "__getattribute__" = some (some (.builtin "type.__getattribute__")))
    (y_r : PySem.W.readsIn K a_DoorError (.type "type") = true)
    (y_v : PySem.W.findCls K (.ref a_DoorError) (.type "type") "__init__" = some (.val (.builtin "ValueError.__init__")))
    (a_BadText_init : PySem.W.findIn K (.ref a_BadText) "__init__" = some (some (.ref f_BadText_init)))
    (i_BadText_init : PySem.W.typeIn K (.ref f_BadText_init) = some (.type "function"))
    (lk_BadText_init : K.lookup f_BadText_init = some ⟨oc_BadText_init, od_BadText_init, .func (PySem.W.fnOf "__init__" "BadText.__init__" (defArgs s_BadText_init) (defBody s_BadText_init) (defScope s_BadText_init) .none kV_BadText_init dc_BadText_init pm_BadText_init an_BadText_init cd_BadText_init ct_BadText_init), sl_BadText_init⟩)
    (cc_BadText_init : PySem.W.codeIn K cd_BadText_init "BadText.__init__" = true)
    (kp_BadText_init : PySem.W.keepIn K (.ref f_BadText_init) = true)
    (a_deed_of : PySem.W.nsIn K mainGlobals "deed_of" = some (some (.ref f_deed_of)))
    (lk_deed_of : K.lookup f_deed_of = some ⟨oc_deed_of, od_deed_of, .func (PySem.W.fnOf "deed_of" "deed_of" (defArgs s_deed_of) (defBody s_deed_of) (defScope s_deed_of) .none kV_deed_of dc_deed_of pm_deed_of an_deed_of cd_deed_of ct_deed_of), sl_deed_of⟩)
    (cc_deed_of : PySem.W.codeIn K cd_deed_of "deed_of" = true)
    (kp_deed_of : PySem.W.keepIn K (.ref f_deed_of) = true)
    (a_program_of : PySem.W.nsIn K mainGlobals "program_of" = some (some (.ref f_program_of)))
    (lk_program_of : K.lookup f_program_of = some ⟨oc_program_of, od_program_of, .func (PySem.W.fnOf "program_of" "program_of" (defArgs s_program_of) (defBody s_program_of) (defScope s_program_of) .none kV_program_of dc_program_of pm_program_of an_program_of cd_program_of ct_program_of), sl_program_of⟩)
    (cc_program_of : PySem.W.codeIn K cd_program_of "program_of" = true)
    (kp_program_of : PySem.W.keepIn K (.ref f_program_of) = true)
    (a_read : PySem.W.nsIn K mainGlobals "read" = some (some (.ref f_read)))
    (lk_read : K.lookup f_read = some ⟨oc_read, od_read, .func (PySem.W.fnOf "read" "read" (defArgs s_read) (defBody s_read) (defScope s_read) .none kV_read dc_read pm_read an_read cd_read ct_read), sl_read⟩)
    (cc_read : PySem.W.codeIn K cd_read "read" = true)
    (kp_read : PySem.W.keepIn K (.ref f_read) = true)
    (a_law_mix : PySem.W.nsIn K mainGlobals "_law_mix" = some (some (.ref f_law_mix)))
    (lk_law_mix : K.lookup f_law_mix = some ⟨oc_law_mix, od_law_mix, .func (PySem.W.fnOf "_law_mix" "_law_mix" (defArgs s_law_mix) (defBody s_law_mix) (defScope s_law_mix) .none kV_law_mix dc_law_mix pm_law_mix an_law_mix cd_law_mix ct_law_mix), sl_law_mix⟩)
    (cc_law_mix : PySem.W.codeIn K cd_law_mix "_law_mix" = true)
    (kp_law_mix : PySem.W.keepIn K (.ref f_law_mix) = true)
    (a_law_next : PySem.W.nsIn K mainGlobals "_law_next" = some (some (.ref f_law_next)))
    (lk_law_next : K.lookup f_law_next = some ⟨oc_law_next, od_law_next, .func (PySem.W.fnOf "_law_next" "_law_next" (defArgs s_law_next) (defBody s_law_next) (defScope s_law_next) .none kV_law_next dc_law_next pm_law_next an_law_next cd_law_next ct_law_next), sl_law_next⟩)
    (cc_law_next : PySem.W.codeIn K cd_law_next "_law_next" = true)
    (kp_law_next : PySem.W.keepIn K (.ref f_law_next) = true)
    (a_law_alike : PySem.W.nsIn K mainGlobals "_law_alike" = some (some (.ref f_law_alike)))
    (lk_law_alike : K.lookup f_law_alike = some ⟨oc_law_alike, od_law_alike, .func (PySem.W.fnOf "_law_alike" "_law_alike" (defArgs s_law_alike) (defBody s_law_alike) (defScope s_law_alike) .none kV_law_alike dc_law_alike pm_law_alike an_law_alike cd_law_alike ct_law_alike), sl_law_alike⟩)
    (cc_law_alike : PySem.W.codeIn K cd_law_alike "_law_alike" = true)
    (kp_law_alike : PySem.W.keepIn K (.ref f_law_alike) = true)
    (a_law_deed : PySem.W.nsIn K mainGlobals "_law_deed" = some (some (.ref f_law_deed)))
    (lk_law_deed : K.lookup f_law_deed = some ⟨oc_law_deed, od_law_deed, .func (PySem.W.fnOf "_law_deed" "_law_deed" (defArgs s_law_deed) (defBody s_law_deed) (defScope s_law_deed) .none kV_law_deed dc_law_deed pm_law_deed an_law_deed cd_law_deed ct_law_deed), sl_law_deed⟩)
    (cc_law_deed : PySem.W.codeIn K cd_law_deed "_law_deed" = true)
    (kp_law_deed : PySem.W.keepIn K (.ref f_law_deed) = true)
    (a_law_program : PySem.W.nsIn K mainGlobals "_law_program" = some (some (.ref f_law_program)))
    (lk_law_program : K.lookup f_law_program = some ⟨oc_law_program, od_law_program, .func (PySem.W.fnOf "_law_program" "_law_program" (defArgs s_law_program) (defBody s_law_program) (defScope s_law_program) .none kV_law_program dc_law_program pm_law_program an_law_program cd_law_program ct_law_program), sl_law_program⟩)
    (cc_law_program : PySem.W.codeIn K cd_law_program "_law_program" = true)
    (kp_law_program : PySem.W.keepIn K (.ref f_law_program) = true)
    (a_law_text : PySem.W.nsIn K mainGlobals "_law_text" = some (some (.ref f_law_text)))
    (lk_law_text : K.lookup f_law_text = some ⟨oc_law_text, od_law_text, .func (PySem.W.fnOf "_law_text" "_law_text" (defArgs s_law_text) (defBody s_law_text) (defScope s_law_text) .none kV_law_text dc_law_text pm_law_text an_law_text cd_law_text ct_law_text), sl_law_text⟩)
    (cc_law_text : PySem.W.codeIn K cd_law_text "_law_text" = true)
    (kp_law_text : PySem.W.keepIn K (.ref f_law_text) = true)
    (a_law_word : PySem.W.nsIn K mainGlobals "_law_word" = some (some (.ref f_law_word)))
    (lk_law_word : K.lookup f_law_word = some ⟨oc_law_word, od_law_word, .func (PySem.W.fnOf "_law_word" "_law_word" (defArgs s_law_word) (defBody s_law_word) (defScope s_law_word) .none kV_law_word dc_law_word pm_law_word an_law_word cd_law_word ct_law_word), sl_law_word⟩)
    (cc_law_word : PySem.W.codeIn K cd_law_word "_law_word" = true)
    (kp_law_word : PySem.W.keepIn K (.ref f_law_word) = true)
    (a_law_due : PySem.W.nsIn K mainGlobals "_law_due" = some (some (.ref f_law_due)))
    (lk_law_due : K.lookup f_law_due = some ⟨oc_law_due, od_law_due, .func (PySem.W.fnOf "_law_due" "_law_due" (defArgs s_law_due) (defBody s_law_due) (defScope s_law_due) .none kV_law_due dc_law_due pm_law_due an_law_due cd_law_due ct_law_due), sl_law_due⟩)
    (cc_law_due : PySem.W.codeIn K cd_law_due "_law_due" = true)
    (kp_law_due : PySem.W.keepIn K (.ref f_law_due) = true)
    (a_law_told : PySem.W.nsIn K mainGlobals "_law_told" = some (some (.ref f_law_told)))
    (lk_law_told : K.lookup f_law_told = some ⟨oc_law_told, od_law_told, .func (PySem.W.fnOf "_law_told" "_law_told" (defArgs s_law_told) (defBody s_law_told) (defScope s_law_told) .none kV_law_told dc_law_told pm_law_told an_law_told cd_law_told ct_law_told), sl_law_told⟩)
    (cc_law_told : PySem.W.codeIn K cd_law_told "_law_told" = true)
    (kp_law_told : PySem.W.keepIn K (.ref f_law_told) = true)
    (a_law_changed : PySem.W.nsIn K mainGlobals "_law_changed" = some (some (.ref f_law_changed)))
    (lk_law_changed : K.lookup f_law_changed = some ⟨oc_law_changed, od_law_changed, .func (PySem.W.fnOf "_law_changed" "_law_changed" (defArgs s_law_changed) (defBody s_law_changed) (defScope s_law_changed) .none kV_law_changed dc_law_changed pm_law_changed an_law_changed cd_law_changed ct_law_changed), sl_law_changed⟩)
    (cc_law_changed : PySem.W.codeIn K cd_law_changed "_law_changed" = true)
    (kp_law_changed : PySem.W.keepIn K (.ref f_law_changed) = true)
    (a_law : PySem.W.nsIn K mainGlobals "law" = some (some (.ref f_law)))
    (lk_law : K.lookup f_law = some ⟨oc_law, od_law, .func (PySem.W.fnOf "law" "law" (defArgs s_law) (defBody s_law) (defScope s_law) .none kV_law dc_law pm_law an_law cd_law ct_law), sl_law⟩)
    (cc_law : PySem.W.codeIn K cd_law "law" = true)
    (kp_law : PySem.W.keepIn K (.ref f_law) = true)
    : ∃ fd : FuncData, (∀ (s : Shared) (v : Value), BindsTo s fd ⟨[v], []⟩ [("_law_script", v)]) ∧ ∀ base : Heap, K.In base → base.Ns mainGlobals mg → FnOk P w K mg base CX0 10 fa fd ["_law_script"] (sp_law0 K) := by
  have e := hfa.symm.trans (PySem.W.mg_of X G a_law)
  cases e
  have F_BadText_init := fun_mk (st := s_BadText_init) lk_BadText_init cc_BadText_init kp_BadText_init
  have F_deed_of := fun_mk (st := s_deed_of) lk_deed_of cc_deed_of kp_deed_of
  have F_program_of := fun_mk (st := s_program_of) lk_program_of cc_program_of kp_program_of
  have F_read := fun_mk (st := s_read) lk_read cc_read kp_read
  have F_law_mix := fun_mk (st := s_law_mix) lk_law_mix cc_law_mix kp_law_mix
  have F_law_next := fun_mk (st := s_law_next) lk_law_next cc_law_next kp_law_next
  have F_law_alike := fun_mk (st := s_law_alike) lk_law_alike cc_law_alike kp_law_alike
  have F_law_deed := fun_mk (st := s_law_deed) lk_law_deed cc_law_deed kp_law_deed
  have F_law_program := fun_mk (st := s_law_program) lk_law_program cc_law_program kp_law_program
  have F_law_text := fun_mk (st := s_law_text) lk_law_text cc_law_text kp_law_text
  have F_law_word := fun_mk (st := s_law_word) lk_law_word cc_law_word kp_law_word
  have F_law_due := fun_mk (st := s_law_due) lk_law_due cc_law_due kp_law_due
  have F_law_told := fun_mk (st := s_law_told) lk_law_told cc_law_told kp_law_told
  have F_law_changed := fun_mk (st := s_law_changed) lk_law_changed cc_law_changed kp_law_changed
  have F_law := fun_mk (st := s_law) lk_law cc_law kp_law
  have A0 : ∃ A : AdX, A = ⟨⟨0, 0, a_REST, 0, 0⟩, a_BadText, a_DoorError, a_BadMemory, a_BadProgram, a_BadRule, a_BadOrder, a_TooMany⟩ := ⟨_, rfl⟩
  obtain ⟨A, eA⟩ := A0
  have T : Txt K w mg A := by
    subst eA
    exact
      { m_ValueError := PySem.W.mg_none_of X G z_ValueError,
        m_bool := PySem.W.mg_none_of X G z_bool,
        m_enumerate := PySem.W.mg_none_of X G z_enumerate,
        m_int := PySem.W.mg_none_of X G z_int,
        m_isinstance := PySem.W.mg_none_of X G z_isinstance,
        m_len := PySem.W.mg_none_of X G z_len,
        m_list := PySem.W.mg_none_of X G z_list,
        m_max := PySem.W.mg_none_of X G z_max,
        m_min := PySem.W.mg_none_of X G z_min,
        m_range := PySem.W.mg_none_of X G z_range,
        m_str := PySem.W.mg_none_of X G z_str,
        m_tuple := PySem.W.mg_none_of X G z_tuple,
        c_MOST_DEEDS := ⟨_, PySem.W.mg_of X G g_MOST_DEEDS⟩,
        c_REST := PySem.W.mg_of X G g_REST,
        c_CELLS := ⟨_, PySem.W.mg_of X G g_CELLS⟩,
        c_SIGNS := ⟨_, PySem.W.mg_of X G g_SIGNS⟩,
        c_GAP := ⟨_, PySem.W.mg_of X G g_GAP⟩,
        c_BadText := PySem.W.mg_of X G g_BadText,
        c_DoorError := PySem.W.mg_of X G g_DoorError,
        c_BadMemory := PySem.W.mg_of X G g_BadMemory,
        c_BadProgram := PySem.W.mg_of X G g_BadProgram,
        c_BadRule := PySem.W.mg_of X G g_BadRule,
        c_BadOrder := PySem.W.mg_of X G g_BadOrder,
        c_TooMany := PySem.W.mg_of X G g_TooMany,
        o_BadText := ⟨⟨_, _, _, _, _, _, _, _, _, _, _, _, _, _, _, xL, by first | rfl | decide +kernel⟩, x_sa, x_eC, x_tC, x_kC⟩,
        n_row := x_nr,
        n_place := x_np,
        d_DoorError := ⟨y_g, y_r, y_v⟩,
        e_BadText := ⟨x_ga, x_gg, x_eC, x_hC, x_ca, x_sp, x_tk, x_mr⟩,
        x_BadText := ⟨x_ga, x_gg, x_eC, x_hC⟩,
        o_text := ⟨PySem.W.exm_ref y_e v_hd_DoorError v_ty_DoorError x_bd, kit_self, kit_ty (by decide +kernel) x_bv, kit_five (kit_no x_bs v_hd_BadMemory v_ty_BadMemory v_no_BadMemory) (kit_no x_bs v_hd_BadOrder v_ty_BadOrder v_no_BadOrder) (kit_no x_bs v_hd_BadProgram v_ty_BadProgram v_no_BadProgram) (kit_no x_bs v_hd_BadRule v_ty_BadRule v_no_BadRule) (kit_no x_bs v_hd_TooMany v_ty_TooMany v_no_TooMany)⟩,
        f_BadText_init := ⟨_, _, F_BadText_init, a_BadText_init, i_BadText_init⟩,
        f_deed_of := ⟨_, _, F_deed_of, PySem.W.mg_of X G a_deed_of⟩,
        f_program_of := ⟨_, _, F_program_of, PySem.W.mg_of X G a_program_of⟩,
        f_read := ⟨_, _, F_read, PySem.W.mg_of X G a_read⟩,
        f_law_mix := ⟨_, _, F_law_mix, PySem.W.mg_of X G a_law_mix⟩,
        f_law_next := ⟨_, _, F_law_next, PySem.W.mg_of X G a_law_next⟩,
        f_law_alike := ⟨_, _, F_law_alike, PySem.W.mg_of X G a_law_alike⟩,
        f_law_deed := ⟨_, _, F_law_deed, PySem.W.mg_of X G a_law_deed⟩,
        f_law_program := ⟨_, _, F_law_program, PySem.W.mg_of X G a_law_program⟩,
        f_law_text := ⟨_, _, F_law_text, PySem.W.mg_of X G a_law_text⟩,
        f_law_word := ⟨_, _, F_law_word, PySem.W.mg_of X G a_law_word⟩,
        f_law_due := ⟨_, _, F_law_due, PySem.W.mg_of X G a_law_due⟩,
        f_law_told := ⟨_, _, F_law_told, PySem.W.mg_of X G a_law_told⟩,
        f_law_changed := ⟨_, _, F_law_changed, PySem.W.mg_of X G a_law_changed⟩,
        f_law := ⟨_, _, F_law, PySem.W.mg_of X G a_law⟩,
        o_REST := fun H => .tup (xs := [V.str "rest"]) (.inr ⟨_, _, _, l_REST, rfl, rfl, Nat.le_trans (show 1 ≤ 10000000 by decide) (by rw [sizeLine_eq]; decide), .cons ⟨_, rfl⟩ (.nil)⟩) (.cons (.str _) (.nil)) }
  exact ⟨_, fun s v => .of_eq rfl, fun base _ _ => all_ok F_law T⟩
end K12
open PySem PySem.W PyProof.Rows
set_option maxHeartbeats 0 in
theorem PySem.Challenge.cw_doorbeat_k12_texts_that_tell_no_programs_holds : PySem.Challenge.rw_doorbeat_k12_texts_that_tell_no_programs.Holds := by
  w_on; o_law; k_head; (case hw => w_witness2)
  k_fill
  refine L2.walk_ofB (l := PySem.Challenge.rw_doorbeat_k12_texts_that_tell_no_programs) (n := 63) (k := 10) (x := "_law_script") (CX := fun _ => L2.CX0) (sp := fun w => DL.sp_law0 _) rfl (by decide) rfl ⟨rfl, by decide, by decide⟩ (fun w h Y => PySem.W.kIn_of Y) ?F (fun _ _ a ns hl hb _ hS => DL.law_end hl hb hS) (fun _ _ _ _ _ h => h)
  case F =>
    intro w mg fa h KX G hmg
    refine' K12.all_mk KX G hmg ?z_ValueError ?z_bool ?z_enumerate ?z_int ?z_isinstance ?z_len ?z_list ?z_max ?z_min ?z_range ?z_str ?z_tuple ?g_MOST_DEEDS ?g_REST ?l_REST ?g_CELLS ?g_SIGNS ?g_GAP ?g_BadText ?g_DoorError ?g_BadMemory ?g_BadProgram ?g_BadRule ?g_BadOrder ?g_TooMany ?xL ?x_sa ?x_ga ?x_gg ?x_nr ?x_np ?x_kC ?x_eC ?x_tC ?x_ca ?x_bs ?x_bd ?x_bv ?x_hC ?x_sp ?x_tk ?x_mr ?y_e ?v_hd_DoorError ?v_ty_DoorError ?v_hd_BadMemory ?v_ty_BadMemory ?v_no_BadMemory ?v_hd_BadOrder ?v_ty_BadOrder ?v_no_BadOrder ?v_hd_BadProgram ?v_ty_BadProgram ?v_no_BadProgram ?v_hd_BadRule ?v_ty_BadRule ?v_no_BadRule ?v_hd_TooMany ?v_ty_TooMany ?v_no_TooMany ?y_g ?y_r ?y_v ?a_BadText_init ?i_BadText_init ?lk_BadText_init ?cc_BadText_init ?kp_BadText_init ?a_deed_of ?lk_deed_of ?cc_deed_of ?kp_deed_of ?a_program_of ?lk_program_of ?cc_program_of ?kp_program_of ?a_read ?lk_read ?cc_read ?kp_read ?a_law_mix ?lk_law_mix ?cc_law_mix ?kp_law_mix ?a_law_next ?lk_law_next ?cc_law_next ?kp_law_next ?a_law_alike ?lk_law_alike ?cc_law_alike ?kp_law_alike ?a_law_deed ?lk_law_deed ?cc_law_deed ?kp_law_deed ?a_law_program ?lk_law_program ?cc_law_program ?kp_law_program ?a_law_text ?lk_law_text ?cc_law_text ?kp_law_text ?a_law_word ?lk_law_word ?cc_law_word ?kp_law_word ?a_law_due ?lk_law_due ?cc_law_due ?kp_law_due ?a_law_told ?lk_law_told ?cc_law_told ?kp_law_told ?a_law_changed ?lk_law_changed ?cc_law_changed ?kp_law_changed ?a_law ?lk_law ?cc_law ?kp_law
    (case z_ValueError => k_is)
    (case z_bool => k_is)
    (case z_enumerate => k_is)
    (case z_int => k_is)
    (case z_isinstance => k_is)
    (case z_len => k_is)
    (case z_list => k_is)
    (case z_max => k_is)
    (case z_min => k_is)
    (case z_range => k_is)
    (case z_str => k_is)
    (case z_tuple => k_is)
    (case g_MOST_DEEDS => k_is)
    (case g_REST => k_is)
    (case l_REST => k_is)
    (case g_CELLS => k_is)
    (case g_SIGNS => k_is)
    (case g_GAP => k_is)
    (case g_BadText => k_is)
    (case g_DoorError => k_is)
    (case g_BadMemory => k_is)
    (case g_BadProgram => k_is)
    (case g_BadRule => k_is)
    (case g_BadOrder => k_is)
    (case g_TooMany => k_is)
    (case xL => k_is)
    (case x_sa => k_is)
    (case x_ga => k_is)
    (case x_gg => k_is)
    (case x_nr => k_is)
    (case x_np => k_is)
    (case x_kC => k_is)
    (case x_eC => k_is)
    (case x_tC => k_is)
    (case x_ca => k_is)
    (case x_bs => k_is)
    (case x_bd => k_is)
    (case x_bv => k_is)
    (case x_hC => k_is)
    (case x_sp => k_is)
    (case x_tk => k_is)
    (case x_mr => k_is)
    (case y_e => k_is)
    (case v_hd_DoorError => k_is)
    (case v_ty_DoorError => k_is)
    (case v_hd_BadMemory => k_is)
    (case v_ty_BadMemory => k_is)
    (case v_no_BadMemory => k_is)
    (case v_hd_BadOrder => k_is)
    (case v_ty_BadOrder => k_is)
    (case v_no_BadOrder => k_is)
    (case v_hd_BadProgram => k_is)
    (case v_ty_BadProgram => k_is)
    (case v_no_BadProgram => k_is)
    (case v_hd_BadRule => k_is)
    (case v_ty_BadRule => k_is)
    (case v_no_BadRule => k_is)
    (case v_hd_TooMany => k_is)
    (case v_ty_TooMany => k_is)
    (case v_no_TooMany => k_is)
    (case y_g => k_is)
    (case y_r => k_is)
    (case y_v => k_is)
    (case a_BadText_init => k_is)
    (case i_BadText_init => k_is)
    (case lk_BadText_init => k_is)
    (case cc_BadText_init => k_is)
    (case kp_BadText_init => k_is)
    (case a_deed_of => k_is)
    (case lk_deed_of => k_is)
    (case cc_deed_of => k_is)
    (case kp_deed_of => k_is)
    (case a_program_of => k_is)
    (case lk_program_of => k_is)
    (case cc_program_of => k_is)
    (case kp_program_of => k_is)
    (case a_read => k_is)
    (case lk_read => k_is)
    (case cc_read => k_is)
    (case kp_read => k_is)
    (case a_law_mix => k_is)
    (case lk_law_mix => k_is)
    (case cc_law_mix => k_is)
    (case kp_law_mix => k_is)
    (case a_law_next => k_is)
    (case lk_law_next => k_is)
    (case cc_law_next => k_is)
    (case kp_law_next => k_is)
    (case a_law_alike => k_is)
    (case lk_law_alike => k_is)
    (case cc_law_alike => k_is)
    (case kp_law_alike => k_is)
    (case a_law_deed => k_is)
    (case lk_law_deed => k_is)
    (case cc_law_deed => k_is)
    (case kp_law_deed => k_is)
    (case a_law_program => k_is)
    (case lk_law_program => k_is)
    (case cc_law_program => k_is)
    (case kp_law_program => k_is)
    (case a_law_text => k_is)
    (case lk_law_text => k_is)
    (case cc_law_text => k_is)
    (case kp_law_text => k_is)
    (case a_law_word => k_is)
    (case lk_law_word => k_is)
    (case cc_law_word => k_is)
    (case kp_law_word => k_is)
    (case a_law_due => k_is)
    (case lk_law_due => k_is)
    (case cc_law_due => k_is)
    (case kp_law_due => k_is)
    (case a_law_told => k_is)
    (case lk_law_told => k_is)
    (case cc_law_told => k_is)
    (case kp_law_told => k_is)
    (case a_law_changed => k_is)
    (case lk_law_changed => k_is)
    (case cc_law_changed => k_is)
    (case kp_law_changed => k_is)
    (case a_law => k_is)
    (case lk_law => k_is)
    (case cc_law => k_is)
    (case kp_law => k_is)
