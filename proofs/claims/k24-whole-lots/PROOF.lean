import PyProof.Rows.All
import Wide.All
import OpenK.AllK
import Wide.FinOn
import HandS.ForMost
import HandS.Exc
import HandS.WordsExc
import HandS.Defaults
import HandS.Conv
import HandS.Style
import HandS.TupAny
import HandS.TupMul
import HandS.IsInst
import HandS.SortInts
import HandS.Wide
import HandS.SetFor
import HandS.Strs
import HandS.Star
import KE.GoesEnum
import PyProof.ReprRoads
import PyProof.SumAny
import PyProof.Rows.SumGenD
import PySem.Challenge.RW_newsbehind_k24_whole_lots_round_by_round
import HandS.Words
import HandS.ExcInit
import KE.KExcSuper
import HandS.ExcField
import HandS.ExcSuper
import HandS.ExcOwn
import HandS.CallLocal
import KE.KStateDown
import HandS.Head0
import HandS.Head1
import HandS.Head2
import HandS.HeadEnd
import HandS.HeadHook1
import HandS.HeadHook2
set_option Elab.async false
set_option linter.all false
set_option maxRecDepth 100000
/-! K24A: data over the hand layer. What never changes lies in a part G of the heap H; a def's slots hold data, or lists of its own that grow. -/
namespace K24
open PySem PySem.Spec L2

abbrev PD := PyData

/-! ### a value that stands for data -/
mutual
inductive Dq (H : Hp) : V → PD → Prop
  | non : Dq H .non .none
  | bl (b : Bool) : Dq H (.bl b) (.bool b)
  | int (i : Int) : Dq H (.int i) (.int i)
  | str (x : Str) : Dq H (.str x) (.str x)
  | lst {a : Addr} {xs : List V} {ds : List PD} : H a = some (.lst xs) → DqAll H xs ds → Dq H (.ref a) (.list ds)
  | tup {a : Addr} {xs : List V} {ds : List PD} : H a = some (.tup xs) → DqAll H xs ds → Dq H (.ref a) (.tuple ds)
inductive DqAll (H : Hp) : List V → List PD → Prop
  | nil : DqAll H [] []
  | cons {v : V} {vs : List V} {d : PD} {ds : List PD} : Dq H v d → DqAll H vs ds → DqAll H (v :: vs) (d :: ds)
end

mutual
theorem Dq.mono {H H' : Hp} (e : Same H H') : ∀ (d : PD) (v : V), Dq H v d → Dq H' v d
  | .none, _, h => by cases h; exact .non
  | .bool b, _, h => by cases h; exact .bl b
  | .int i, _, h => by cases h; exact .int i
  | .str x, _, h => by cases h; exact .str x
  | .list ds, _, h => by
    cases h with
    | lst h1 h2 => exact .lst (e _ _ h1) (DqAll.mono e ds _ h2)
  | .tuple ds, _, h => by
    cases h with
    | tup h1 h2 => exact .tup (e _ _ h1) (DqAll.mono e ds _ h2)
  | .dict _, _, h => by cases h
theorem DqAll.mono {H H' : Hp} (e : Same H H') : ∀ (ds : List PD) (vs : List V), DqAll H vs ds → DqAll H' vs ds
  | [], _, h => by cases h; exact .nil
  | d :: ds, _, h => by
    cases h with
    | cons h1 h2 => exact .cons (Dq.mono e d _ h1) (DqAll.mono e ds _ h2)
end
mutual
theorem Dq.dp {K : PySem.W.Frag} {H : Hp} : ∀ (d : PD) (v : V), Dq H v d → Dp K H v d
  | .none, _, h => by cases h; exact .non
  | .bool b, _, h => by cases h; exact .bl b
  | .int i, _, h => by cases h; exact .int i
  | .str x, _, h => by cases h; exact .str x
  | .list ds, _, h => by
    cases h with
    | lst h1 h2 => exact .lst (SqL.of h1) (DqAll.dp ds _ h2)
  | .tuple ds, _, h => by
    cases h with
    | tup h1 h2 => exact .tup (SqT.of h1) (DqAll.dp ds _ h2)
  | .dict _, _, h => by cases h
theorem DqAll.dp {K : PySem.W.Frag} {H : Hp} : ∀ (ds : List PD) (vs : List V), DqAll H vs ds → DpAll K H vs ds
  | [], _, h => by cases h; exact .nil
  | d :: ds, _, h => by
    cases h with
    | cons h1 h2 => exact .cons (Dq.dp d _ h1) (DqAll.dp ds _ h2)
end
theorem DqAll.length {H : Hp} : ∀ {vs : List V} {ds : List PD}, DqAll H vs ds → vs.length = ds.length
  | _, _, .nil => rfl
  | _, _, .cons _ h => congrArg (· + 1) (DqAll.length h)
theorem DqAll.get {H : Hp} : ∀ {vs : List V} {ds : List PD} {i : Nat} {d : PD}, DqAll H vs ds → ds[i]? = some d → ∃ v, vs[i]? = some v ∧ Dq H v d
  | _, _, _, _, .nil, e => by simp at e
  | _, _, 0, _, .cons h _, e => by
    have e' := Option.some.inj e
    subst e'
    exact ⟨_, rfl, h⟩
  | _, _, i + 1, d, .cons _ h, e => DqAll.get (i := i) (d := d) h e
theorem DqAll.getV {H : Hp} : ∀ {vs : List V} {ds : List PD} {i : Nat} {v : V}, DqAll H vs ds → vs[i]? = some v → ∃ d, ds[i]? = some d ∧ Dq H v d
  | _, _, _, _, .nil, e => by simp at e
  | _, _, 0, _, .cons h _, e => by
    have e' := Option.some.inj e
    subst e'
    exact ⟨_, rfl, h⟩
  | _, _, i + 1, d, .cons _ h, e => DqAll.getV (i := i) (v := d) h e
theorem DqAll.append {H : Hp} : ∀ {vs ws : List V} {ds es : List PD}, DqAll H vs ds → DqAll H ws es → DqAll H (vs ++ ws) (ds ++ es)
  | _, _, _, _, .nil, h => h
  | _, _, _, _, .cons a b, h => .cons a (DqAll.append b h)
theorem DqAll.take {H : Hp} : ∀ {vs : List V} {ds : List PD} (n : Nat), DqAll H vs ds → DqAll H (vs.take n) (ds.take n)
  | _, _, 0, _ => .nil
  | _, _, _ + 1, .nil => .nil
  | _, _, n + 1, .cons a b => .cons a (DqAll.take n b)
theorem DqAll.drop {H : Hp} : ∀ {vs : List V} {ds : List PD} (n : Nat), DqAll H vs ds → DqAll H (vs.drop n) (ds.drop n)
  | _, _, 0, h => h
  | _, _, _ + 1, .nil => .nil
  | _, _, n + 1, .cons _ b => DqAll.drop n b
theorem DqAll.reverse {H : Hp} : ∀ {vs : List V} {ds : List PD}, DqAll H vs ds → DqAll H vs.reverse ds.reverse
  | _, _, .nil => .nil
  | _, _, .cons a b => by
    rw [List.reverse_cons, List.reverse_cons]
    exact DqAll.append (DqAll.reverse b) (.cons a .nil)
theorem DqAll.ints {H : Hp} : ∀ {vs : List V} {ns : List Int}, DqAll H vs (ns.map PyData.int) → vs = ns.map V.int
  | _, [], h => by cases h; rfl
  | _, n :: ns, h => by
    cases h with
    | cons h1 h2 =>
      cases h1
      rw [DqAll.ints h2]
      rfl
theorem DqAll.ofInts {H : Hp} : ∀ (ns : List Int), DqAll H (ns.map V.int) (ns.map PyData.int)
  | [] => .nil
  | n :: ns => .cons (.int n) (DqAll.ofInts ns)
theorem DqAll.bools {H : Hp} : ∀ {vs : List V} {bs : List Bool}, DqAll H vs (bs.map PyData.bool) → vs = bs.map V.bl
  | _, [], h => by cases h; rfl
  | _, n :: ns, h => by
    cases h with
    | cons h1 h2 =>
      cases h1
      rw [DqAll.bools h2]
      rfl
theorem DqAll.rep {H : Hp} {vs : List V} {ds : List PD} (h : DqAll H vs ds) : ∀ k : Nat, DqAll H (List.replicate k vs).flatten (List.replicate k ds).flatten
  | 0 => .nil
  | k + 1 => by
    rw [List.replicate_succ, List.replicate_succ, List.flatten_cons, List.flatten_cons]
    exact DqAll.append h (DqAll.rep h k)

/-! ### steps of the two heaps -/
structure Fw (M : Addr → Prop) (G H G' H' : Hp) : Prop where
  keep : ∀ a o, H a = some o → ¬ M a → H' a = some o
  live : ∀ a o, H a = some o → ∃ o', H' a = some o'
  same : ∀ a o, H a = some o → G' a = G a
  sub : Same G' H'
abbrev Nm : Addr → Prop := fun _ => False
theorem Fw.refl {M : Addr → Prop} {G H : Hp} (s : Same G H) : Fw M G H G H := ⟨fun _ _ h _ => h, fun _ o h => ⟨o, h⟩, fun _ _ _ => rfl, s⟩
theorem Fw.trans {M : Addr → Prop} {G H G1 H1 G2 H2 : Hp} (a : Fw M G H G1 H1) (b : Fw M G1 H1 G2 H2) : Fw M G H G2 H2 :=
  ⟨fun c o h n => b.keep c o (a.keep c o h n) n, fun c o h => let ⟨o1, h1⟩ := a.live c o h; b.live c o1 h1, fun c o h => let ⟨o1, h1⟩ := a.live c o h; (b.same c o1 h1).trans (a.same c o h), b.sub⟩
theorem Fw.grow {M : Addr → Prop} {G H G' H' : Hp} (f : Fw M G H G' H') (s : Same G H) : Same G G' := fun a o h => (f.same a o (s a o h)).trans h
theorem Fw.any {M : Addr → Prop} {G H G' H' : Hp} (f : Fw Nm G H G' H') : Fw M G H G' H' := ⟨fun a o h _ => f.keep a o h (fun z => z), f.live, f.same, f.sub⟩
theorem Fw.all {G H G' H' : Hp} (f : Fw Nm G H G' H') : Same H H' := fun a o h => f.keep a o h (fun z => z)
/-- new data -/
theorem Fw.new {M : Addr → Prop} {G H : Hp} {p : Addr} {o : HO} (s : Same G H) (hp : H p = none) : Fw M G H (upd G p o) (upd H p o) := by
  refine ⟨fun a u h _ => ?_, fun a u h => ⟨u, ?_⟩, fun a u h => ?_, fun a u h => ?_⟩
  · rw [upd_ne (ne_of_none h hp)]; exact h
  · rw [upd_ne (ne_of_none h hp)]; exact h
  · rw [upd_ne (ne_of_none h hp)]
  · by_cases e : a = p
    · subst e
      rw [upd_same] at h ⊢
      exact h
    · rw [upd_ne e] at h ⊢
      exact s a u h
/-- a new object that is not data (yet) -/
theorem Fw.own {M : Addr → Prop} {G H : Hp} {p : Addr} {o : HO} (s : Same G H) (hp : H p = none) : Fw M G H G (upd H p o) := by
  refine ⟨fun a u h _ => ?_, fun a u h => ⟨u, ?_⟩, fun _ _ _ => rfl, fun a u h => ?_⟩
  · rw [upd_ne (ne_of_none h hp)]; exact h
  · rw [upd_ne (ne_of_none h hp)]; exact h
  · rw [upd_ne (ne_of_none (s a u h) hp)]
    exact s a u h

/-! ### a def's world, its slots -/
structure Wd where
  K : PySem.W.Frag
  M : Addr → Prop
  Ph : Hp → Prop
  G0 : Hp
  H0 : Hp
  mono : ∀ H H', Ph H → (∀ a o, M a → H a = some o → H' a = some o) → Ph H'
  live : ∀ H a, Ph H → M a → H a ≠ none
  p0 : Ph H0
inductive Sl where
  | no
  | d (x : PD)
  | l (xs : List PD)
  | v (x : V)
structure SR (W : Wd) (G H : Hp) (σ : L2.St) (Γ : List Sl) : Prop where
  len : σ.length = Γ.length
  fw : Fw W.M W.G0 W.H0 G H
  mz : ∀ a, W.M a → G a = none
  ph : W.Ph H
  dd : ∀ (i : Nat) (x : PD), Γ[i]? = some (Sl.d x) → ∃ v : V, σ[i]? = some (some v) ∧ Dq G v x
  ll : ∀ (i : Nat) (xs : List PD), Γ[i]? = some (Sl.l xs) → ∃ (p : Addr) (vs : List V), σ[i]? = some (some (V.ref p)) ∧ H p = some (.lst vs) ∧ W.H0 p = none ∧ G p = none ∧ DqAll G vs xs
  vv : ∀ (i : Nat) (x : V), Γ[i]? = some (Sl.v x) → σ[i]? = some (some x)
  ap : ∀ (i j : Nat) (xs ys : List PD) (p : Addr), Γ[i]? = some (Sl.l xs) → Γ[j]? = some (Sl.l ys) → i ≠ j → σ[i]? = some (some (V.ref p)) → σ[j]? ≠ some (some (V.ref p))
section
variable {W : Wd} {G H G' H' : Hp} {σ : L2.St} {Γ : List Sl}
theorem SR.sub (s : SR W G H σ Γ) : Same G H := s.fw.sub
theorem Wd.notM (W : Wd) {p : Addr} (h : W.H0 p = none) : ¬ W.M p := fun m => W.live W.H0 p W.p0 m h
theorem SR.step (s : SR W G H σ Γ) (f : Fw W.M G H G' H') (ph : W.Ph H') : SR W G' H' σ Γ where
  len := s.len
  fw := s.fw.trans f
  mz := fun a m => by
    have h := W.live H a s.ph m
    cases e : H a with
    | none => exact absurd e h
    | some o => rw [f.same a o e]; exact s.mz a m
  ph := ph
  dd := fun i x e => let ⟨v, h1, h2⟩ := s.dd i x e; ⟨v, h1, Dq.mono (f.grow s.sub) x v h2⟩
  ll := fun i xs e => by
    obtain ⟨p, vs, h1, h2, h3, h4, h5⟩ := s.ll i xs e
    exact ⟨p, vs, h1, f.keep p _ h2 (W.notM h3), h3, (f.same p _ h2).trans h4, DqAll.mono (f.grow s.sub) xs vs h5⟩
  vv := s.vv
  ap := s.ap
/-- where the changing part stands as it is -/
theorem SR.step0 (s : SR W G H σ Γ) (f : Fw Nm G H G' H') : SR W G' H' σ Γ := s.step f.any (W.mono H H' s.ph fun a o _ h => f.all a o h)
theorem SR.new (s : SR W G H σ Γ) {p : Addr} (o : HO) (hp : H p = none) : SR W (upd G p o) (upd H p o) σ Γ := s.step0 (Fw.new s.sub hp)
theorem SR.fresh (s : SR W G H σ Γ) {p : Addr} (hp : H p = none) : W.H0 p = none ∧ G p = none := by
  constructor
  · cases e : W.H0 p with
    | none => rfl
    | some o =>
      obtain ⟨o', h⟩ := s.fw.live p o e
      rw [hp] at h
      cases h
  · cases e : G p with
    | none => rfl
    | some o =>
      have h := s.sub p o e
      rw [hp] at h
      cases h
/-- a slot is stored: data -/
theorem SR.setD (s : SR W G H σ Γ) {i : Nat} {v : V} {x : PD} (hv : Dq G v x) : SR W G H (σ.set i (some v)) (Γ.set i (.d x)) where
  len := by rw [List.length_set, List.length_set]; exact s.len
  fw := s.fw
  mz := s.mz
  ph := s.ph
  dd := fun j y e => by
    by_cases hj : j = i
    · subst hj
      have hl : j < Γ.length := by
        have := (List.getElem?_eq_some_iff.mp e).1
        rwa [List.length_set] at this
      rw [List.getElem?_set_self hl] at e
      have e2 := Sl.d.inj (Option.some.inj e)
      subst e2
      exact ⟨v, List.getElem?_set_self (by rw [s.len]; exact hl), hv⟩
    · rw [List.getElem?_set_ne (Ne.symm hj)] at e ⊢
      exact s.dd j y e
  ll := fun j ys e => by
    by_cases hj : j = i
    · subst hj
      have hl : j < Γ.length := by
        have := (List.getElem?_eq_some_iff.mp e).1
        rwa [List.length_set] at this
      rw [List.getElem?_set_self hl] at e
      cases e
    · rw [List.getElem?_set_ne (Ne.symm hj)] at e ⊢
      exact s.ll j ys e
  vv := fun j y e => by
    by_cases hj : j = i
    · subst hj
      have hl : j < Γ.length := by
        have := (List.getElem?_eq_some_iff.mp e).1
        rwa [List.length_set] at this
      rw [List.getElem?_set_self hl] at e
      cases e
    · rw [List.getElem?_set_ne (Ne.symm hj)] at e ⊢
      exact s.vv j y e
  ap := fun j k xs ys p e1 e2 hjk h => by
    have ne : ∀ {m : Nat} {zs : List PD}, (Γ.set i (.d x))[m]? = some (.l zs) → m ≠ i := fun {m zs} e z => by
      subst z
      have hl : m < Γ.length := by
        have := (List.getElem?_eq_some_iff.mp e).1
        rwa [List.length_set] at this
      rw [List.getElem?_set_self hl] at e
      cases e
    have n1 := ne e1
    have n2 := ne e2
    rw [List.getElem?_set_ne (Ne.symm n1)] at e1 h
    rw [List.getElem?_set_ne (Ne.symm n2)] at e2 ⊢
    exact s.ap j k xs ys p e1 e2 hjk h
theorem SR.weak (s : SR W G H σ Γ) {σ' : L2.St} {Γ' : List Sl} (hl : σ'.length = Γ'.length) (h : ∀ (i : Nat) (x : Sl), Γ'[i]? = some x → x ≠ Sl.no → Γ[i]? = some x ∧ σ'[i]? = σ[i]?) : SR W G H σ' Γ' where
  len := hl
  fw := s.fw
  mz := s.mz
  ph := s.ph
  dd := fun i x e => by
    obtain ⟨h1, h2⟩ := h i _ e (fun z => by cases z)
    rw [h2]
    exact s.dd i x h1
  ll := fun i x e => by
    obtain ⟨h1, h2⟩ := h i _ e (fun z => by cases z)
    rw [h2]
    exact s.ll i x h1
  vv := fun i x e => by
    obtain ⟨h1, h2⟩ := h i _ e (fun z => by cases z)
    rw [h2]
    exact s.vv i x h1
  ap := fun i j xs ys p e1 e2 hij h3 => by
    obtain ⟨h1, h2⟩ := h i _ e1 (fun z => by cases z)
    obtain ⟨h4, h5⟩ := h j _ e2 (fun z => by cases z)
    rw [h2] at h3
    rw [h5]
    exact s.ap i j xs ys p h1 h4 hij h3
/-- a new own list, stored -/
theorem SR.setL (s : SR W G H σ Γ) {i : Nat} {p : Addr} {vs : List V} {xs : List PD} (hp : H p = some (.lst vs)) (h0 : W.H0 p = none) (hg : G p = none) (hv : DqAll G vs xs)
    (fr : ∀ (j : Nat) (ys : List PD), j ≠ i → Γ[j]? = some (Sl.l ys) → σ[j]? ≠ some (some (V.ref p))) : SR W G H (σ.set i (some (.ref p))) (Γ.set i (.l xs)) where
  len := by rw [List.length_set, List.length_set]; exact s.len
  fw := s.fw
  mz := s.mz
  ph := s.ph
  dd := fun j y e => by
    by_cases hj : j = i
    · subst hj
      have hl : j < Γ.length := by
        have := (List.getElem?_eq_some_iff.mp e).1
        rwa [List.length_set] at this
      rw [List.getElem?_set_self hl] at e
      cases e
    · rw [List.getElem?_set_ne (Ne.symm hj)] at e ⊢
      exact s.dd j y e
  ll := fun j ys e => by
    by_cases hj : j = i
    · subst hj
      have hl : j < Γ.length := by
        have := (List.getElem?_eq_some_iff.mp e).1
        rwa [List.length_set] at this
      rw [List.getElem?_set_self hl] at e
      have e2 := Sl.l.inj (Option.some.inj e)
      subst e2
      exact ⟨p, vs, List.getElem?_set_self (by rw [s.len]; exact hl), hp, h0, hg, hv⟩
    · rw [List.getElem?_set_ne (Ne.symm hj)] at e ⊢
      exact s.ll j ys e
  vv := fun j y e => by
    by_cases hj : j = i
    · subst hj
      have hl : j < Γ.length := by
        have := (List.getElem?_eq_some_iff.mp e).1
        rwa [List.length_set] at this
      rw [List.getElem?_set_self hl] at e
      cases e
    · rw [List.getElem?_set_ne (Ne.symm hj)] at e ⊢
      exact s.vv j y e
  ap := fun j k ys zs q e1 e2 hjk h => by
    by_cases hj : j = i
    · subst hj
      have hk : k ≠ j := Ne.symm hjk
      have hl : j < σ.length := by
        have := (List.getElem?_eq_some_iff.mp h).1
        rwa [List.length_set] at this
      rw [List.getElem?_set_self hl] at h
      have eq : p = q := V.ref.inj (Option.some.inj (Option.some.inj h))
      subst eq
      rw [List.getElem?_set_ne (Ne.symm hk)] at e2 ⊢
      exact fr k zs hk e2
    · rw [List.getElem?_set_ne (Ne.symm hj)] at e1 h
      by_cases hk : k = i
      · subst hk
        intro h2
        have hl : k < σ.length := by
          have := (List.getElem?_eq_some_iff.mp h2).1
          rwa [List.length_set] at this
        rw [List.getElem?_set_self hl] at h2
        have eq : p = q := V.ref.inj (Option.some.inj (Option.some.inj h2))
        subst eq
        exact fr j ys hj e1 h
      · rw [List.getElem?_set_ne (Ne.symm hk)] at e2 ⊢
        exact s.ap j k ys zs q e1 e2 hjk h
/-- an own list grows (its address is in slot i) -/
theorem SR.grow (s : SR W G H σ Γ) {i : Nat} {p : Addr} {vs ws : List V} {xs ys : List PD} (hi : Γ[i]? = some (.l xs)) (hs : σ[i]? = some (some (.ref p))) (hp : H p = some (.lst vs)) (hv : DqAll G ws ys) : SR W G (upd H p (.lst ws)) σ (Γ.set i (.l ys)) := by
  obtain ⟨p', vs', h1, h2, h3, h4, h5⟩ := s.ll i xs hi
  have ep : p' = p := by
    rw [hs] at h1
    exact (V.ref.inj (Option.some.inj (Option.some.inj h1))).symm
  subst ep
  have nM := W.notM h3
  have hk : ∀ a o, H a = some o → a ≠ p' → upd H p' (.lst ws) a = some o := fun a o h n => by rw [upd_ne n]; exact h
  have hl : i < Γ.length := (List.getElem?_eq_some_iff.mp hi).1
  refine ⟨by rw [List.length_set]; exact s.len, ⟨fun a o h n => ?_, fun a o h => ?_, s.fw.same, fun a o h => ?_⟩, s.mz, W.mono H _ s.ph fun a o m h => hk a o h (fun z => nM (z ▸ m)), fun j x e => ?_, fun j zs e => ?_, fun j x e => ?_, fun j k zs us q e1 e2 hjk h => ?_⟩
  · have n2 : a ≠ p' := fun z => by rw [z, h3] at h; cases h
    exact hk a o (s.fw.keep a o h n) n2
  · have n2 : a ≠ p' := fun z => by rw [z, h3] at h; cases h
    obtain ⟨o', h'⟩ := s.fw.live a o h
    exact ⟨o', hk a o' h' n2⟩
  · have n2 : a ≠ p' := fun z => by rw [z, h4] at h; cases h
    exact hk a o (s.sub a o h) n2
  · by_cases hj : j = i
    · subst hj
      rw [List.getElem?_set_self hl] at e
      cases e
    · rw [List.getElem?_set_ne (Ne.symm hj)] at e
      exact s.dd j x e
  · by_cases hj : j = i
    · subst hj
      rw [List.getElem?_set_self hl] at e
      have e2 := Sl.l.inj (Option.some.inj e)
      subst e2
      exact ⟨p', ws, hs, upd_same, h3, h4, hv⟩
    · rw [List.getElem?_set_ne (Ne.symm hj)] at e
      obtain ⟨q, us, a1, a2, a3, a4, a5⟩ := s.ll j zs e
      have nq : q ≠ p' := fun z => by
        subst z
        exact s.ap j i zs xs q e hi hj a1 hs
      exact ⟨q, us, a1, hk q _ a2 nq, a3, a4, a5⟩
  · by_cases hj : j = i
    · subst hj
      rw [List.getElem?_set_self hl] at e
      cases e
    · rw [List.getElem?_set_ne (Ne.symm hj)] at e
      exact s.vv j x e
  · have back : ∀ {m : Nat} {zs : List PD}, (Γ.set i (.l ys))[m]? = some (.l zs) → ∃ us, Γ[m]? = some (.l us) := fun {m zs} e => by
      by_cases hm : m = i
      · subst hm
        exact ⟨xs, hi⟩
      · rw [List.getElem?_set_ne (Ne.symm hm)] at e
        exact ⟨zs, e⟩
    obtain ⟨z1, b1⟩ := back e1
    obtain ⟨z2, b2⟩ := back e2
    exact s.ap j k z1 z2 q b1 b2 hjk h
/-- an own list is data from here on -/
theorem SR.freeze (s : SR W G H σ Γ) {i : Nat} {xs : List PD} (hi : Γ[i]? = some (.l xs)) : ∃ G', Same G G' ∧ SR W G' H σ (Γ.set i (.d (.list xs))) := by
  obtain ⟨p, vs, h1, h2, h3, h4, h5⟩ := s.ll i xs hi
  have hl : i < Γ.length := (List.getElem?_eq_some_iff.mp hi).1
  have g : Same G (upd G p (.lst vs)) := fun a o h => by
    rw [upd_ne (ne_of_none h h4)]
    exact h
  refine ⟨upd G p (.lst vs), g, by rw [List.length_set]; exact s.len, ⟨s.fw.keep, s.fw.live, fun a o h => ?_, fun a o h => ?_⟩, fun a m => ?_, s.ph, fun j x e => ?_, fun j ys e => ?_, fun j x e => ?_, fun j k ys zs q e1 e2 hjk h => ?_⟩
  · rw [upd_ne (ne_of_none h h3)]
    exact s.fw.same a o h
  · by_cases e : a = p
    · subst e
      rw [upd_same] at h
      rw [← h]
      exact h2
    · rw [upd_ne e] at h
      exact s.sub a o h
  · have n : a ≠ p := fun z => W.notM h3 (z ▸ m)
    rw [upd_ne n]
    exact s.mz a m
  · by_cases hj : j = i
    · subst hj
      rw [List.getElem?_set_self hl] at e
      have e2 := Sl.d.inj (Option.some.inj e)
      subst e2
      exact ⟨.ref p, h1, .lst upd_same (DqAll.mono g xs vs h5)⟩
    · rw [List.getElem?_set_ne (Ne.symm hj)] at e
      obtain ⟨v, a1, a2⟩ := s.dd j x e
      exact ⟨v, a1, Dq.mono g x v a2⟩
  · by_cases hj : j = i
    · subst hj
      rw [List.getElem?_set_self hl] at e
      cases e
    · rw [List.getElem?_set_ne (Ne.symm hj)] at e
      obtain ⟨q, us, a1, a2, a3, a4, a5⟩ := s.ll j ys e
      have nq : q ≠ p := fun z => by
        subst z
        exact s.ap j i ys xs q e hi hj a1 h1
      exact ⟨q, us, a1, a2, a3, by rw [upd_ne nq]; exact a4, DqAll.mono g ys us a5⟩
  · by_cases hj : j = i
    · subst hj
      rw [List.getElem?_set_self hl] at e
      cases e
    · rw [List.getElem?_set_ne (Ne.symm hj)] at e
      exact s.vv j x e
  · have back : ∀ {m : Nat} {zs : List PD}, (Γ.set i (.d (.list xs)))[m]? = some (.l zs) → Γ[m]? = some (.l zs) := fun {m zs} e => by
      by_cases hm : m = i
      · subst hm
        rw [List.getElem?_set_self hl] at e
        cases e
      · rw [List.getElem?_set_ne (Ne.symm hm)] at e
        exact e
    exact s.ap j k ys zs q (back e1) (back e2) hjk h
end
end K24

set_option Elab.async false
set_option linter.all false
set_option maxRecDepth 100000
/-! K24B: what a reading gives, from slots that hold data to data. -/
namespace K24
open PySem PySem.Spec L2

def DE (W : Wd) (te : TE) (Γ : List Sl) (P : PD → Prop) : Prop := ∀ (σ : L2.St) (G H : Hp), SR W G H σ Γ → ∀ Q : VK, (∀ (v : V) (G' H' : Hp) (d : PD), SR W G' H' σ Γ → Fw W.M G H G' H' → P d → Dq G' v d → Q v H') → te σ H Q
def DT (W : Wd) (tt : TT) (Γ : List Sl) (P : Bool → Prop) : Prop := ∀ (σ : L2.St) (G H : Hp), SR W G H σ Γ → ∀ Q : Bool → Hp → Prop, (∀ (b : Bool) (G' H' : Hp), SR W G' H' σ Γ → Fw W.M G H G' H' → P b → Q b H') → tt σ H Q
def DA (W : Wd) (ta : TA) (Γ : List Sl) (P : List PD → Prop) : Prop := ∀ (σ : L2.St) (G H : Hp), SR W G H σ Γ → ∀ Q : List V → Hp → Prop, (∀ (vs : List V) (G' H' : Hp) (ds : List PD), SR W G' H' σ Γ → Fw W.M G H G' H' → P ds → DqAll G' vs ds → Q vs H') → ta σ H Q
def DO (W : Wd) (to : TO) (Γ : List Sl) (P : Option Int → Prop) : Prop := ∀ (σ : L2.St) (G H : Hp), SR W G H σ Γ → ∀ Q : Option Int → Hp → Prop, (∀ (o : Option Int) (G' H' : Hp), SR W G' H' σ Γ → Fw W.M G H G' H' → P o → Q o H') → to σ H Q
abbrev DV (W : Wd) (te : TE) (Γ : List Sl) (x : PD) : Prop := DE W te Γ (fun d => d = x)
abbrev DTv (W : Wd) (tt : TT) (Γ : List Sl) (b : Bool) : Prop := DT W tt Γ (fun c => c = b)
abbrev DAv (W : Wd) (ta : TA) (Γ : List Sl) (xs : List PD) : Prop := DA W ta Γ (fun ds => ds = xs)
abbrev DOv (W : Wd) (to : TO) (Γ : List Sl) (o : Option Int) : Prop := DO W to Γ (fun c => c = o)
/-- operations on data -/
def RD (r : R2) (x y : PD) (P : PD → Prop) : Prop := ∀ (G H : Hp) (v u : V), Same G H → Dq G v x → Dq G u y → ∀ Q : VK, (∀ (w : V) (G' H' : Hp) (z : PD), Fw Nm G H G' H' → P z → Dq G' w z → Q w H') → r v u H Q
def RU (r : V → Hp → VK → Prop) (x : PD) (P : PD → Prop) : Prop := ∀ (G H : Hp) (v : V), Same G H → Dq G v x → ∀ Q : VK, (∀ (w : V) (G' H' : Hp) (z : PD), Fw Nm G H G' H' → P z → Dq G' w z → Q w H') → r v H Q
def RC (r : List V → Hp → VK → Prop) (xs : List PD) (P : PD → Prop) : Prop := ∀ (G H : Hp) (vs : List V), Same G H → DqAll G vs xs → ∀ Q : VK, (∀ (w : V) (G' H' : Hp) (z : PD), Fw Nm G H G' H' → P z → Dq G' w z → Q w H') → r vs H Q
def RS (r : V → Option Int → Option Int → Hp → VK → Prop) (x : PD) (lo hi : Option Int) (P : PD → Prop) : Prop := ∀ (G H : Hp) (v : V), Same G H → Dq G v x → ∀ Q : VK, (∀ (w : V) (G' H' : Hp) (z : PD), Fw Nm G H G' H' → P z → Dq G' w z → Q w H') → r v lo hi H Q

section
variable {W : Wd} {Γ : List Sl} {ta tb tc te : TE} {tt tu : TT} {P P1 : PD → Prop} {x y z : PD}
theorem DE.imp (h : DE W te Γ P1) (k : ∀ d, P1 d → P d) : DE W te Γ P := fun σ G H s Q q => h σ G H s Q fun v G' H' d s' f p hv => q v G' H' d s' f (k d p) hv
theorem DV.to (h : DV W te Γ x) (e : x = y) : DV W te Γ y := e ▸ h
theorem DTv.to {a b : Bool} (h : DTv W tt Γ a) (e : a = b) : DTv W tt Γ b := e ▸ h
theorem DT.imp {P1 P : Bool → Prop} (h : DT W tt Γ P1) (k : ∀ d, P1 d → P d) : DT W tt Γ P := fun σ G H s Q q => h σ G H s Q fun b G' H' s' f p => q b G' H' s' f (k b p)
theorem de_pure {v : V} (h : ∀ G, Dq G v x) : DV W (tC v) Γ x := fun σ G H s Q q => q v G H x s (Fw.refl s.sub) rfl (h G)
theorem dv_var {i : Nat} (h : Γ[i]? = some (Sl.d x)) : DV W (tVar i) Γ x := fun σ G H s Q q => by
  obtain ⟨v, h1, h2⟩ := s.dd i x h
  exact ⟨v, h1, q v G H x s (Fw.refl s.sub) rfl h2⟩
theorem dv_int {i : Int} : DV W (tC (.int i)) Γ (.int i) := de_pure fun _ => .int i
theorem dv_str {i : Str} : DV W (tC (.str i)) Γ (.str i) := de_pure fun _ => .str i
theorem dv_bl {i : Bool} : DV W (tC (.bl i)) Γ (.bool i) := de_pure fun _ => .bl i
theorem dv_non : DV W (tC .non) Γ .none := de_pure fun _ => .non
theorem de_op {r : R2} {P2 : PD → PD → Prop} (ha : DE W ta Γ P1) (hb : ∀ x, P1 x → DE W tb Γ (P2 x)) (hr : ∀ x y, P1 x → P2 x y → RD r x y P) : DE W (tOp r ta tb) Γ P := fun σ G H s Q q =>
  ha σ G H s _ fun v G1 H1 x s1 f1 px hv => hb x px σ G1 H1 s1 _ fun u G2 H2 y s2 f2 py hu => hr x y px py G2 H2 v u s2.sub (Dq.mono (f2.grow s1.sub) x v hv) hu Q fun w G3 H3 z f3 pz hw =>
    q w G3 H3 z (s2.step0 f3) ((f1.trans f2).trans f3.any) pz hw
theorem dv_op {r : R2} (ha : DV W ta Γ x) (hb : DV W tb Γ y) (hr : RD r x y P) : DE W (tOp r ta tb) Γ P :=
  de_op ha (fun _ _ => hb) fun x' y' e1 e2 => by
    cases e1
    cases e2
    exact hr
theorem dv_un {r : V → Hp → VK → Prop} (ha : DV W ta Γ x) (hr : RU r x P) : DE W (tUn r ta) Γ P := fun σ G H s Q q =>
  ha σ G H s _ fun v G1 H1 x' s1 f1 px hv => by
    cases px
    exact hr G1 H1 v s1.sub hv Q fun w G3 H3 z f3 pz hw => q w G3 H3 z (s1.step0 f3) (f1.trans f3.any) pz hw
theorem da_nil : DAv W tNil Γ [] := fun σ G H s Q q => q [] G H [] s (Fw.refl s.sub) rfl .nil
theorem da_cons {tr : TA} {P2 : PD → List PD → Prop} {P3 : List PD → Prop} (ha : DE W ta Γ P1) (hr : ∀ x, P1 x → DA W tr Γ (P2 x)) (k : ∀ x xs, P1 x → P2 x xs → P3 (x :: xs)) : DA W (tCons ta tr) Γ P3 := fun σ G H s Q q =>
  ha σ G H s _ fun v G1 H1 x s1 f1 px hv => hr x px σ G1 H1 s1 _ fun us G2 H2 ys s2 f2 py hu => q (v :: us) G2 H2 (x :: ys) s2 (f1.trans f2) (k x ys px py) (.cons (Dq.mono (f2.grow s1.sub) x v hv) hu)
theorem dav_cons {tr : TA} {xs : List PD} (ha : DV W ta Γ x) (hr : DAv W tr Γ xs) : DAv W (tCons ta tr) Γ (x :: xs) := da_cons ha (fun _ _ => hr) fun x' xs' e1 e2 => by rw [e1, e2]
theorem DAv.to {t : TA} {xs ys : List PD} (h : DAv W t Γ xs) (e : xs = ys) : DAv W t Γ ys := e ▸ h
theorem DA.imp {t : TA} {P1 P : List PD → Prop} (h : DA W t Γ P1) (k : ∀ d, P1 d → P d) : DA W t Γ P := fun σ G H s Q q => h σ G H s Q fun v G' H' d s' f p hv => q v G' H' d s' f (k d p) hv
theorem de_tup {t : TA} {P1 : List PD → Prop} (h : DA W t Γ P1) (hz : ∀ xs, P1 xs → xs.length ≤ sizeLine) (k : ∀ xs, P1 xs → P (.tuple xs)) : DE W (tTup t) Γ P := fun σ G H s Q q =>
  h σ G H s _ fun vs G1 H1 xs s1 f1 px hv => ⟨by rw [hv.length]; exact hz xs px, fun p hp => q (.ref p) (upd G1 p (.tup vs)) _ (.tuple xs) (s1.new _ hp) (f1.trans (Fw.new s1.sub hp)) (k xs px) (.tup upd_same (DqAll.mono (Fw.grow (M := Nm) (Fw.new s1.sub hp) s1.sub) xs vs hv))⟩
theorem de_lst {t : TA} {P1 : List PD → Prop} (h : DA W t Γ P1) (hz : ∀ xs, P1 xs → xs.length ≤ sizeLine) (k : ∀ xs, P1 xs → P (.list xs)) : DE W (tLst t) Γ P := fun σ G H s Q q =>
  h σ G H s _ fun vs G1 H1 xs s1 f1 px hv => ⟨by rw [hv.length]; exact hz xs px, fun p hp => q (.ref p) (upd G1 p (.lst vs)) _ (.list xs) (s1.new _ hp) (f1.trans (Fw.new s1.sub hp)) (k xs px) (.lst upd_same (DqAll.mono (Fw.grow (M := Nm) (Fw.new s1.sub hp) s1.sub) xs vs hv))⟩
theorem sz {n : Nat} (h : n ≤ 100000) : n ≤ sizeLine := Nat.le_trans h (by decide)
theorem dv_tup {t : TA} {xs : List PD} (h : DAv W t Γ xs) (hz : xs.length ≤ 100000 := by decide) : DV W (tTup t) Γ (.tuple xs) := de_tup h (fun ys e => by rw [e]; exact sz hz) fun ys e => by rw [e]
theorem dv_lst {t : TA} {xs : List PD} (h : DAv W t Γ xs) (hz : xs.length ≤ 100000 := by decide) : DV W (tLst t) Γ (.list xs) := de_lst h (fun ys e => by rw [e]; exact sz hz) fun ys e => by rw [e]
theorem dov_none : DOv W tNoPart Γ none := fun σ G H s Q q => q none G H s (Fw.refl s.sub) rfl
theorem dov_some {i : Int} (h : DV W te Γ (.int i)) : DOv W (tPart te) Γ (some i) := fun σ G H s Q q => h σ G H s _ fun v G1 H1 x s1 f1 px hv => by
  cases px
  cases hv
  exact ⟨i, rfl, q (some i) G1 H1 s1 f1 rfl⟩
theorem dv_sl {r : V → Option Int → Option Int → Hp → VK → Prop} {tl th : TO} {lo hi : Option Int} (h : DV W te Γ x) (h1 : DOv W tl Γ lo) (h2 : DOv W th Γ hi) (hr : RS r x lo hi P) : DE W (tSl r te tl th) Γ P := fun σ G H s Q q =>
  h σ G H s _ fun v G1 H1 x' s1 f1 px hv => h1 σ G1 H1 s1 _ fun o1 G2 H2 s2 f2 p1 => h2 σ G2 H2 s2 _ fun o2 G3 H3 s3 f3 p2 => by
    cases px
    cases p1
    cases p2
    exact hr G3 H3 v s3.sub (Dq.mono (f3.grow s2.sub) _ _ (Dq.mono (f2.grow s1.sub) _ _ hv)) Q fun w G4 H4 z f4 pz hw => q w G4 H4 z (s3.step0 f4) (((f1.trans f2).trans f3).trans f4.any) pz hw
theorem dv_cb {r : List V → Hp → VK → Prop} {t : TA} {xs : List PD} (h : DAv W t Γ xs) (hr : RC r xs P) : DE W (tCB r t) Γ P := fun σ G H s Q q =>
  h σ G H s _ fun vs G1 H1 ys s1 f1 py hv => by
    cases py
    exact hr G1 H1 vs s1.sub hv Q fun w G4 H4 z f4 pz hw => q w G4 H4 z (s1.step0 f4) (f1.trans f4.any) pz hw
theorem de_cb {r : List V → Hp → VK → Prop} {t : TA} {P1 : List PD → Prop} (h : DA W t Γ P1) (hr : ∀ xs, P1 xs → RC r xs P) : DE W (tCB r t) Γ P := fun σ G H s Q q =>
  h σ G H s _ fun vs G1 H1 ys s1 f1 py hv => hr ys py G1 H1 vs s1.sub hv Q fun w G4 H4 z f4 pz hw => q w G4 H4 z (s1.step0 f4) (f1.trans f4.any) pz hw
/-! ### tests -/
theorem dt_test {b : Bool} (h : DV W te Γ (.bool b)) : DTv W (tTest te) Γ b := fun σ G H s Q q => h σ G H s _ fun v G1 H1 x s1 f1 px hv => by
  cases px
  cases hv
  exact ⟨b, rfl, q b G1 H1 s1 f1 rfl⟩
theorem dt_B {b : Bool} (h : DV W te Γ (.bool b)) : DTv W (tB te) Γ b := fun σ G H s Q q => h σ G H s _ fun v G1 H1 x s1 f1 px hv => by
  cases px
  cases hv
  exact ⟨b, rfl, q b G1 H1 s1 f1 rfl⟩
theorem dtp_test {P : Bool → Prop} (h : DE W te Γ (fun d => ∃ b, d = .bool b ∧ P b)) : DT W (tTest te) Γ P := fun σ G H s Q q => h σ G H s _ fun v G1 H1 x s1 f1 px hv => by
  obtain ⟨b, e, p⟩ := px
  subst e
  cases hv
  exact ⟨b, rfl, q b G1 H1 s1 f1 p⟩
theorem dt_and {a b : Bool} (h1 : DTv W tt Γ a) (h2 : a = true → DTv W tu Γ b) (h3 : a = false → b = false := by intro h; first | rfl | (cases h)) : DTv W (tAnd tt tu) Γ b := fun σ G H s Q q => h1 σ G H s _ fun c G1 H1 s1 f1 pc => by
  cases pc
  cases a with
  | true =>
    show tu σ H1 Q
    exact h2 rfl σ G1 H1 s1 Q fun b' G2 H2 s2 f2 pb => q b' G2 H2 s2 (f1.trans f2) pb
  | false =>
    show Q false H1
    exact q false G1 H1 s1 f1 (h3 rfl).symm
theorem dt_or {a b : Bool} (h1 : DTv W tt Γ a) (h2 : a = false → DTv W tu Γ b) (h3 : a = true → b = true := by intro h; first | rfl | (cases h)) : DTv W (tOr tt tu) Γ b := fun σ G H s Q q => h1 σ G H s _ fun c G1 H1 s1 f1 pc => by
  cases pc
  cases a with
  | false =>
    show tu σ H1 Q
    exact h2 rfl σ G1 H1 s1 Q fun b' G2 H2 s2 f2 pb => q b' G2 H2 s2 (f1.trans f2) pb
  | true =>
    show Q true H1
    exact q true G1 H1 s1 f1 (h3 rfl).symm
theorem dt_and2 {a b : Bool} (h1 : DTv W tt Γ a) (h2 : DTv W tu Γ b) : DTv W (tAnd tt tu) Γ (a && b) := by
  cases a with
  | true => exact dt_and h1 fun _ => h2
  | false => exact dt_and h1 (fun z => nomatch z) fun _ => rfl
theorem dt_or2 {a b : Bool} (h1 : DTv W tt Γ a) (h2 : DTv W tu Γ b) : DTv W (tOr tt tu) Γ (a || b) := by
  cases a with
  | false => exact dt_or h1 fun _ => h2
  | true => exact dt_or h1 (fun z => nomatch z) fun _ => rfl
theorem dt_not {a : Bool} (h1 : DTv W tt Γ a) : DTv W (tNot tt) Γ (!a) := fun σ G H s Q q => h1 σ G H s _ fun c G1 H1 s1 f1 pc => q (!c) G1 H1 s1 f1 (by rw [pc])
theorem dt_yes : DTv W tYes Γ true := fun σ G H s Q q => q true G H s (Fw.refl s.sub) rfl
theorem dv_andV {a b : Bool} (h1 : DV W ta Γ (.bool a)) (h2 : a = true → DV W tb Γ (.bool b)) (h3 : a = false → b = false := by intro h; first | rfl | (cases h)) : DV W (tAndV ta tb) Γ (.bool b) := fun σ G H s Q q => h1 σ G H s _ fun v G1 H1 x s1 f1 px hv => by
  cases px
  cases hv
  refine ⟨a, rfl, ?_⟩
  cases a with
  | true =>
    show tb σ H1 Q
    exact h2 rfl σ G1 H1 s1 Q fun b' G2 H2 d s2 f2 pb => q b' G2 H2 d s2 (f1.trans f2) pb
  | false =>
    show Q (.bl false) H1
    exact q _ G1 H1 _ s1 f1 (by rw [h3 rfl]) (.bl false)
theorem dv_orV {a b : Bool} (h1 : DV W ta Γ (.bool a)) (h2 : a = false → DV W tb Γ (.bool b)) (h3 : a = true → b = true := by intro h; first | rfl | (cases h)) : DV W (tOrV ta tb) Γ (.bool b) := fun σ G H s Q q => h1 σ G H s _ fun v G1 H1 x s1 f1 px hv => by
  cases px
  cases hv
  refine ⟨a, rfl, ?_⟩
  cases a with
  | false =>
    show tb σ H1 Q
    exact h2 rfl σ G1 H1 s1 Q fun b' G2 H2 d s2 f2 pb => q b' G2 H2 d s2 (f1.trans f2) pb
  | true =>
    show Q (.bl true) H1
    exact q _ G1 H1 _ s1 f1 (by rw [h3 rfl]) (.bl true)
theorem dv_andV2 {a b : Bool} (h1 : DV W ta Γ (.bool a)) (h2 : DV W tb Γ (.bool b)) : DV W (tAndV ta tb) Γ (.bool (a && b)) := by
  cases a with
  | true => exact dv_andV h1 fun _ => h2
  | false => exact dv_andV h1 (fun z => nomatch z) fun _ => rfl
theorem dv_orV2 {a b : Bool} (h1 : DV W ta Γ (.bool a)) (h2 : DV W tb Γ (.bool b)) : DV W (tOrV ta tb) Γ (.bool (a || b)) := by
  cases a with
  | false => exact dv_orV h1 fun _ => h2
  | true => exact dv_orV h1 (fun z => nomatch z) fun _ => rfl
theorem dv_notV {a : Bool} (h1 : DV W ta Γ (.bool a)) : DV W (tNotV ta) Γ (.bool (!a)) := fun σ G H s Q q => h1 σ G H s _ fun v G1 H1 x s1 f1 px hv => by
  cases px
  cases hv
  exact ⟨a, rfl, q _ G1 H1 _ s1 f1 rfl (.bl (!a))⟩
theorem de_if {b : Bool} (h : DTv W tt Γ b) (h1 : b = true → DE W ta Γ P) (h2 : b = false → DE W tb Γ P) : DE W (tIf tt ta tb) Γ P := fun σ G H s Q q => h σ G H s _ fun c G1 H1 s1 f1 pc => by
  cases pc
  cases b with
  | true =>
    show ta σ H1 Q
    exact h1 rfl σ G1 H1 s1 Q fun b' G2 H2 d s2 f2 pb => q b' G2 H2 d s2 (f1.trans f2) pb
  | false =>
    show tb σ H1 Q
    exact h2 rfl σ G1 H1 s1 Q fun b' G2 H2 d s2 f2 pb => q b' G2 H2 d s2 (f1.trans f2) pb
theorem de_ifp {PT : Bool → Prop} (h : DT W tt Γ PT) (h1 : PT true → DE W ta Γ P) (h2 : PT false → DE W tb Γ P) : DE W (tIf tt ta tb) Γ P := fun σ G H s Q q => h σ G H s _ fun c G1 H1 s1 f1 pc => by
  cases c with
  | true =>
    show ta σ H1 Q
    exact h1 pc σ G1 H1 s1 Q fun b' G2 H2 d s2 f2 pb => q b' G2 H2 d s2 (f1.trans f2) pb
  | false =>
    show tb σ H1 Q
    exact h2 pc σ G1 H1 s1 Q fun b' G2 H2 d s2 f2 pb => q b' G2 H2 d s2 (f1.trans f2) pb
theorem dv_if2 {b : Bool} (h : DTv W tt Γ b) (h1 : DV W ta Γ x) (h2 : DV W tb Γ y) : DV W (tIf tt ta tb) Γ (if b = true then x else y) := by
  cases b with
  | true => exact de_if h (fun _ => h1) (fun z => nomatch z)
  | false => exact de_if h (fun z => nomatch z) (fun _ => h2)
/-- a op1 b op2 c -/
theorem dv_chain {r r' : R2} {a b : Bool} (ha : DV W ta Γ x) (hb : DV W tb Γ y) (hc : DV W tc Γ z) (h1 : RD r x y (fun d => d = .bool a)) (h2 : RD r' y z (fun d => d = .bool b)) : DV W (tChain r r' ta tb tc) Γ (.bool (a && b)) := fun σ G H s Q q =>
  ha σ G H s _ fun v G1 H1 x' s1 f1 px hv => hb σ G1 H1 s1 _ fun u G2 H2 y' s2 f2 py hu => by
    cases px
    cases py
    refine h1 G2 H2 v u s2.sub (Dq.mono (f2.grow s1.sub) _ _ hv) hu _ fun w G3 H3 z' f3 pz hw => ?_
    cases pz
    cases hw
    have s3 := s2.step0 f3
    refine ⟨a, rfl, ?_⟩
    cases a with
    | false =>
      show Q (.bl false) H3
      exact q _ G3 H3 _ s3 ((f1.trans f2).trans f3.any) rfl (.bl false)
    | true =>
      refine (hc σ G3 H3 s3 _ fun w4 G4 H4 z4 s4 f4 p4 h4 => ?_ : tc σ H3 _)
      cases p4
      refine h2 G4 H4 u w4 s4.sub (Dq.mono (f4.grow s3.sub) _ _ (Dq.mono (f3.grow s2.sub) _ _ hu)) h4 Q fun w5 G5 H5 z5 f5 p5 h5 => ?_
      exact q w5 G5 H5 z5 (s4.step0 f5) ((((f1.trans f2).trans f3.any).trans f4).trans f5.any) (by rw [p5]; rfl) h5
end

theorem new_l {G H : Hp} {p : Addr} {vs : List V} {xs : List PD} (s : Same G H) (hp : H p = none) (h : DqAll G vs xs) : Fw Nm G H (upd G p (.lst vs)) (upd H p (.lst vs)) ∧ Dq (upd G p (.lst vs)) (.ref p) (.list xs) :=
  ⟨Fw.new s hp, .lst upd_same (DqAll.mono (Fw.grow (M := Nm) (Fw.new s hp) s) xs vs h)⟩
theorem new_t {G H : Hp} {p : Addr} {vs : List V} {xs : List PD} (s : Same G H) (hp : H p = none) (h : DqAll G vs xs) : Fw Nm G H (upd G p (.tup vs)) (upd H p (.tup vs)) ∧ Dq (upd G p (.tup vs)) (.ref p) (.tuple xs) :=
  ⟨Fw.new s hp, .tup upd_same (DqAll.mono (Fw.grow (M := Nm) (Fw.new s hp) s) xs vs h)⟩
/-! ### operations -/
section
variable {K : PySem.W.Frag}
theorem rd_ret {r : R2} {x y z : PD} (h : ∀ (G H : Hp) (v u : V), Same G H → Dq G v x → Dq G u y → ∃ w : V, Dq G w z ∧ ∀ Q : VK, Q w H → r v u H Q) : RD r x y (fun d => d = z) := fun G H v u s hv hu Q q => by
  obtain ⟨w, hw, k⟩ := h G H v u s hv hu
  exact k Q (q w G H z (Fw.refl s) rfl hw)
theorem rd_I0 {g : Int → Int → V} {i j : Int} {z : PD} (hz : ∀ G, Dq G (g i j) z) : RD (rI0 g) (.int i) (.int j) (fun d => d = z) := rd_ret fun G H v u s hv hu => by
  cases hv
  cases hu
  exact ⟨g i j, hz G, fun Q q => ⟨i, j, rfl, rfl, q⟩⟩
theorem rd_add {i j : Int} : RD (rI0 fun i j => .int (i + j)) (.int i) (.int j) (fun d => d = .int (i + j)) := rd_I0 fun _ => .int _
theorem rd_sub {i j : Int} : RD (rI0 fun i j => .int (i - j)) (.int i) (.int j) (fun d => d = .int (i - j)) := rd_I0 fun _ => .int _
theorem rd_lt {i j : Int} : RD (rI0 fun i j => .bl (decide (i < j))) (.int i) (.int j) (fun d => d = .bool (decide (i < j))) := rd_I0 fun _ => .bl _
theorem rd_le {i j : Int} : RD (rI0 fun i j => .bl (decide (i ≤ j))) (.int i) (.int j) (fun d => d = .bool (decide (i ≤ j))) := rd_I0 fun _ => .bl _
theorem rd_gt {i j : Int} : RD (rI0 fun i j => .bl (decide (j < i))) (.int i) (.int j) (fun d => d = .bool (decide (j < i))) := rd_I0 fun _ => .bl _
theorem rd_ge {i j : Int} : RD (rI0 fun i j => .bl (decide (j ≤ i))) (.int i) (.int j) (fun d => d = .bool (decide (j ≤ i))) := rd_I0 fun _ => .bl _
theorem rd_I {C : Int → Int → Prop} {g : Int → Int → V} {i j : Int} {z : PD} (hc : C i j) (hz : ∀ G, Dq G (g i j) z) : RD (rI C g) (.int i) (.int j) (fun d => d = z) := rd_ret fun G H v u s hv hu => by
  cases hv
  cases hu
  exact ⟨g i j, hz G, fun Q q => ⟨i, j, rfl, rfl, hc, q⟩⟩
theorem rd_mul {i j : Int} (h : CMul i j) : RD (rI CMul fun i j => .int (i * j)) (.int i) (.int j) (fun d => d = .int (i * j)) := rd_I h fun _ => .int _
theorem rd_mod {i j : Int} (h : 0 < j) : RD (rI (fun _ j => 0 < j) fun i j => .int (i % j)) (.int i) (.int j) (fun d => d = .int (i % j)) := rd_I h fun _ => .int _
theorem rd_fdiv {i j : Int} (h : CDiv i j) : RD (rI CDiv fun i j => .int (i / j)) (.int i) (.int j) (fun d => d = .int (i / j)) := rd_I h fun _ => .int _
theorem rd_pow {i j : Int} (h : CPow i j) : RD (rI CPow fun i j => .int (i ^ j.toNat)) (.int i) (.int j) (fun d => d = .int (i ^ j.toNat)) := rd_I h fun _ => .int _
theorem dInt {i j : Int} : decide (V.int i = V.int j) = decide (i = j) := by
  by_cases h : i = j
  · rw [decide_eq_true h, decide_eq_true (congrArg V.int h)]
  · rw [decide_eq_false h, decide_eq_false (fun z => h (V.int.inj z))]
theorem dStr {i j : Str} : decide (V.str i = V.str j) = decide (i = j) := by
  by_cases h : i = j
  · rw [decide_eq_true h, decide_eq_true (congrArg V.str h)]
  · rw [decide_eq_false h, decide_eq_false (fun z => h (V.str.inj z))]
theorem rd_eqI {i j : Int} : RD rEq (.int i) (.int j) (fun d => d = .bool (decide (i = j))) := rd_ret fun G H v u s hv hu => by
  cases hv
  cases hu
  exact ⟨_, .bl _, fun Q q => ⟨rfl, by rw [dInt]; exact q⟩⟩
theorem rd_neI {i j : Int} : RD rNe (.int i) (.int j) (fun d => d = .bool (!decide (i = j))) := rd_ret fun G H v u s hv hu => by
  cases hv
  cases hu
  exact ⟨_, .bl _, fun Q q => ⟨rfl, by rw [dInt]; exact q⟩⟩
theorem rd_eqS {i j : Str} : RD rEq (.str i) (.str j) (fun d => d = .bool (decide (i = j))) := rd_ret fun G H v u s hv hu => by
  cases hv
  cases hu
  exact ⟨_, .bl _, fun Q q => ⟨rfl, by rw [dStr]; exact q⟩⟩
theorem rd_neS {i j : Str} : RD rNe (.str i) (.str j) (fun d => d = .bool (!decide (i = j))) := rd_ret fun G H v u s hv hu => by
  cases hv
  cases hu
  exact ⟨_, .bl _, fun Q q => ⟨rfl, by rw [dStr]; exact q⟩⟩
theorem atI_q {G : Hp} {vs : List V} {ds : List PD} {i : Int} {d : PD} (h : DqAll G vs ds) (e : atI ds i = some d) : ∃ v, atI vs i = some v ∧ Dq G v d := by
  unfold atI at e ⊢
  rw [h.length]
  cases q : ixN ds.length i with
  | none =>
    rw [q] at e
    cases e
  | some j =>
    rw [q] at e
    exact h.get e
theorem rd_ixL {ds : List PD} {i : Int} {d : PD} (e : atI ds i = some d) : RD (rIxL K) (.list ds) (.int i) (fun z => z = d) := rd_ret fun G H v u s hv hu => by
  cases hu
  cases hv with
  | lst h1 h2 =>
    obtain ⟨w, a, b⟩ := atI_q h2 e
    exact ⟨w, b, fun Q q => ⟨_, _, i, w, rfl, rfl, SqL.of (s _ _ h1), a, q⟩⟩
theorem rd_ixT {ds : List PD} {i : Int} {d : PD} (e : atI ds i = some d) : RD (rIxT K) (.tuple ds) (.int i) (fun z => z = d) := rd_ret fun G H v u s hv hu => by
  cases hu
  cases hv with
  | tup h1 h2 =>
    obtain ⟨w, a, b⟩ := atI_q h2 e
    exact ⟨w, b, fun Q q => ⟨_, _, i, w, rfl, rfl, SqT.of (s _ _ h1), a, q⟩⟩
theorem atI_nn {α : Type} {xs : List α} {i : Int} {v : α} (h0 : 0 ≤ i) (h : xs[i.toNat]? = some v) : atI xs i = some v := by
  have e : i = ((i.toNat : Nat) : Int) := by omega
  rw [e]
  exact atI_nat h
/-- == and != of data -/
theorem rd_eqD {x y : PD} (hx : SeqAt.shaped x = true) (hy : SeqAt.shaped y = true) : RD (rEqD K) x y (fun d => d = .bool (PyData.eqv x y)) := rd_ret fun G H v u s hv hu =>
  ⟨_, .bl _, fun Q q => ⟨x, y, Dq.dp x v (Dq.mono s x v hv), Dq.dp y u (Dq.mono s y u hu), hx, hy, q⟩⟩
theorem rd_neD {x y : PD} (hx : SeqAt.shaped x = true) (hy : SeqAt.shaped y = true) : RD (rNeD K) x y (fun d => d = .bool (!PyData.eqv x y)) := rd_ret fun G H v u s hv hu =>
  ⟨_, .bl _, fun Q q => ⟨x, y, Dq.dp x v (Dq.mono s x v hv), Dq.dp y u (Dq.mono s y u hu), hx, hy, q⟩⟩
/-- a new list, a new tuple -/
theorem rd_cat {xs ys : List PD} (hz : xs.length + ys.length ≤ 100000) : RD rCat (.list xs) (.list ys) (fun d => d = .list (xs ++ ys)) := fun G H v u s hv hu Q q => by
  cases hv with
  | lst h1 h2 =>
    cases hu with
    | lst h3 h4 =>
      refine ⟨_, _, _, _, rfl, rfl, s _ _ h1, s _ _ h3, by rw [h2.length, h4.length]; exact sz hz, fun p hp => ?_⟩
      obtain ⟨f, dd⟩ := new_l s hp (h2.append h4)
      exact q _ _ _ _ f rfl dd
theorem rd_catT {xs ys : List PD} (hx : xs ≠ []) (hy : ys ≠ []) (hz : xs.length + ys.length ≤ 100000) : RD (rCatA K) (.tuple xs) (.tuple ys) (fun d => d = .tuple (xs ++ ys)) := fun G H v u s hv hu Q q => by
  cases hv with
  | tup h1 h2 =>
    cases hu with
    | tup h3 h4 =>
      refine ⟨_, _, _, _, rfl, rfl, SqT.of (s _ _ h1), SqT.of (s _ _ h3), by rw [h2.length, h4.length]; exact sz hz, fun e => ?_, fun _ e => ?_, fun _ _ p hp => ?_⟩
      · subst e
        have l := h2.length
        exact absurd (List.length_eq_zero_iff.mp l.symm) hx
      · subst e
        have l := h4.length
        exact absurd (List.length_eq_zero_iff.mp l.symm) hy
      · obtain ⟨f, dd⟩ := new_t s hp (h2.append h4)
        exact q _ _ _ _ f rfl dd
theorem rd_catT0 {ys : List PD} (hz : ys.length ≤ 100000) : RD (rCatA K) (.tuple []) (.tuple ys) (fun d => d = .tuple ys) := fun G H v u s hv hu Q q => by
  cases hv with
  | tup h1 h2 =>
    cases h2
    cases hu with
    | tup h3 h4 =>
      refine ⟨_, _, _, _, rfl, rfl, SqT.of (s _ _ h1), SqT.of (s _ _ h3), by rw [h4.length]; exact sz (by simpa using hz), fun e => ?_, fun e => absurd rfl e, fun e => absurd rfl e⟩
      exact q _ G H _ (Fw.refl s) rfl (.tup h3 h4)
theorem rd_rep {xs : List PD} {k : Int} (h0 : 0 ≤ k) (h1 : k ≤ 1000) (hz : xs.length ≤ 100) : RD rRep (.list xs) (.int k) (fun d => d = .list (List.replicate k.toNat xs).flatten) := fun G H v u s hv hu Q q => by
  cases hu
  cases hv with
  | lst a1 a2 =>
    refine ⟨_, k, _, rfl, rfl, s _ _ a1, by omega, by omega, ?_, fun p hp => ?_⟩
    · rw [a2.length]
      exact sz (Nat.le_trans (Nat.mul_le_mul hz (show k.toNat ≤ 1000 by omega)) (by decide))
    · obtain ⟨f, dd⟩ := new_l s hp (a2.rep k.toNat)
      exact q _ _ _ _ f rfl dd
theorem ru_neg {i : Int} : RU (rU fun i => .int (-i)) (.int i) (fun d => d = .int (-i)) := fun G H v s hv Q q => by
  cases hv
  exact ⟨i, rfl, q _ G H _ (Fw.refl s) rfl (.int _)⟩
/-! slices -/
def cutD (xs : List PD) (lo hi : Option Int) : List PD := (xs.drop (HT.sIx xs.length 0 lo)).take (HT.sIx xs.length xs.length hi - HT.sIx xs.length 0 lo)
theorem cut_q {G : Hp} {vs : List V} {ds : List PD} (h : DqAll G vs ds) (lo hi : Option Int) : DqAll G (cutV vs lo hi) (cutD ds lo hi) := by
  unfold cutV cutD
  rw [h.length]
  exact (h.drop _).take _
theorem rs_L {xs : List PD} {lo hi : Option Int} : RS (rSlL K) (.list xs) lo hi (fun d => d = .list (cutD xs lo hi)) := fun G H v s hv Q q => by
  cases hv with
  | lst h1 h2 =>
    refine ⟨_, _, rfl, SqL.of (s _ _ h1), fun p hp => ?_⟩
    obtain ⟨f, dd⟩ := new_l s hp (cut_q h2 lo hi)
    exact q _ _ _ _ f rfl dd
theorem rs_T {xs : List PD} {lo hi : Option Int} : RS (rSlA K) (.tuple xs) lo hi (fun d => d = .tuple (cutD xs lo hi)) := fun G H v s hv Q q => by
  cases hv with
  | tup h1 h2 =>
    refine ⟨_, _, rfl, SqT.of (s _ _ h1), fun e => ?_, fun _ p hp => ?_⟩
    · refine q _ G H _ (Fw.refl s) rfl ?_
      have e2 : cutD xs lo hi = xs := by
        unfold cutD
        rw [← h2.length, e.1, e.2, List.drop_zero, Nat.sub_zero, h2.length, List.take_length]
      rw [e2]
      exact .tup h1 h2
    · obtain ⟨f, dd⟩ := new_t s hp (cut_q h2 lo hi)
      exact q _ _ _ _ f rfl dd
theorem dv_rev {W : Wd} {Γ : List Sl} {te : TE} {xs : List PD} (h : DV W te Γ (.list xs)) : DV W (tRevL K te) Γ (.list xs.reverse) := fun σ G H s Q q => h σ G H s _ fun v G1 H1 x s1 f1 px hv => by
  cases px
  cases hv with
  | lst h1 h2 =>
    refine ⟨_, _, rfl, SqL.of (s1.sub _ _ h1), fun p hp => ?_⟩
    obtain ⟨f, dd⟩ := new_l s1.sub hp h2.reverse
    exact q _ _ _ _ (s1.step0 f) (f1.trans f.any) rfl dd
/-! x in xs: texts -/
theorem inS {G : Hp} (x : Str) : ∀ {vs : List V} {ss : List Str}, DqAll G vs (ss.map PyData.str) → vs.all flatV = true ∧ inV (.str x) vs = decide (x ∈ ss)
  | _, [], h => by
    cases h
    exact ⟨rfl, rfl⟩
  | _, s :: ss, h => by
    cases h with
    | cons h1 h2 =>
      cases h1
      obtain ⟨a, b⟩ := inS x h2
      refine ⟨by rw [List.all_cons, a]; rfl, ?_⟩
      show (eqV (.str s) (.str x) || inV (.str x) _) = _
      rw [b]
      have e2 : eqV (.str s) (.str x) = decide (s = x) := by
        show (s == x) = decide (s = x)
        exact Bool.beq_eq_decide_eq s x
      rw [e2]
      by_cases hx : x = s
      · subst hx
        simp
      · have hx' : ¬ s = x := fun z => hx z.symm
        simp [hx, hx']
theorem rd_inL {x : Str} {ss : List Str} {ds : List PD} (e : ds = ss.map PyData.str) : RD (rIn K false) (.str x) (.list ds) (fun d => d = .bool (decide (x ∈ ss))) := rd_ret fun G H v u s hv hu => by
  subst e
  cases hv
  cases hu with
  | lst h1 h2 =>
    obtain ⟨a, b⟩ := inS x h2
    exact ⟨_, .bl _, fun Q q => ⟨_, _, rfl, .inl (SqL.of (s _ _ h1)), rfl, a, by
      show Q (.bl (if false = true then _ else _)) H
      rw [if_neg Bool.false_ne_true, b]
      exact q⟩⟩
theorem rd_inT {x : Str} {ss : List Str} {ds : List PD} (e : ds = ss.map PyData.str) : RD (rIn K false) (.str x) (.tuple ds) (fun d => d = .bool (decide (x ∈ ss))) := rd_ret fun G H v u s hv hu => by
  subst e
  cases hv
  cases hu with
  | tup h1 h2 =>
    obtain ⟨a, b⟩ := inS x h2
    exact ⟨_, .bl _, fun Q q => ⟨_, _, rfl, .inr (SqT.of (s _ _ h1)), rfl, a, by
      show Q (.bl (if false = true then _ else _)) H
      rw [if_neg Bool.false_ne_true, b]
      exact q⟩⟩
end
end K24

set_option Elab.async false
set_option linter.all false
set_option maxRecDepth 100000
/-! K24C: statements, loops, comprehensions, calls: from slots to slots. -/
namespace K24
open PySem PySem.Spec L2

def DS (W : Wd) (ts : TS) (Γ : List Sl) (N : List Sl → Prop) (R : PD → Prop) (B C : List Sl → Prop) : Prop := ∀ (σ : L2.St) (G H : Hp) (D : Ends), SR W G H σ Γ →
  (∀ (σ' : L2.St) (G' H' : Hp) (Γ' : List Sl), SR W G' H' σ' Γ' → Same G G' → N Γ' → D.nx σ' H') →
  (∀ (v : V) (G' H' : Hp) (d : PD), Fw W.M W.G0 W.H0 G' H' → W.Ph H' → R d → Dq G' v d → D.rt v H') →
  (∀ (σ' : L2.St) (G' H' : Hp) (Γ' : List Sl), SR W G' H' σ' Γ' → Same G G' → B Γ' → D.bk σ' H') →
  (∀ (σ' : L2.St) (G' H' : Hp) (Γ' : List Sl), SR W G' H' σ' Γ' → Same G G' → C Γ' → D.ct σ' H') → ts D σ H
abbrev No : List Sl → Prop := fun _ => False
def DG (g : TG) (W : Wd) (Γ : List Sl) (x : PD) (N : List Sl → Prop) : Prop := ∀ (σ : L2.St) (G H : Hp) (v : V), SR W G H σ Γ → Dq G v x → ∀ Q : L2.St → Hp → Prop, (∀ (σ' : L2.St) (Γ' : List Sl), SR W G H σ' Γ' → N Γ' → Q σ' H) → g v σ H Q
/-- what is walked -/
def Walk (J : It) (G1 : Hp) (xs : List PD) : Prop := ∀ (i : Nat) (G H : Hp), Same G1 G → Same G H → (∀ x : PD, xs[i]? = some x → J.go i H ∧ ∀ (y : V) (H' : Hp), J.yld i H y H' → ∃ G', Fw Nm G H G' H' ∧ Dq G' y x) ∧ (xs.length = i → J.stop i H)
def DI (W : Wd) (wi : TI) (Γ : List Sl) (P : List PD → Prop) : Prop := ∀ (σ : L2.St) (G H : Hp), SR W G H σ Γ → ∀ R : It → Hp → Prop, (∀ (J : It) (G1 H1 : Hp) (xs : List PD), SR W G1 H1 σ Γ → Fw W.M G H G1 H1 → P xs → Walk J G1 xs → R J H1) → wi σ H R

section
variable {W : Wd} {Γ : List Sl} {ta tb tc te : TE} {tt : TT} {t u : TS} {N : List Sl → Prop} {R : PD → Prop} {B C : List Sl → Prop} {P P1 : PD → Prop} {x y z : PD} {g : TG} {wi : TI} {K : PySem.W.Frag}
theorem ds_seq (h : DS W t Γ (fun Γ' => DS W u Γ' N R B C) R B C) : DS W (tSeq t u) Γ N R B C := fun σ G H D s n r b c =>
  h σ G H { D with nx := u D } s (fun σ' G' H' Γ' s' g' k => k σ' G' H' D s' (fun a1 a2 a3 a4 a5 a6 a7 => n a1 a2 a3 a4 a5 (g'.trans a6) a7) r (fun a1 a2 a3 a4 a5 a6 a7 => b a1 a2 a3 a4 a5 (g'.trans a6) a7) (fun a1 a2 a3 a4 a5 a6 a7 => c a1 a2 a3 a4 a5 (g'.trans a6) a7)) r b c
theorem ds_next (h : N Γ) : DS W tNext Γ N R B C := fun σ G H D s n r b c => n σ G H Γ s (fun _ _ z => z) h
theorem DS.imp {N' : List Sl → Prop} (h : DS W t Γ N R B C) (k : ∀ Γ', N Γ' → N' Γ') : DS W t Γ N' R B C := fun σ G H D s n r b c => h σ G H D s (fun a1 a2 a3 a4 a5 a6 a7 => n a1 a2 a3 a4 a5 a6 (k a4 a7)) r b c
theorem ds_asg {i : Nat} (h : DE W te Γ P) (k : ∀ d, P d → N (Γ.set i (Sl.d d))) : DS W (tAsg te (gName i)) Γ N R B C := fun σ G H D s n r b c =>
  h σ G H s _ fun v G' H' d s' f p hv => n _ G' H' _ (s'.setD hv) (f.grow s.sub) (k d p)
theorem ds_asgG (h : DE W te Γ P) (k : ∀ d, P d → DG g W Γ d N) : DS W (tAsg te g) Γ N R B C := fun σ G H D s n r b c =>
  h σ G H s _ fun v G' H' d s' f p hv => k d p σ G' H' v s' hv _ fun σ' Γ' s2 m => n σ' G' H' Γ' s2 (f.grow s.sub) m
theorem ds_ret (h : DE W te Γ P) (k : ∀ d, P d → R d) : DS W (tRet te) Γ N R B C := fun σ G H D s n r b c =>
  h σ G H s _ fun v G' H' d s' f p hv => r v G' H' d s'.fw s'.ph (k d p) hv
theorem ds_drop (h : DE W te Γ P) (k : N Γ) : DS W (tDrop te) Γ N R B C := fun σ G H D s n r b c =>
  h σ G H s _ fun v G' H' d s' f p hv => n σ G' H' Γ s' (f.grow s.sub) k
theorem ds_if {b : Bool} (h : DTv W tt Γ b) (h1 : b = true → DS W t Γ N R B C) (h2 : b = false → DS W u Γ N R B C) : DS W (tIfS tt t u) Γ N R B C := fun σ G H D s n r bb c =>
  h σ G H s _ fun b' G' H' s' f p => by
    cases p
    have gr := f.grow s.sub
    cases b with
    | true =>
      show t D σ H'
      exact h1 rfl σ G' H' D s' (fun a1 a2 a3 a4 a5 a6 a7 => n a1 a2 a3 a4 a5 (gr.trans a6) a7) r (fun a1 a2 a3 a4 a5 a6 a7 => bb a1 a2 a3 a4 a5 (gr.trans a6) a7) (fun a1 a2 a3 a4 a5 a6 a7 => c a1 a2 a3 a4 a5 (gr.trans a6) a7)
    | false =>
      show u D σ H'
      exact h2 rfl σ G' H' D s' (fun a1 a2 a3 a4 a5 a6 a7 => n a1 a2 a3 a4 a5 (gr.trans a6) a7) r (fun a1 a2 a3 a4 a5 a6 a7 => bb a1 a2 a3 a4 a5 (gr.trans a6) a7) (fun a1 a2 a3 a4 a5 a6 a7 => c a1 a2 a3 a4 a5 (gr.trans a6) a7)
theorem ds_ifp {PT : Bool → Prop} (h : DT W tt Γ PT) (h1 : PT true → DS W t Γ N R B C) (h2 : PT false → DS W u Γ N R B C) : DS W (tIfS tt t u) Γ N R B C := fun σ G H D s n r bb c =>
  h σ G H s _ fun b' G' H' s' f p => by
    have gr := f.grow s.sub
    cases b' with
    | true =>
      show t D σ H'
      exact h1 p σ G' H' D s' (fun a1 a2 a3 a4 a5 a6 a7 => n a1 a2 a3 a4 a5 (gr.trans a6) a7) r (fun a1 a2 a3 a4 a5 a6 a7 => bb a1 a2 a3 a4 a5 (gr.trans a6) a7) (fun a1 a2 a3 a4 a5 a6 a7 => c a1 a2 a3 a4 a5 (gr.trans a6) a7)
    | false =>
      show u D σ H'
      exact h2 p σ G' H' D s' (fun a1 a2 a3 a4 a5 a6 a7 => n a1 a2 a3 a4 a5 (gr.trans a6) a7) r (fun a1 a2 a3 a4 a5 a6 a7 => bb a1 a2 a3 a4 a5 (gr.trans a6) a7) (fun a1 a2 a3 a4 a5 a6 a7 => c a1 a2 a3 a4 a5 (gr.trans a6) a7)
theorem ds_freeze (i : Nat) {xs : List PD} (hi : Γ[i]? = some (Sl.l xs)) (h : DS W t (Γ.set i (Sl.d (.list xs))) N R B C) : DS W t Γ N R B C := fun σ G H D s n r b c => by
  obtain ⟨G', g', s'⟩ := s.freeze hi
  exact h σ G' H D s' (fun a1 a2 a3 a4 a5 a6 a7 => n a1 a2 a3 a4 a5 (g'.trans a6) a7) r (fun a1 a2 a3 a4 a5 a6 a7 => b a1 a2 a3 a4 a5 (g'.trans a6) a7) (fun a1 a2 a3 a4 a5 a6 a7 => c a1 a2 a3 a4 a5 (g'.trans a6) a7)
/-- an own list made -/
theorem SR.newL {G H : Hp} {σ : L2.St} (s : SR W G H σ Γ) {p : Addr} {vs : List V} {xs : List PD} (hp : H p = none) (hv : DqAll G vs xs) (i : Nat) : SR W G (upd H p (.lst vs)) (σ.set i (some (.ref p))) (Γ.set i (Sl.l xs)) := by
  have f : Fw Nm G H G (upd H p (.lst vs)) := Fw.own s.sub hp
  refine (s.step0 f).setL upd_same (s.fresh hp).1 (s.fresh hp).2 hv fun j ys hj e h => ?_
  obtain ⟨q, ws, h1, h2, _⟩ := s.ll j ys e
  rw [h] at h1
  have eq : p = q := V.ref.inj (Option.some.inj (Option.some.inj h1))
  rw [← eq, hp] at h2
  cases h2
theorem ds_own {i : Nat} {t : TA} {P1 : List PD → Prop} (h : DA W t Γ P1) (hz : ∀ xs, P1 xs → xs.length ≤ sizeLine) (k : ∀ xs, P1 xs → N (Γ.set i (Sl.l xs))) : DS W (tAsg (tLst t) (gName i)) Γ N R B C := fun σ G H D s n r b c =>
  h σ G H s _ fun vs G' H' xs s' f p hv => ⟨by rw [hv.length]; exact hz xs p, fun q hq => n _ G' _ _ (s'.newL hq hv i) (f.grow s.sub) (k xs p)⟩
theorem ds_own0 {i : Nat} (k : N (Γ.set i (Sl.l []))) : DS W (tAsg (tLst tNil) (gName i)) Γ N R B C := ds_own da_nil (fun xs e => by rw [e]; exact Nat.zero_le _) fun xs e => by rw [e]; exact k
theorem ds_own1 {i : Nat} (h : DE W te Γ P) (k : ∀ d, P d → N (Γ.set i (Sl.l [d]))) : DS W (tAsg (tLst (tCons te tNil)) (gName i)) Γ N R B C :=
  ds_own (da_cons (P3 := fun xs => ∃ d, P d ∧ xs = [d]) h (fun _ _ => da_nil) fun d xs p e => ⟨d, p, by rw [e]⟩) (fun xs ⟨d, _, e⟩ => by rw [e]; exact sz (show 1 ≤ 100000 by decide)) fun xs ⟨d, p, e⟩ => by rw [e]; exact k d p
/-- xs.append(e) -/
theorem ds_append {i : Nat} {xs : List PD} (hi : Γ[i]? = some (Sl.l xs)) (h : DE W te Γ P) (hz : xs.length < 100000) (k : ∀ d, P d → N (Γ.set i (Sl.l (xs ++ [d])))) : DS W (tDrop (tBM K "list" rAppend (tVar i) (tCons te tNil))) Γ N R B C := fun σ G H D s n r b c => by
  obtain ⟨p, vs, h1, h2, h3, h4, h5⟩ := s.ll i xs hi
  refine ⟨.ref p, h1, .inl ⟨rfl, _, SqL.of h2⟩, ?_⟩
  refine h σ G H s _ fun v G' H' d s' f pd hv => ?_
  have h2' := f.keep p _ h2 (W.notM h3)
  have gr := f.grow s.sub
  have h5' := DqAll.mono gr xs vs h5
  refine ⟨p, vs, v, rfl, rfl, h2', Nat.lt_of_lt_of_le (by rw [h5.length]; exact hz) (by decide : 100000 ≤ sizeLine), ?_⟩
  exact n σ G' _ _ (s'.grow hi h1 h2' (h5'.append (.cons hv .nil))) gr (k d pd)
/-- a slot's own list read: its last item, its items -/
theorem dv_ixOwn {i : Nat} {xs : List PD} {j : Int} {d : PD} (hi : Γ[i]? = some (Sl.l xs)) (h : DV W te Γ (.int j)) (e : atI xs j = some d) : DV W (tOp (rIxL K) (tVar i) te) Γ d := fun σ G H s Q q => by
  obtain ⟨p, vs, h1, h2, h3, h4, h5⟩ := s.ll i xs hi
  refine ⟨.ref p, h1, ?_⟩
  refine h σ G H s _ fun v G' H' d' s' f pd hv => ?_
  cases pd
  cases hv
  have h2' := f.keep p _ h2 (W.notM h3)
  obtain ⟨w, a, bq⟩ := atI_q (DqAll.mono (f.grow s.sub) xs vs h5) e
  exact ⟨p, vs, j, w, rfl, rfl, SqL.of h2', a, q w G' H' d s' f rfl bq⟩

/-! ### targets -/
theorem dg_name {i : Nat} (k : N (Γ.set i (Sl.d x))) : DG (gName i) W Γ x N := fun σ G H v s hv Q q => q _ _ (s.setD hv) k
theorem dg_tup2 {i j : Nat} (k : N ((Γ.set i (Sl.d x)).set j (Sl.d y))) : DG (gTup K 2 (gCons (gName i) (gCons (gName j) gNil))) W Γ (.tuple [x, y]) N := fun σ G H v s hv Q q => by
  cases hv with
  | tup h1 h2 =>
    cases h2 with
    | cons a r =>
      cases r with
      | cons b r =>
        cases r
        exact ⟨_, _, rfl, SqT.of (s.sub _ _ h1), rfl, _, _, rfl, _, _, rfl, rfl, q _ _ ((s.setD a).setD b) k⟩
/-- x, y = e1, e2 -/
theorem ds_par {i j : Nat} {t : TA} {P1 : List PD → Prop} (h : DA W t Γ P1) (k : ∀ xs, P1 xs → ∃ x y, xs = [x, y] ∧ N ((Γ.set i (Sl.d x)).set j (Sl.d y))) : DS W (tPar i j t) Γ N R B C := fun σ G H D s n r b c =>
  h σ G H s _ fun vs G' H' xs s' f p hv => by
    obtain ⟨x, y, e, m⟩ := k xs p
    subst e
    cases hv with
    | cons a rr =>
      cases rr with
      | cons b' rr =>
        cases rr
        exact ⟨_, _, rfl, n _ G' H' _ ((s'.setD a).setD b') (f.grow s.sub) m⟩
/-- x, y = [], e -/
theorem ds_parOD {i j : Nat} (hij : i ≠ j) (h : DE W te Γ P) (k : ∀ d, P d → N ((Γ.set i (Sl.l [])).set j (Sl.d d))) : DS W (tPar i j (tCons (tLst tNil) (tCons te tNil))) Γ N R B C := fun σ G H D s n r b c => by
  refine ⟨Nat.zero_le _, fun p hp => ?_⟩
  have f0 : Fw Nm G H G (upd H p (.lst [])) := Fw.own s.sub hp
  refine h σ G _ (s.step0 f0) _ fun v G' H' d s' f pd hv => ?_
  have hp' := f.keep p _ upd_same (W.notM (s.fresh hp).1)
  have hg : G' p = none := (f.same p _ upd_same).trans (s.fresh hp).2
  have gr : Same G G' := f.grow f0.sub
  refine ⟨_, _, rfl, n _ G' H' _ ((s'.setL (i := i) hp' (s.fresh hp).1 hg .nil fun m ys hm e h2 => ?_).setD hv) gr (k d pd)⟩
  obtain ⟨q, ws, a1, a2, _⟩ := s.ll m ys e
  rw [h2] at a1
  have eq : p = q := V.ref.inj (Option.some.inj (Option.some.inj a1))
  rw [← eq, hp] at a2
  cases a2
/-- x, y = e, [] -/
theorem ds_parDO {i j : Nat} (h : DE W te Γ P) (k : ∀ d, P d → N ((Γ.set i (Sl.d d)).set j (Sl.l []))) : DS W (tPar i j (tCons te (tCons (tLst tNil) tNil))) Γ N R B C := fun σ G H D s n r b c => by
  refine h σ G H s _ fun v G' H' d s' f pd hv => ?_
  refine ⟨Nat.zero_le _, fun p hp => ?_⟩
  exact ⟨_, _, rfl, n _ G' _ _ ((s'.setD hv).newL hp .nil j) (f.grow s.sub) (k d pd)⟩
/-- x, y = [], [] -/
theorem ds_parOO {i j : Nat} (hij : i ≠ j) (k : N ((Γ.set i (Sl.l [])).set j (Sl.l []))) : DS W (tPar i j (tCons (tLst tNil) (tCons (tLst tNil) tNil))) Γ N R B C := fun σ G H D s n r b c => by
  refine ⟨Nat.zero_le _, fun p hp => ⟨Nat.zero_le _, fun q hq => ⟨_, _, rfl, ?_⟩⟩⟩
  exact n _ G _ _ ((s.newL hp .nil i).newL hq .nil j) (fun _ _ z => z) k

/-! ### what is walked -/
theorem walk_l {a : Addr} {G1 : Hp} {vs : List V} {xs : List PD} (h1 : G1 a = some (.lst vs)) (h2 : DqAll G1 vs xs) : Walk (Itl K a) G1 xs := fun i G H g s => by
  have hq : SqL K H a vs := SqL.of (s _ _ (g _ _ h1))
  refine ⟨fun x e => ?_, fun e => ⟨vs, hq, by rw [h2.length]; omega⟩⟩
  obtain ⟨v, e1, d⟩ := h2.get e
  refine ⟨⟨vs, v, hq, e1⟩, fun y H' hy => ?_⟩
  obtain ⟨rfl, k⟩ := hy
  have e2 := k vs hq
  rw [e1] at e2
  cases e2
  exact ⟨G, Fw.refl s, Dq.mono g x v d⟩
theorem di_l (h : DE W te Γ (fun d => ∃ xs, d = .list xs ∧ P1 (.list xs))) : DI W (iList K te) Γ (fun xs => P1 (.list xs)) := fun σ G H s R r => h σ G H s _ fun v G' H' d s' f pd hv => by
  obtain ⟨xs, e, p⟩ := pd
  subst e
  cases hv with
  | lst h1 h2 => exact ⟨_, rfl, ⟨_, SqL.of (s'.sub _ _ h1)⟩, r _ G' H' xs s' f p (walk_l h1 h2)⟩
theorem div_l {xs : List PD} (h : DV W te Γ (.list xs)) : DI W (iList K te) Γ (fun ys => ys = xs) := fun σ G H s R r => h σ G H s _ fun v G' H' d s' f pd hv => by
  cases pd
  cases hv with
  | lst h1 h2 => exact ⟨_, rfl, ⟨_, SqL.of (s'.sub _ _ h1)⟩, r _ G' H' xs s' f rfl (walk_l h1 h2)⟩
theorem walk_t {a : Addr} {G1 : Hp} {vs : List V} {xs : List PD} (h1 : G1 a = some (.tup vs)) (h2 : DqAll G1 vs xs) : Walk (Itt K a) G1 xs := fun i G H g s => by
  have hq : SqT K H a vs := SqT.of (s _ _ (g _ _ h1))
  refine ⟨fun x e => ?_, fun e => ⟨vs, hq, by rw [h2.length]; omega⟩⟩
  obtain ⟨v, e1, d⟩ := h2.get e
  refine ⟨⟨vs, v, hq, e1⟩, fun y H' hy => ?_⟩
  obtain ⟨rfl, k⟩ := hy
  have e2 := k vs hq
  rw [e1] at e2
  cases e2
  exact ⟨G, Fw.refl s, Dq.mono g x v d⟩
theorem div_t {xs : List PD} (h : DV W te Γ (.tuple xs)) : DI W (iTup K te) Γ (fun ys => ys = xs) := fun σ G H s R r => h σ G H s _ fun v G' H' d s' f pd hv => by
  cases pd
  cases hv with
  | tup h1 h2 => exact ⟨_, rfl, ⟨_, SqT.of (s'.sub _ _ h1)⟩, r _ G' H' xs s' f rfl (walk_t h1 h2)⟩
/-- lo, lo + 1, .. -/
def rng (lo : Int) (n : Nat) : List PD := (List.range n).map fun k : Nat => PyData.int (lo + (k : Int))
theorem rng_len (lo : Int) (n : Nat) : (rng lo n).length = n := by
  unfold rng
  rw [List.length_map, List.length_range]
theorem rng_get {lo : Int} {n i : Nat} {x : PD} (h : (rng lo n)[i]? = some x) : i < n ∧ x = .int (lo + (i : Int)) := by
  have hi : i < n := by
    have := (List.getElem?_eq_some_iff.mp h).1
    rwa [rng_len] at this
  refine ⟨hi, ?_⟩
  unfold rng at h
  rw [List.getElem?_map, List.getElem?_range hi] at h
  exact (Option.some.inj h).symm
theorem walk_r {lo : Int} {n : Nat} {G1 : Hp} : Walk (Itr lo n) G1 (rng lo n) := fun i G H g s => by
  refine ⟨fun x e => ?_, fun e => by rw [rng_len] at e; exact Nat.le_of_eq e⟩
  obtain ⟨hi, rfl⟩ := rng_get e
  refine ⟨hi, fun y H' hy => ?_⟩
  obtain ⟨rfl, rfl⟩ := hy
  exact ⟨G, Fw.refl s, .int _⟩
theorem di_r1 {t : TA} {P1 : List PD → Prop} {P2 : List PD → Prop} (h : DA W t Γ P1) (k : ∀ ds, P1 ds → ∃ j : Int, ds = [.int j] ∧ -1000000 ≤ j ∧ j ≤ 1000000 ∧ P2 (rng 0 j.toNat)) : DI W (iRng1 t) Γ P2 := fun σ G H s R r => h σ G H s _ fun vs G' H' ds s' f pd hv => by
  obtain ⟨j, e, b1, b2, p⟩ := k ds pd
  subst e
  cases hv with
  | cons a rr =>
    cases rr
    cases a
    exact ⟨j, rfl, by omega, by omega, r _ G' H' _ s' f p walk_r⟩
theorem div_r1 {j : Int} (h : DV W te Γ (.int j)) (h1 : -1000000 ≤ j) (h2 : j ≤ 1000000) : DI W (iRng1 (tCons te tNil)) Γ (fun ys => ys = rng 0 j.toNat) := di_r1 (dav_cons h da_nil) fun ds e => ⟨j, e, h1, h2, rfl⟩
theorem div_r2 {i j : Int} (ha : DV W ta Γ (.int i)) (hb : DV W tb Γ (.int j)) (h1 : -1000000 ≤ i ∧ i ≤ 1000000) (h2 : -1000000 ≤ j ∧ j ≤ 1000000) : DI W (iRng2 (tCons ta (tCons tb tNil))) Γ (fun ys => ys = rng i (j - i).toNat) := fun σ G H s R r => dav_cons ha (dav_cons hb da_nil) σ G H s _ fun vs G' H' ds s' f pd hv => by
  cases pd
  cases hv with
  | cons a rr =>
    cases rr with
    | cons b rr =>
      cases rr
      cases a
      cases b
      exact ⟨i, j, rfl, ⟨by omega, by omega, by omega, by omega⟩, r _ G' H' _ s' f rfl walk_r⟩
theorem sqL_inj {H : Hp} {a : Addr} {xs ys : List V} (h : H a = some (.lst xs)) (hn : ∀ o, K.lookup a ≠ some o) (h2 : SqL K H a ys) : ys = xs := by
  rcases h2 with (h2 | ⟨o, h2⟩) | ⟨o, _, _, h2, _⟩
  · rw [h] at h2
    cases h2
    rfl
  · rw [h] at h2
    cases h2
  · exact absurd h2 (hn o)
/-- two lists side by side -/
def pairs : List PD → List PD → List PD
  | x :: xs, y :: ys => .tuple [x, y] :: pairs xs ys
  | _, _ => []
theorem pairs_get : ∀ {xs ys : List PD} {i : Nat} {z : PD}, (pairs xs ys)[i]? = some z → ∃ x y, xs[i]? = some x ∧ ys[i]? = some y ∧ z = .tuple [x, y]
  | [], _, _, _, h => by simp [pairs] at h
  | _ :: _, [], _, _, h => by simp [pairs] at h
  | x :: xs, y :: ys, 0, z, h => ⟨x, y, rfl, rfl, (Option.some.inj h).symm⟩
  | x :: xs, y :: ys, i + 1, z, h => pairs_get (xs := xs) (ys := ys) (i := i) (z := z) h
theorem pairs_len : ∀ {xs ys : List PD}, (pairs xs ys).length = min xs.length ys.length
  | [], _ => by simp [pairs]
  | _ :: _, [] => by simp [pairs]
  | x :: xs, y :: ys => by
    have h := pairs_len (xs := xs) (ys := ys)
    simp only [pairs, List.length_cons, h]
    omega
theorem div_z {xs ys : List PD} (ha : DV W ta Γ (.list xs)) (hb : DV W tb Γ (.list ys)) : DI W (iZip K (tCons ta (tCons tb tNil))) Γ (fun zs => zs = pairs xs ys) := fun σ G H s R r => dav_cons ha (dav_cons hb da_nil) σ G H s _ fun vs G' H' ds s' f pd hv => by
  cases pd
  cases hv with
  | cons a rr =>
    cases rr with
    | cons b rr =>
      cases rr
      cases a with
      | @lst a1 us _ h1 h2 =>
        cases b with
        | @lst b1 ws _ h3 h4 =>
          refine ⟨a1, b1, us, ws, rfl, SqL.of (s'.sub _ _ h1), SqL.of (s'.sub _ _ h3), r _ G' H' _ s' f rfl fun i G2 H2 g s2 => ?_⟩
          have q1 : SqL K H2 a1 us := SqL.of (s2 _ _ (g _ _ h1))
          have q2 : SqL K H2 b1 ws := SqL.of (s2 _ _ (g _ _ h3))
          refine ⟨fun z e => ?_, fun e => ⟨us, ws, q1, q2, ?_⟩⟩
          · obtain ⟨x, y, e1, e2, rfl⟩ := pairs_get e
            obtain ⟨v1, a1', d1⟩ := h2.get e1
            obtain ⟨v2, a2', d2⟩ := h4.get e2
            refine ⟨⟨us, ws, v1, v2, q1, q2, a1', a2'⟩, fun v H3 hy => ?_⟩
            obtain ⟨T, x1, y1, rfl, nT, rfl, k1, k2⟩ := hy
            have e3 := k1 us q1
            have e4 := k2 ws q2
            rw [a1'] at e3
            rw [a2'] at e4
            cases e3
            cases e4
            obtain ⟨f2, d⟩ := new_t s2 nT (.cons (Dq.mono g x v1 d1) (.cons (Dq.mono g y v2 d2) .nil))
            exact ⟨_, f2, d⟩
          · rw [pairs_len] at e
            rw [h2.length, h4.length]
            omega

/-! ### for -/
theorem ds_for {tb : TS} {P : List PD → Prop} (h : DI W wi Γ P) (k : ∀ xs, P xs → ∃ I : Nat → List Sl → Prop, I 0 Γ ∧ (∀ (i : Nat) (x : PD) (Γ' : List Sl), xs[i]? = some x → I i Γ' → DG g W Γ' x (fun Γ2 => DS W tb Γ2 (I (i + 1)) R N (I (i + 1)))) ∧ (∀ Γ', I xs.length Γ' → N Γ')) :
    DS W (tFor wi g tb) Γ N R B C := fun σ G H D s n r b c => h σ G H s _ fun J G1 H1 xs s1 f1 p wk => by
  obtain ⟨I, i0, st, en⟩ := k xs p
  have gr := f1.grow s.sub
  refine ⟨fun i m σ' H' => m = xs.length - i ∧ i ≤ xs.length ∧ ∃ Γ' G', SR W G' H' σ' Γ' ∧ Same G1 G' ∧ I i Γ', ⟨xs.length, by simp, Nat.zero_le _, Γ, G1, s1, Same.refl _, i0⟩, ?_⟩
  rintro i m σ' H' ⟨rfl, hi, Γ', G', s', g', inv⟩
  obtain ⟨w1, w2⟩ := wk i G' H' g' s'.sub
  by_cases hlt : i < xs.length
  · obtain ⟨go, yl⟩ := w1 xs[i] (List.getElem?_eq_getElem hlt)
    refine .inr ⟨go, fun σ2 H2 => ∃ Γ2 G2, SR W G2 H2 σ2 Γ2 ∧ Same G1 G2 ∧ I (i + 1) Γ2, fun σ2 H2 q => ⟨xs.length - (i + 1), by omega, rfl, hlt, q⟩, fun y H2 hy => ?_⟩
    obtain ⟨G2, f2, d2⟩ := yl y H2 hy
    have s2 := s'.step0 f2
    have g2 : Same G1 G2 := g'.trans (f2.grow s'.sub)
    refine st i xs[i] Γ' (List.getElem?_eq_getElem hlt) inv σ' G2 H2 y s2 d2 _ fun σ3 Γ3 s3 ds => ?_
    refine ds σ3 G2 H2 _ s3 (fun a1 a2 a3 a4 a5 a6 a7 => ⟨a4, a2, a5, g2.trans a6, a7⟩) r (fun a1 a2 a3 a4 a5 a6 a7 => n a1 a2 a3 a4 a5 (gr.trans (g2.trans a6)) a7) (fun a1 a2 a3 a4 a5 a6 a7 => ⟨a4, a2, a5, g2.trans a6, a7⟩)
  · have e : i = xs.length := by omega
    subst e
    exact .inl ⟨w2 rfl, n σ' G' H' Γ' s' (gr.trans g') (en Γ' inv)⟩
/-- over given items -/
theorem ds_forv {tb : TS} {xs : List PD} (h : DI W wi Γ (fun ys => ys = xs)) (I : Nat → List Sl → Prop) (i0 : I 0 Γ) (st : ∀ (i : Nat) (x : PD) (Γ' : List Sl), xs[i]? = some x → I i Γ' → DG g W Γ' x (fun Γ2 => DS W tb Γ2 (I (i + 1)) R N (I (i + 1)))) (en : ∀ Γ', I xs.length Γ' → N Γ') :
    DS W (tFor wi g tb) Γ N R B C := ds_for h fun ys e => by
  subst e
  exact ⟨I, i0, st, en⟩
theorem ds_while {tb : TS} (I : Nat → List Sl → Prop) (m0 : Nat) (h0 : I m0 Γ) (st : ∀ (m : Nat) (Γ' : List Sl), I m Γ' → DT W tt Γ' (fun b => if b = true then DS W tb Γ' (fun Γ2 => ∃ m', m' < m ∧ I m' Γ2) R N (fun Γ2 => ∃ m', m' < m ∧ I m' Γ2) else N Γ')) : DS W (tWhile tt tb) Γ N R B C := fun σ G H D s n r b c => by
  refine ⟨fun m σ' H' => ∃ Γ' G', SR W G' H' σ' Γ' ∧ Same G G' ∧ I m Γ', ⟨m0, Γ, G, s, Same.refl _, h0⟩, ?_⟩
  rintro m σ' H' ⟨Γ', G', s', g', inv⟩
  refine st m Γ' inv σ' G' H' s' _ fun bb G2 H2 s2 f2 k => ?_
  have g2 := g'.trans (f2.grow s'.sub)
  cases bb with
  | true =>
    rw [if_pos rfl] at k ⊢
    refine ⟨fun σ3 H3 => ∃ m', m' < m ∧ ∃ Γ3 G3, SR W G3 H3 σ3 Γ3 ∧ Same G G3 ∧ I m' Γ3, fun σ3 H3 q => q, ?_⟩
    refine k σ' G2 H2 _ s2 (fun a1 a2 a3 a4 a5 a6 a7 => ?_) r (fun a1 a2 a3 a4 a5 a6 a7 => n a1 a2 a3 a4 a5 (g2.trans a6) a7) (fun a1 a2 a3 a4 a5 a6 a7 => ?_)
    · obtain ⟨m', l, q⟩ := a7
      exact ⟨m', l, a4, a2, a5, g2.trans a6, q⟩
    · obtain ⟨m', l, q⟩ := a7
      exact ⟨m', l, a4, a2, a5, g2.trans a6, q⟩
  | false =>
    rw [if_neg Bool.false_ne_true] at k ⊢
    exact n σ' G2 H2 Γ' s2 g2 k
end
end K24

set_option Elab.async false
set_option linter.all false
set_option maxRecDepth 100000
/-! K24D: comprehensions, calls, promises, built-ins. -/
namespace K24
open PySem PySem.Spec L2

/-! ### comprehensions -/
def wipeS (Γ : List Sl) : List Nat → List Sl
  | [] => Γ
  | v :: vs => (wipeS Γ vs).set v Sl.no
theorem wipeS_len (Γ : List Sl) : ∀ vs : List Nat, (wipeS Γ vs).length = Γ.length
  | [] => rfl
  | v :: vs => by unfold wipeS; rw [List.length_set, wipeS_len Γ vs]
theorem wipeS_get {Γ : List Sl} {i : Nat} {x : Sl} (hx : x ≠ Sl.no) : ∀ {vs : List Nat}, (wipeS Γ vs)[i]? = some x → Γ[i]? = some x ∧ i ∉ vs
  | [], h => ⟨h, by simp⟩
  | v :: vs, h => by
    unfold wipeS at h
    by_cases hi : v = i
    · subst hi
      by_cases hv : v < (wipeS Γ vs).length
      · rw [List.getElem?_set_self hv] at h
        exact absurd (Option.some.inj h).symm hx
      · rw [List.getElem?_eq_none (by simpa using hv)] at h
        cases h
    · rw [List.getElem?_set_ne hi] at h
      obtain ⟨h1, h2⟩ := wipeS_get hx h
      exact ⟨h1, by simp only [List.mem_cons, not_or]; exact ⟨fun e => hi e.symm, h2⟩⟩
theorem wipe_in {σ : L2.St} {i : Nat} : ∀ {vs : List Nat}, i ∈ vs → (wipe σ vs)[i]? = if i < σ.length then some none else none
  | [], h => by simp at h
  | v :: vs, h => by
    show ((wipe σ vs).set v none)[i]? = _
    by_cases hv : v = i
    · subst hv
      rw [List.getElem?_set]
      simp [wipe_length]
    · rw [List.getElem?_set_ne hv]
      rcases List.mem_cons.mp h with e | e
      · exact absurd e.symm hv
      · exact wipe_in e
theorem wipe_same {σ σ' : L2.St} {vs : List Nat} (hl : σ'.length = σ.length) (h : ∀ i, i ∉ vs → σ'[i]? = σ[i]?) : wipe σ' vs = wipe σ vs := by
  apply List.ext_getElem?
  intro i
  by_cases hi : i ∈ vs
  · rw [wipe_in hi, wipe_in hi, hl]
  · rw [wipe_out hi, wipe_out hi]
    exact h i hi
theorem wipe_set {σ : L2.St} {vs : List Nat} {i : Nat} {o : Option V} (hi : i ∈ vs) : wipe ((wipe σ vs).set i o) vs = wipe σ vs := wipe_same (by rw [List.length_set, wipe_length]) fun j hj => by
  have n : i ≠ j := fun e => hj (e ▸ hi)
  rw [List.getElem?_set_ne n, wipe_out hj]
theorem wipe_set2 {σ : L2.St} {vs : List Nat} {i j : Nat} {o o' : Option V} (hi : i ∈ vs) (hj : j ∈ vs) : wipe (((wipe σ vs).set i o).set j o') vs = wipe σ vs := wipe_same (by rw [List.length_set, List.length_set, wipe_length]) fun k hk => by
  have n : i ≠ k := fun e => hk (e ▸ hi)
  have n2 : j ≠ k := fun e => hk (e ▸ hj)
  rw [List.getElem?_set_ne n2, List.getElem?_set_ne n, wipe_out hk]
theorem SR.wiped {W : Wd} {G H : Hp} {σ : L2.St} {Γ : List Sl} (s : SR W G H σ Γ) (vs : List Nat) : SR W G H (wipe σ vs) (wipeS Γ vs) :=
  s.weak (by rw [wipe_length, wipeS_len]; exact s.len) fun i x e hx => by
    obtain ⟨h1, h2⟩ := wipeS_get hx e
    exact ⟨h1, wipe_out h2⟩
/-- a comprehension's target, over wiped slots -/
def DGw (g : TG) (W : Wd) (vs : List Nat) (Γ : List Sl) (x : PD) (N : List Sl → Prop) : Prop := ∀ (σ : L2.St) (G H : Hp) (v : V), SR W G H (wipe σ vs) (wipeS Γ vs) → Dq G v x → ∀ Q : L2.St → Hp → Prop, (∀ (σ' : L2.St) (Γ' : List Sl), SR W G H σ' Γ' → wipe σ' vs = wipe σ vs → N Γ' → Q σ' H) → g v (wipe σ vs) H Q
section
variable {W : Wd} {Γ : List Sl} {ta tb tc te : TE} {tt : TT} {P P1 : PD → Prop} {x y z : PD} {g : TG} {wi : TI} {K : PySem.W.Frag} {vs : List Nat} {N : List Sl → Prop}
theorem dgw_name {i : Nat} (hi : i ∈ vs) (k : N ((wipeS Γ vs).set i (Sl.d x))) : DGw (gName i) W vs Γ x N := fun σ G H v s hv Q q => q _ _ (s.setD hv) (wipe_set hi) k
theorem dgw_tup2 {i j : Nat} (hi : i ∈ vs) (hj : j ∈ vs) (k : N (((wipeS Γ vs).set i (Sl.d x)).set j (Sl.d y))) : DGw (gTup K 2 (gCons (gName i) (gCons (gName j) gNil))) W vs Γ (.tuple [x, y]) N := fun σ G H v s hv Q q => by
  cases hv with
  | tup h1 h2 =>
    cases h2 with
    | cons a r =>
      cases r with
      | cons b r =>
        cases r
        exact ⟨_, _, rfl, SqT.of (s.sub _ _ h1), rfl, _, _, rfl, _, _, rfl, rfl, q _ _ ((s.setD a).setD b) (wipe_set2 hi hj) k⟩
/-- an object that no slot and no data knows changes -/
theorem SR.off {G H : Hp} {σ : L2.St} (s : SR W G H σ Γ) {p : Addr} {o : HO} (h0 : W.H0 p = none) (hg : G p = none) (hs : ∀ (i : Nat) (xs : List PD), Γ[i]? = some (Sl.l xs) → σ[i]? ≠ some (some (V.ref p))) : SR W G (upd H p o) σ Γ where
  len := s.len
  fw := by
    refine ⟨fun a u h n => ?_, fun a u h => ?_, s.fw.same, fun a u h => ?_⟩
    · rw [upd_ne (ne_of_none h h0)]
      exact s.fw.keep a u h n
    · rw [upd_ne (ne_of_none h h0)]
      exact s.fw.live a u h
    · rw [upd_ne (ne_of_none h hg)]
      exact s.sub a u h
  mz := s.mz
  ph := W.mono H _ s.ph fun a u m h => by
    have n : a ≠ p := fun e => W.notM h0 (e ▸ m)
    rw [upd_ne n]
    exact h
  dd := s.dd
  ll := fun i xs e => by
    obtain ⟨q, ws, h1, h2, h3, h4, h5⟩ := s.ll i xs e
    have n : q ≠ p := fun z => hs i xs e (z ▸ h1)
    exact ⟨q, ws, h1, by rw [upd_ne n]; exact h2, h3, h4, h5⟩
  vv := s.vv
  ap := s.ap
/-- what a comprehension's list is worth at a turn -/
structure LcAt (W : Wd) (Γ : List Sl) (σ : L2.St) (G0 H0 G H : Hp) (D : Addr) (acc : List PD) : Prop where
  sr : SR W G H σ Γ
  fw : Fw W.M G0 H0 G H
  n0 : H0 D = none
  w0 : W.H0 D = none
  gd : G D = none
  at_ : ∃ vs, H D = some (.lst vs) ∧ DqAll G vs acc
  sl : ∀ (i : Nat) (xs : List PD), Γ[i]? = some (Sl.l xs) → σ[i]? ≠ some (some (V.ref D))
theorem LcAt.start {σ : L2.St} {G H : Hp} {D : Addr} (s : SR W G H σ Γ) (hD : H D = none) : LcAt W Γ σ G H G (upd H D (.lst [])) D [] := by
  have f : Fw Nm G H G (upd H D (.lst [])) := Fw.own s.sub hD
  refine ⟨s.step0 f, f.any, hD, (s.fresh hD).1, (s.fresh hD).2, ⟨[], upd_same, .nil⟩, fun i xs e h => ?_⟩
  obtain ⟨q, ws, h1, h2, _⟩ := s.ll i xs e
  rw [h] at h1
  have eq : D = q := V.ref.inj (Option.some.inj (Option.some.inj h1))
  rw [← eq, hD] at h2
  cases h2
theorem LcAt.step {σ : L2.St} {G0 H0 G H G' H' : Hp} {D : Addr} {acc : List PD} (l : LcAt W Γ σ G0 H0 G H D acc) (f : Fw W.M G H G' H') (ph : W.Ph H') : LcAt W Γ σ G0 H0 G' H' D acc := by
  obtain ⟨vs, h1, h2⟩ := l.at_
  exact ⟨l.sr.step f ph, l.fw.trans f, l.n0, l.w0, (f.same D _ h1).trans l.gd, ⟨vs, f.keep D _ h1 (W.notM l.w0), DqAll.mono (f.grow l.sr.sub) acc vs h2⟩, l.sl⟩
theorem LcAt.add {σ : L2.St} {G0 H0 G H : Hp} {D : Addr} {acc : List PD} {vs : List V} {y : V} {d : PD} (l : LcAt W Γ σ G0 H0 G H D acc) (h1 : H D = some (.lst vs)) (h2 : DqAll G vs acc) (hy : Dq G y d) : LcAt W Γ σ G0 H0 G (upd H D (.lst (vs ++ [y]))) D (acc ++ [d]) := by
  refine ⟨l.sr.off l.w0 l.gd l.sl, ⟨fun a u h n => ?_, fun a u h => ?_, l.fw.same, fun a u h => ?_⟩, l.n0, l.w0, l.gd, ⟨_, upd_same, h2.append (.cons hy .nil)⟩, l.sl⟩
  · rw [upd_ne (ne_of_none h l.n0)]
    exact l.fw.keep a u h n
  · rw [upd_ne (ne_of_none h l.n0)]
    exact l.fw.live a u h
  · rw [upd_ne (ne_of_none h l.gd)]
    exact l.sr.sub a u h
/-- at the end it is data -/
theorem LcAt.done {σ : L2.St} {G0 H0 G H : Hp} {D : Addr} {acc : List PD} (l : LcAt W Γ σ G0 H0 G H D acc) : ∃ G', SR W G' H σ Γ ∧ Fw W.M G0 H0 G' H ∧ Dq G' (.ref D) (.list acc) := by
  obtain ⟨vs, h1, h2⟩ := l.at_
  have g : Same G (upd G D (.lst vs)) := fun a o h => by
    rw [upd_ne (ne_of_none h l.gd)]
    exact h
  have f : Fw W.M W.G0 W.H0 (upd G D (.lst vs)) H := ⟨l.sr.fw.keep, l.sr.fw.live, fun a o h => by rw [upd_ne (ne_of_none h l.w0)]; exact l.sr.fw.same a o h, fun a o h => by
    by_cases e : a = D
    · subst e
      rw [upd_same] at h
      rw [← h]
      exact h1
    · rw [upd_ne e] at h
      exact l.sr.sub a o h⟩
  refine ⟨upd G D (.lst vs), ⟨l.sr.len, f, fun a m => ?_, l.sr.ph, fun i x e => ?_, fun i xs e => ?_, l.sr.vv, l.sr.ap⟩, ⟨l.fw.keep, l.fw.live, fun a o h => ?_, f.sub⟩, .lst upd_same (DqAll.mono g acc vs h2)⟩
  · have n : a ≠ D := fun e => W.notM l.w0 (e ▸ m)
    rw [upd_ne n]
    exact l.sr.mz a m
  · obtain ⟨v, a1, a2⟩ := l.sr.dd i x e
    exact ⟨v, a1, Dq.mono g x v a2⟩
  · obtain ⟨q, ws, a1, a2, a3, a4, a5⟩ := l.sr.ll i xs e
    have n : q ≠ D := fun z => l.sl i xs e (z ▸ a1)
    exact ⟨q, ws, a1, a2, a3, by rw [upd_ne n]; exact a4, DqAll.mono g xs ws a5⟩
  · rw [upd_ne (ne_of_none h l.n0)]
    exact l.fw.same a o h
theorem de_lc {P1 : List PD → Prop} (h : DI W wi Γ P1) (k : ∀ xs, P1 xs → xs.length < 100000 ∧ ∃ I : Nat → List PD → Prop, I 0 [] ∧ (∀ (i : Nat) (x : PD) (acc : List PD), xs[i]? = some x → I i acc → acc.length ≤ i →
      DGw g W vs Γ x (fun Γ2 => DT W tt Γ2 (fun b => if b = true then DE W te Γ2 (fun y => I (i + 1) (acc ++ [y])) else I (i + 1) acc))) ∧ (∀ acc, I xs.length acc → P (.list acc))) :
    DE W (tLc wi g tt te vs) Γ P := fun σ G H s Q q => h σ G H s _ fun J G1 H1 xs s1 f1 p wk D hD => by
  obtain ⟨hz, I, i0, st, en⟩ := k xs p
  refine ⟨fun i m H' => m = xs.length - i ∧ i ≤ xs.length ∧ ∃ G' acc, LcAt W Γ σ G1 H1 G' H' D acc ∧ I i acc ∧ acc.length ≤ i, ⟨xs.length, by simp, Nat.zero_le _, G1, [], LcAt.start s1 hD, i0, Nat.le_refl _⟩, ?_⟩
  rintro i m H' ⟨rfl, hi, G', acc, la, inv, hl⟩
  have gr : Same G1 G' := la.fw.grow s1.sub
  obtain ⟨w1, w2⟩ := wk i G' H' gr la.sr.sub
  by_cases hlt : i < xs.length
  · obtain ⟨go, yl⟩ := w1 xs[i] (List.getElem?_eq_getElem hlt)
    refine .inr ⟨go, fun H2 => ∃ G2 acc2, LcAt W Γ σ G1 H1 G2 H2 D acc2 ∧ I (i + 1) acc2 ∧ acc2.length ≤ i + 1, fun H2 q2 => ⟨xs.length - (i + 1), by omega, rfl, hlt, q2⟩, fun y H2 hy => ?_⟩
    obtain ⟨G2, f2, d2⟩ := yl y H2 hy
    have ph2 := (la.sr.step0 f2).ph
    have la2 := la.step f2.any ph2
    refine st i xs[i] acc (List.getElem?_eq_getElem hlt) inv hl σ G2 H2 y (la2.sr.wiped vs) d2 _ fun σ2 Γ2 s3 hw tst => ⟨hw, ?_⟩
    refine tst σ2 G2 H2 s3 _ fun b G3 H3 s4 f3 k3 => ?_
    have la3 := la2.step f3 s4.ph
    cases b with
    | true =>
      rw [if_pos rfl] at k3 ⊢
      refine k3 σ2 G3 H3 s4 _ fun w G4 H4 d s5 f4 k4 dw => ?_
      have la4 := la3.step f4 s5.ph
      obtain ⟨us, e1, e2⟩ := la4.at_
      refine ⟨us, e1, Nat.lt_of_lt_of_le (by rw [e2.length]; omega) (by decide : 100000 ≤ sizeLine), G4, acc ++ [d], la4.add e1 e2 dw, k4, ?_⟩
      rw [List.length_append, List.length_singleton]
      omega
    | false =>
      rw [if_neg Bool.false_ne_true] at k3 ⊢
      exact ⟨G3, acc, la3, k3, by omega⟩
  · have e : i = xs.length := by omega
    subst e
    obtain ⟨G2, s2, f2, dd⟩ := la.done
    exact .inl ⟨w2 rfl, q _ G2 H' _ s2 (f1.trans f2) (en acc inv) dd⟩
/-- [e for x in xs] -/
theorem dv_map {j : Nat} {xs : List PD} {f : PD → PD} (h : DI W wi Γ (fun ys => ys = xs)) (hz : xs.length < 100000) (hj : j ∈ vs) (he : ∀ (i : Nat) (x : PD), xs[i]? = some x → DV W te ((wipeS Γ vs).set j (Sl.d x)) (f x)) : DV W (tLc wi (gName j) tYes te vs) Γ (.list (xs.map f)) :=
  de_lc h fun ys e => by
    subst e
    refine ⟨hz, fun i acc => acc = (ys.take i).map f, by simp, fun i x acc hx ha _ => dgw_name hj (dt_yes.imp fun b hb => ?_), fun acc ha => by rw [ha, List.take_length]⟩
    subst hb
    rw [if_pos rfl]
    refine (he i x hx).imp fun d hd => ?_
    subst hd
    rw [ha, List.take_add_one, hx, List.map_append]
    rfl
/-- [e for x in xs if t] -/
theorem dv_filt {j : Nat} {xs : List PD} {c : PD → Bool} {f : PD → PD} (h : DI W wi Γ (fun ys => ys = xs)) (hz : xs.length < 100000) (hj : j ∈ vs) (ht : ∀ (i : Nat) (x : PD), xs[i]? = some x → DTv W tt ((wipeS Γ vs).set j (Sl.d x)) (c x)) (he : ∀ (i : Nat) (x : PD), xs[i]? = some x → c x = true → DV W te ((wipeS Γ vs).set j (Sl.d x)) (f x)) :
    DV W (tLc wi (gName j) tt te vs) Γ (.list ((xs.filter c).map f)) :=
  de_lc h fun ys e => by
    subst e
    refine ⟨hz, fun i acc => acc = ((ys.take i).filter c).map f, by simp, fun i x acc hx ha _ => dgw_name hj ((ht i x hx).imp fun b hb => ?_), fun acc ha => by rw [ha, List.take_length]⟩
    have e1 : ys.take (i + 1) = ys.take i ++ [x] := by rw [List.take_add_one, hx]; rfl
    subst hb
    cases hc : c x with
    | true =>
      rw [if_pos rfl]
      refine (he i x hx hc).imp fun d hd => ?_
      subst hd
      rw [ha, e1, List.filter_append, List.map_append]
      simp [hc]
    | false =>
      rw [if_neg Bool.false_ne_true]
      show acc = ((ys.take (i + 1)).filter c).map f
      rw [ha, e1, List.filter_append]
      simp [hc]
theorem yes_go {σ : L2.St} {H : Hp} {A B : Hp → Prop} (h : A H) : tYes σ H (fun b H3 => if b = true then A H3 else B H3) := by
  show (if true = true then A H else B H)
  rw [if_pos rfl]
  exact h
/-- [e for x in xs for y in ys] -/
theorem dv_map2 {wi1 : TI} {j j1 : Nat} {vs1 : List Nat} {xs : List PD} {ys : PD → List PD} {f : PD → PD → PD} (h : DI W wi Γ (fun zs => zs = xs)) (hj : j ∈ vs) (hj1 : j1 ∈ vs1) (hjj : j ∉ vs1) (n : Nat) (hz : xs.length * n < 100000) (hy : ∀ x ∈ xs, (ys x).length ≤ n)
    (h1 : ∀ x ∈ xs, DI W wi1 ((wipeS Γ vs).set j (Sl.d x)) (fun zs => zs = ys x))
    (he : ∀ x ∈ xs, ∀ y ∈ ys x, DV W te ((wipeS ((wipeS Γ vs).set j (Sl.d x)) vs1).set j1 (Sl.d y)) (f x y)) : DV W (tLc2 wi (gName j) tYes wi1 (gName j1) tYes te vs vs1) Γ (.list (xs.flatMap fun x => (ys x).map (f x))) := fun σ G H s Q q => h σ G H s _ fun J G1 H1 xs' s1 f1 p wk D hD => by
  subst p
  refine ⟨fun i m H' => m = xs'.length - i ∧ i ≤ xs'.length ∧ ∃ G', LcAt W Γ σ G1 H1 G' H' D ((xs'.take i).flatMap fun x => (ys x).map (f x)), ⟨xs'.length, by simp, Nat.zero_le _, G1, LcAt.start s1 hD⟩, ?_⟩
  rintro i m H' ⟨rfl, hi, G', la⟩
  have gr : Same G1 G' := la.fw.grow s1.sub
  obtain ⟨w1, w2⟩ := wk i G' H' gr la.sr.sub
  by_cases hlt : i < xs'.length
  · have hx : xs'[i]? = some xs'[i] := List.getElem?_eq_getElem hlt
    obtain ⟨go, yl⟩ := w1 xs'[i] hx
    generalize hxx : xs'[i] = x at hx go yl
    have hm : x ∈ xs' := List.mem_of_getElem? hx
    have e1 : xs'.take (i + 1) = xs'.take i ++ [x] := by rw [List.take_add_one, hx]; rfl
    have hlen : ∀ l : List PD, (∀ z ∈ l, z ∈ xs') → (l.flatMap fun x => (ys x).map (f x)).length ≤ l.length * n := by
      intro l
      induction l with
      | nil => intro _; simp
      | cons a l ih =>
        intro hl
        rw [List.flatMap_cons, List.length_append, List.length_map, List.length_cons, Nat.succ_mul]
        have b1 := hy a (hl a List.mem_cons_self)
        have b2 := ih fun z hz2 => hl z (List.mem_cons_of_mem _ hz2)
        omega
    refine .inr ⟨go, fun H2 => ∃ G2, LcAt W Γ σ G1 H1 G2 H2 D ((xs'.take (i + 1)).flatMap fun x => (ys x).map (f x)), fun H2 q2 => ⟨xs'.length - (i + 1), by omega, rfl, hlt, q2⟩, fun y H2 hy2 => ?_⟩
    obtain ⟨G2, f2, d2⟩ := yl y H2 hy2
    have la2 := la.step f2.any (la.sr.step0 f2).ph
    refine ⟨wipe_set hj, yes_go ?_⟩
    have s2 := (la2.sr.wiped vs).setD (i := j) d2
    refine h1 x hm _ G2 H2 s2 _ fun J1 G3 H3 zs s3 f3 p3 wk1 => ?_
    subst p3
    have la3 := la2.step f3 s3.ph
    refine ⟨fun a m H5 => m = (ys x).length - a ∧ a ≤ (ys x).length ∧ ∃ G5, LcAt W Γ σ G1 H1 G5 H5 D (((xs'.take i).flatMap fun x => (ys x).map (f x)) ++ ((ys x).take a).map (f x)) ∧ SR W G5 H5 ((wipe σ vs).set j (some y)) ((wipeS Γ vs).set j (Sl.d x)) ∧ Same G3 G5, ⟨(ys x).length, by simp, Nat.zero_le _, G3, by simpa using la3, s3, Same.refl _⟩, ?_⟩
    rintro a m H5 ⟨rfl, ha, G5, la5, s5, g5⟩
    obtain ⟨w3, w4⟩ := wk1 a G5 H5 g5 la5.sr.sub
    by_cases hla : a < (ys x).length
    · have hyy : (ys x)[a]? = some (ys x)[a] := List.getElem?_eq_getElem hla
      obtain ⟨go1, yl1⟩ := w3 (ys x)[a] hyy
      generalize hyx : (ys x)[a] = yv at hyy go1 yl1
      have hmy : yv ∈ ys x := List.mem_of_getElem? hyy
      have e2 : (ys x).take (a + 1) = (ys x).take a ++ [yv] := by rw [List.take_add_one, hyy]; rfl
      refine .inr ⟨go1, fun H6 => ∃ G6, LcAt W Γ σ G1 H1 G6 H6 D (((xs'.take i).flatMap fun x => (ys x).map (f x)) ++ ((ys x).take (a + 1)).map (f x)) ∧ SR W G6 H6 ((wipe σ vs).set j (some y)) ((wipeS Γ vs).set j (Sl.d x)) ∧ Same G3 G6, fun H6 q6 => ⟨(ys x).length - (a + 1), by omega, rfl, hla, q6⟩, fun yy H6 hy6 => ?_⟩
      obtain ⟨G6, f6, d6⟩ := yl1 yy H6 hy6
      have la6 := la5.step f6.any (la5.sr.step0 f6).ph
      have s6 := s5.step0 f6
      refine ⟨wipe_set hj1, yes_go ?_⟩
      refine he x hm yv hmy _ G6 H6 ((s6.wiped vs1).setD (i := j1) d6) _ fun w G7 H7 d s7 f7 k7 dw => ?_
      subst k7
      have la7 := la6.step f7 s7.ph
      obtain ⟨us, u1, u2⟩ := la7.at_
      have s7' := s6.step f7 s7.ph
      have hb : (((xs'.take i).flatMap fun x => (ys x).map (f x)) ++ ((ys x).take a).map (f x)).length < 100000 := by
        have b1 := hlen (xs'.take i) fun z hz2 => List.mem_of_mem_take hz2
        have b2 := hy x hm
        rw [List.length_append, List.length_map, List.length_take]
        rw [List.length_take] at b1
        have b3 : (i + 1) * n ≤ xs'.length * n := Nat.mul_le_mul_right n hlt
        have b4 : min i xs'.length = i := Nat.min_eq_left hi
        rw [b4] at b1
        rw [Nat.succ_mul] at b3
        omega
      refine ⟨us, u1, Nat.lt_of_lt_of_le (by rw [u2.length]; exact hb) (by decide : 100000 ≤ sizeLine), G7, ?_, s7'.off la7.w0 la7.gd (fun i2 xs2 e3 => ?_), g5.trans ((f6.grow la5.sr.sub).trans (f7.grow la6.sr.sub))⟩
      · have := la7.add u1 u2 dw
        rw [List.append_assoc] at this
        rw [e2, List.map_append]
        exact this
      · have e4 : i2 ≠ j := fun z => by
          subst z
          by_cases hl : i2 < (wipeS Γ vs).length
          · rw [List.getElem?_set_self hl] at e3
            cases e3
          · rw [List.getElem?_eq_none (by rw [List.length_set]; exact Nat.le_of_not_lt hl)] at e3
            cases e3
        rw [List.getElem?_set_ne (Ne.symm e4)] at e3 ⊢
        obtain ⟨b1, b2⟩ := wipeS_get (x := Sl.l xs2) (fun z => nomatch z) e3
        rw [wipe_out b2]
        exact la7.sl i2 xs2 b1
    · have e : a = (ys x).length := by omega
      subst e
      refine .inl ⟨w4 rfl, G5, ?_⟩
      rw [List.take_length] at la5
      rw [e1, List.flatMap_append, List.flatMap_cons, List.flatMap_nil, List.append_nil]
      exact la5
  · have e : i = xs'.length := by omega
    subst e
    rw [List.take_length] at la
    obtain ⟨G2, s2, f2, dd⟩ := la.done
    exact .inl ⟨w2 rfl, q _ G2 H' _ s2 (f1.trans f2) rfl dd⟩

/-! ### promises: a def that gives data for data -/
def spF (rel : List PD → PD → Prop) : Sp := fun vs H Q _ => ∃ (ds : List PD) (G : Hp) (d : PD), DqAll G vs ds ∧ Same G H ∧ rel ds d ∧ ∀ (v : V) (G' H' : Hp), Fw Nm G H G' H' → Dq G' v d → Q v H'
theorem dv_call {t : TA} {rel : List PD → PD → Prop} {E : XK} {ds : List PD} (h : DAv W t Γ ds) (hr : rel ds x) : DV W (tCall (spF rel) [] E t) Γ x := fun σ G H s Q q => h σ G H s _ fun vs G1 H1 ys s1 f1 p hv => by
  cases p
  refine ⟨ds, G1, x, by rw [List.append_nil]; exact hv, s1.sub, hr, fun v G2 H2 f2 dv => ?_⟩
  exact q v G2 H2 x (s1.step0 f2) (f1.trans f2.any) rfl dv
/-- no changing part -/
def W0 (K : PySem.W.Frag) (G H : Hp) : Wd := ⟨K, Nm, fun _ => True, G, H, fun _ _ _ _ => trivial, fun _ _ _ z => z.elim, trivial⟩
theorem sr0 {K : PySem.W.Frag} {G H : Hp} (s : Same G H) {vs : List V} {ds : List PD} (h : DqAll G vs ds) (n : Nat) : SR (W0 K G H) G H (vs.map some ++ List.replicate n none) (ds.map Sl.d ++ List.replicate n Sl.no) := by
  have hl := h.length
  have noL : ∀ (i : Nat) (x : Sl), (∀ d, x ≠ Sl.d d) → x ≠ Sl.no → (ds.map Sl.d ++ List.replicate n Sl.no)[i]? ≠ some x := fun i x h1 h2 e => by
    by_cases hi : i < ds.length
    · rw [List.getElem?_append_left (by simpa using hi), List.getElem?_map] at e
      cases q : ds[i]? with
      | none => rw [q] at e; cases e
      | some d => rw [q] at e; exact h1 d (Option.some.inj e).symm
    · rw [List.getElem?_append_right (by simpa using hi), List.getElem?_replicate] at e
      split at e
      · exact h2 (Option.some.inj e).symm
      · cases e
  refine ⟨by simp [hl], Fw.refl s, fun _ z => z.elim, trivial, fun i x e => ?_, fun i x e => absurd e (noL i _ (fun d z => nomatch z) (fun z => nomatch z)), fun i x e => absurd e (noL i _ (fun d z => nomatch z) (fun z => nomatch z)), fun i j xs ys p e => absurd e (noL i _ (fun d z => nomatch z) (fun z => nomatch z))⟩
  by_cases hi : i < ds.length
  · rw [List.getElem?_append_left (by simpa using hi), List.getElem?_map] at e
    cases q : ds[i]? with
    | none => rw [q] at e; cases e
    | some d =>
      rw [q] at e
      have e2 := Sl.d.inj (Option.some.inj e)
      subst e2
      obtain ⟨v, h1, h2⟩ := h.get q
      exact ⟨v, by rw [List.getElem?_append_left (by simpa [hl] using hi), List.getElem?_map, h1]; rfl, h2⟩
  · rw [List.getElem?_append_right (by simpa using hi), List.getElem?_replicate] at e
    split at e
    · cases e
    · cases e
/-- a body whose slots' readings give d -/
theorem body0 {ts : TS} {rel : List PD → PD → Prop} {N : List Str} {m : Nat} {vs : List V} {H : Hp} {Q : VK} {E : XK} (h : spF rel vs H Q E) (hm : ∀ ds d, rel ds d → ds.length = m) (K : PySem.W.Frag)
    (hb : ∀ (G : Hp) (ds : List PD) (d : PD), rel ds d → DS (W0 K G H) ts (ds.map Sl.d ++ List.replicate (N.length - m) Sl.no) No (fun z => z = d) No No) :
    ts { nx := fun _ H' => Q .non H', rt := Q } (L2.start N vs) H := by
  obtain ⟨ds, G, d, hv, s, hr, q⟩ := h
  have e : L2.start N vs = vs.map some ++ List.replicate (N.length - m) none := by
    unfold L2.start
    rw [hv.length, hm ds d hr]
  rw [e]
  exact hb G ds d hr _ G H _ (sr0 s hv _) (fun _ _ _ _ _ _ z => z.elim) (fun v G' H' z f _ e dv => by subst e; exact q v G' H' f dv) (fun _ _ _ _ _ _ z => z.elim) (fun _ _ _ _ _ _ z => z.elim)
theorem spF_len {rel : List PD → PD → Prop} {ps : List Str} (h : ∀ ds d, rel ds d → ds.length = ps.length) : ∀ vs H Q E, spF rel vs H Q E → vs.length = ps.length := fun vs H Q E ⟨ds, G, d, hv, s, hr, q⟩ => by rw [hv.length]; exact h ds d hr
end

/-! ### built-ins -/
section
variable {X : Cx} {K : PySem.W.Frag}
def rLenQ (K : PySem.W.Frag) : List V → Hp → VK → Prop := fun xs H Q => ∃ p ys, xs = [.ref p] ∧ (SqL K H p ys ∨ SqT K H p ys) ∧ Q (.int ys.length) H
theorem cq_len : CallR X (.builtin "len") (rLenQ X.K) := call_len_seq
theorem rc_lenL {xs : List PD} : RC (rLenQ K) [.list xs] (fun d => d = .int (xs.length : Int)) := fun G H vs s hv Q q => by
  cases hv with
  | cons a r =>
    cases r
    cases a with
    | lst h1 h2 => exact ⟨_, _, rfl, .inl (SqL.of (s _ _ h1)), q _ G H _ (Fw.refl s) rfl (by rw [h2.length]; exact .int _)⟩
theorem rc_lenT {xs : List PD} : RC (rLenQ K) [.tuple xs] (fun d => d = .int (xs.length : Int)) := fun G H vs s hv Q q => by
  cases hv with
  | cons a r =>
    cases r
    cases a with
    | tup h1 h2 => exact ⟨_, _, rfl, .inr (SqT.of (s _ _ h1)), q _ G H _ (Fw.refl s) rfl (by rw [h2.length]; exact .int _)⟩
/-- a builtin of two ints, told by a plain function -/
def rTwo (g : Int → Int → Int) : List V → Hp → VK → Prop := fun xs H Q => ∃ a b : Int, xs = [V.int a, V.int b] ∧ Q (V.int (g a b)) H
abbrev rMin2 := rTwo fun i j => if j < i then j else i
abbrev rMax2 := rTwo fun i j => if j > i then j else i
theorem cq_min2 (hc : X.calm = true) : CallR X (.builtin "min") rMin2 := call_min2 hc
theorem cq_max2 (hc : X.calm = true) : CallR X (.builtin "max") rMax2 := call_max2 hc
theorem rc_min2 {i j : Int} : RC rMin2 [.int i, .int j] (fun d => d = .int (min i j)) := fun G H vs s hv Q q => by
  cases hv with
  | cons a r =>
    cases r with
    | cons b r =>
      cases r
      cases a
      cases b
      refine ⟨i, j, rfl, q _ G H _ (Fw.refl s) rfl ?_⟩
      show Dq G (V.int (if j < i then j else i)) _
      have e : (if j < i then j else i) = min i j := by
        split <;> omega
      rw [e]
      exact .int _
theorem rc_max2 {i j : Int} : RC rMax2 [.int i, .int j] (fun d => d = .int (max i j)) := fun G H vs s hv Q q => by
  cases hv with
  | cons a r =>
    cases r with
    | cons b r =>
      cases r
      cases a
      cases b
      refine ⟨i, j, rfl, q _ G H _ (Fw.refl s) rfl ?_⟩
      show Dq G (V.int (if j > i then j else i)) _
      have e : (if j > i then j else i) = max i j := by
        split <;> omega
      rw [e]
      exact .int _
def rAbs : List V → Hp → VK → Prop := fun xs H Q => ∃ i, xs = [.int i] ∧ Q (.int (if i < 0 then -i else i)) H
theorem cq_abs : CallR X (.builtin "abs") rAbs := call_abs
theorem rc_abs {i : Int} : RC rAbs [.int i] (fun d => d = .int (if i < 0 then -i else i)) := fun G H vs s hv Q q => by
  cases hv with
  | cons a r =>
    cases r
    cases a
    exact ⟨i, rfl, q _ G H _ (Fw.refl s) rfl (.int _)⟩
def rInt1 : List V → Hp → VK → Prop := fun xs H Q => (∃ i, xs = [.int i] ∧ Q (.int i) H) ∨ ∃ k, xs = [.bl k] ∧ Q (.int (if k then 1 else 0)) H
theorem cq_int : CallR X (.type "int") rInt1 := call_int1
theorem rc_int {i : Int} : RC rInt1 [.int i] (fun d => d = .int i) := fun G H vs s hv Q q => by
  cases hv with
  | cons a r =>
    cases r
    cases a
    exact .inl ⟨i, rfl, q _ G H _ (Fw.refl s) rfl (.int _)⟩
/-- the least, the greatest of some numbers -/
def lmin : List Int → Int
  | [] => 0
  | [x] => x
  | x :: y :: r => min x (lmin (y :: r))
def lmax : List Int → Int
  | [] => 0
  | [x] => x
  | x :: y :: r => max x (lmax (y :: r))
theorem lmin_mem : ∀ {l : List Int}, l ≠ [] → lmin l ∈ l
  | [], h => absurd rfl h
  | [x], _ => List.mem_singleton.mpr rfl
  | x :: y :: r, _ => by
    have ih := lmin_mem (l := y :: r) (List.cons_ne_nil _ _)
    show min x (lmin (y :: r)) ∈ _
    by_cases h : x ≤ lmin (y :: r)
    · rw [Int.min_eq_left h]
      exact List.mem_cons_self
    · rw [Int.min_eq_right (by omega)]
      exact List.mem_cons_of_mem _ ih
theorem lmin_le : ∀ {l : List Int} {z : Int}, z ∈ l → lmin l ≤ z
  | [x], z, h => by
    rw [List.mem_singleton.mp h]
    exact Int.le_refl _
  | x :: y :: r, z, h => by
    show min x (lmin (y :: r)) ≤ z
    rcases List.mem_cons.mp h with e | e
    · rw [e]
      exact Int.min_le_left _ _
    · exact Int.le_trans (Int.min_le_right _ _) (lmin_le e)
theorem lmax_mem : ∀ {l : List Int}, l ≠ [] → lmax l ∈ l
  | [], h => absurd rfl h
  | [x], _ => List.mem_singleton.mpr rfl
  | x :: y :: r, _ => by
    have ih := lmax_mem (l := y :: r) (List.cons_ne_nil _ _)
    show max x (lmax (y :: r)) ∈ _
    by_cases h : x ≤ lmax (y :: r)
    · rw [Int.max_eq_right h]
      exact List.mem_cons_of_mem _ ih
    · rw [Int.max_eq_left (by omega)]
      exact List.mem_cons_self
theorem lmax_ge : ∀ {l : List Int} {z : Int}, z ∈ l → z ≤ lmax l
  | [x], z, h => by
    rw [List.mem_singleton.mp h]
    exact Int.le_refl _
  | x :: y :: r, z, h => by
    show z ≤ max x (lmax (y :: r))
    rcases List.mem_cons.mp h with e | e
    · rw [e]
      exact Int.le_max_left _ _
    · exact Int.le_trans (lmax_ge e) (Int.le_max_right _ _)
theorem rc_min {ns : List Int} (hn : ns ≠ []) : RC (rMin K) [.list (ns.map PyData.int)] (fun d => d = .int (lmin ns)) := fun G H vs s hv Q q => by
  cases hv with
  | cons a r =>
    cases r
    cases a with
    | lst h1 h2 =>
      have e := h2.ints
      subst e
      refine ⟨_, ns, rfl, SqL.of (s _ _ h1), List.length_pos_iff.mpr hn, fun m hm hle => q _ G H _ (Fw.refl s) rfl ?_⟩
      have e : m = lmin ns := Int.le_antisymm (hle _ (lmin_mem hn)) (lmin_le hm)
      rw [e]
      exact .int _
theorem rc_max {ns : List Int} (hn : ns ≠ []) : RC (rMax K) [.list (ns.map PyData.int)] (fun d => d = .int (lmax ns)) := fun G H vs s hv Q q => by
  cases hv with
  | cons a r =>
    cases r
    cases a with
    | lst h1 h2 =>
      have e := h2.ints
      subst e
      refine ⟨_, ns, rfl, SqL.of (s _ _ h1), List.length_pos_iff.mpr hn, fun m hm hle => q _ G H _ (Fw.refl s) rfl ?_⟩
      have e : m = lmax ns := Int.le_antisymm (lmax_ge hm) (hle _ (lmax_mem hn))
      rw [e]
      exact .int _
theorem rc_sum {ns : List Int} : RC (rSum K) [.list (ns.map PyData.int)] (fun d => d = .int ns.sum) := fun G H vs s hv Q q => by
  cases hv with
  | cons a r =>
    cases r
    cases a with
    | lst h1 h2 =>
      have e := h2.ints
      subst e
      exact ⟨_, ns, rfl, SqL.of (s _ _ h1), q _ G H _ (Fw.refl s) rfl (.int _)⟩
theorem rc_all {bs : List Bool} : RC (rAll K) [.list (bs.map PyData.bool)] (fun d => d = .bool (bs.all id)) := fun G H vs s hv Q q => by
  cases hv with
  | cons a r =>
    cases r
    cases a with
    | lst h1 h2 =>
      have e := h2.bools
      subst e
      exact ⟨_, bs, rfl, SqL.of (s _ _ h1), q _ G H _ (Fw.refl s) rfl (.bl _)⟩
/-- sorted numbers: one list alone -/
theorem sorted_uniq : ∀ {l m : List Int}, l.Perm m → l.Pairwise (· ≤ ·) → m.Pairwise (· ≤ ·) → l = m
  | [], m, p, _, _ => p.nil_eq
  | x :: l, m, p, h1, h2 => by
    cases m with
    | nil => exact absurd p.symm.nil_eq (by simp)
    | cons y m =>
      have hx : x ∈ y :: m := p.mem_iff.mp List.mem_cons_self
      have hy : y ∈ x :: l := p.mem_iff.mpr List.mem_cons_self
      obtain ⟨a1, a2⟩ := List.pairwise_cons.mp h1
      obtain ⟨b1, b2⟩ := List.pairwise_cons.mp h2
      have e : x = y := by
        rcases List.mem_cons.mp hx with e | e
        · exact e
        · rcases List.mem_cons.mp hy with e' | e'
          · exact e'.symm
          · exact Int.le_antisymm (a1 y e') (b1 x e)
      subst e
      rw [sorted_uniq (List.Perm.cons_inv p) a2 b2]
theorem rc_sorted {ns ms : List Int} (hp : ms.Perm ns) (hs : ms.Pairwise (· ≤ ·)) : RC (rSortedI K) [.list (ns.map PyData.int)] (fun d => d = .list (ms.map PyData.int)) := fun G H vs s hv Q q => by
  cases hv with
  | cons a r =>
    cases r
    cases a with
    | lst h1 h2 =>
      have e := h2.ints
      subst e
      refine ⟨_, ns, rfl, SqL.of (s _ _ h1), fun ns' p hp' hs' hn => ?_⟩
      have e : ns' = ms := sorted_uniq (hp'.trans hp.symm) hs' hs
      subst e
      obtain ⟨f, d⟩ := new_l (vs := ns'.map V.int) s hn (DqAll.ofInts ns')
      exact q _ _ _ _ f rfl d
def rListQ (K : PySem.W.Frag) : List V → Hp → VK → Prop := fun xs H Q => ∃ p ys, xs = [.ref p] ∧ (SqL K H p ys ∨ SqT K H p ys) ∧ ∀ l, H l = none → Q (.ref l) (upd H l (.lst ys))
theorem cq_list : CallR X (.type "list") (rListQ X.K) := call_list_of
theorem rc_listT {xs : List PD} : RC (rListQ K) [.tuple xs] (fun d => d = .list xs) := fun G H vs s hv Q q => by
  cases hv with
  | cons a r =>
    cases r
    cases a with
    | tup h1 h2 =>
      refine ⟨_, _, rfl, .inr (SqT.of (s _ _ h1)), fun l hl => ?_⟩
      obtain ⟨f, d⟩ := new_l s hl h2
      exact q _ _ _ _ f rfl d
theorem rc_listL {xs : List PD} : RC (rListQ K) [.list xs] (fun d => d = .list xs) := fun G H vs s hv Q q => by
  cases hv with
  | cons a r =>
    cases r
    cases a with
    | lst h1 h2 =>
      refine ⟨_, _, rfl, .inl (SqL.of (s _ _ h1)), fun l hl => ?_⟩
      obtain ⟨f, d⟩ := new_l s hl h2
      exact q _ _ _ _ f rfl d
def rTupQ (K : PySem.W.Frag) : List V → Hp → VK → Prop := fun xs H Q => ∃ p ys, xs = [.ref p] ∧ ((SqL K H p ys ∧ ∀ l, H l = none → Q (.ref l) (upd H l (.tup ys))) ∨ (SqT K H p ys ∧ Q (.ref p) H))
theorem cq_tup : CallR X (.type "tuple") (rTupQ X.K) := call_tuple_of
theorem rc_tupL {xs : List PD} : RC (rTupQ K) [.list xs] (fun d => d = .tuple xs) := fun G H vs s hv Q q => by
  cases hv with
  | cons a r =>
    cases r
    cases a with
    | lst h1 h2 =>
      refine ⟨_, _, rfl, .inl ⟨SqL.of (s _ _ h1), fun l hl => ?_⟩⟩
      obtain ⟨f, d⟩ := new_t s hl h2
      exact q _ _ _ _ f rfl d
/-- isinstance -/
def tyN : PD → String
  | .none => "NoneType"
  | .bool _ => "bool"
  | .int _ => "int"
  | .str _ => "str"
  | .list _ => "list"
  | .tuple _ => "tuple"
  | .dict _ => "dict"
def tCls (n : String) : TE := tC (.ty n)
theorem tyX_q {G H : Hp} {v : V} {d : PD} (s : Same G H) (h : Dq G v d) : TyX K H v (.type (tyN d)) := by
  cases h with
  | non => exact .base .non
  | bl b => exact .base (.bl b)
  | int i => exact .base (.int i)
  | str x => exact .base (.str x)
  | lst h1 h2 => exact .base (.lst (s _ _ h1))
  | tup h1 h2 => exact .base (.tup (s _ _ h1))
theorem dv_isi {W : Wd} {Γ : List Sl} {te : TE} {x : PD} {n : String} {b : Bool} (h : DV W te Γ x) (hk : kitB (tyN x) n = some b) : DV W (tCB (rIsi K) (tCons te (tCons (tC (.ty n)) tNil))) Γ (.bool b) := fun σ G H s Q q => h σ G H s _ fun v G1 H1 d s1 f1 pd hv => by
  cases pd
  exact ⟨v, .ty n, _, _, b, rfl, .ty n, tyX_q s1.sub hv, kit_ty hk, q _ G1 H1 _ s1 f1 rfl (.bl b)⟩
end
end K24

set_option Elab.async false
set_option linter.all false
set_option maxRecDepth 100000
/-! K24E: rules and nets as plain data; a def's fact by its body. -/
namespace K24
open PySem PySem.Spec PyProof.Rows L2

inductive Kd where
  | least | most | add | middle
  | times (m : Int) | part (d : Int) | clip (lo hi : Int) | frm (w : Int) | bar (k lo hi : Int) | row (ws : List Int)
inductive Rl where
  | is (w : Int)
  | hear (j : Nat)
  | node (k : Kd) (ps : List Rl)
def I (i : Int) : PD := .int i
def Ls (l : List Int) : List PD := l.map PyData.int
def encK : Kd → List PD → PD
  | .least, ps => .tuple [.str "least", .tuple ps]
  | .most, ps => .tuple [.str "most", .tuple ps]
  | .add, ps => .tuple [.str "add", .tuple ps]
  | .middle, ps => .tuple (.str "middle" :: ps)
  | .times m, ps => .tuple (.str "times" :: .int m :: ps)
  | .part d, ps => .tuple (.str "part" :: .int d :: ps)
  | .clip lo hi, ps => .tuple (.str "clip" :: .int lo :: .int hi :: ps)
  | .frm w, ps => .tuple (.str "from" :: .int w :: ps)
  | .bar k lo hi, ps => .tuple (.str "bar" :: .int k :: .int lo :: .int hi :: ps)
  | .row ws, ps => .tuple (.str "row" :: .tuple (ws.map PyData.int) :: ps)
mutual
def enc : Rl → PD
  | .is w => .tuple [.str "is", .int w]
  | .hear j => .tuple [.str "hear", .int (j : Int)]
  | .node k ps => encK k (encs ps)
def encs : List Rl → List PD
  | [] => []
  | p :: ps => enc p :: encs ps
end
theorem encs_len : ∀ ps : List Rl, (encs ps).length = ps.length
  | [] => rfl
  | _ :: ps => congrArg (· + 1) (encs_len ps)
theorem encs_get : ∀ {ps : List Rl} {i : Nat} {x : PD}, (encs ps)[i]? = some x → ∃ p, ps[i]? = some p ∧ x = enc p
  | [], _, _, h => by simp [encs] at h
  | p :: ps, 0, x, h => ⟨p, rfl, (Option.some.inj h).symm⟩
  | p :: ps, i + 1, x, h => encs_get (ps := ps) (i := i) (x := x) h
/-- what is asked of a rule's kind, its parts' number -/
def okK : Kd → Nat → Prop
  | .least, n => 1 ≤ n ∧ n ≤ 60
  | .most, n => 1 ≤ n ∧ n ≤ 60
  | .add, n => 1 ≤ n ∧ n ≤ 60
  | .middle, n => n = 3
  | .times m, n => n = 1 ∧ 0 ≤ m ∧ m ≤ 1000
  | .part d, n => n = 1 ∧ 1 ≤ d ∧ d ≤ 1000
  | .clip lo hi, n => n = 1 ∧ 0 ≤ lo ∧ lo ≤ hi ∧ hi ≤ 1000
  | .frm w, n => n = 1 ∧ 0 ≤ w ∧ w ≤ 1000
  | .bar k lo hi, n => n = 1 ∧ 0 ≤ k ∧ k ≤ 1000 ∧ 0 ≤ lo ∧ lo ≤ 1000 ∧ 0 ≤ hi ∧ hi ≤ 1000
  | .row ws, n => n = 1 ∧ 1 ≤ ws.length ∧ ws.length ≤ 64 ∧ ∀ w ∈ ws, 0 ≤ w ∧ w ≤ 1000
mutual
/-- a rule that hears houses below n -/
def okR (n : Nat) : Rl → Prop
  | .is w => 0 ≤ w ∧ w ≤ 1000
  | .hear j => j < n ∧ j ≤ 1000
  | .node k ps => okK k ps.length ∧ okRs n ps
def okRs (n : Nat) : List Rl → Prop
  | [] => True
  | p :: ps => okR n p ∧ okRs n ps
end
mutual
def dep : Rl → Nat
  | .is _ => 1
  | .hear _ => 1
  | .node _ ps => deps ps + 1
def deps : List Rl → Nat
  | [] => 0
  | p :: ps => max (dep p) (deps ps)
end
mutual
/-- the houses heard -/
def brs : Rl → List Nat
  | .is _ => []
  | .hear j => [j]
  | .node _ ps => brss ps
def brss : List Rl → List Nat
  | [] => []
  | p :: ps => brs p ++ brss ps
end
def Ns (l : List Nat) : List PD := l.map fun j : Nat => PyData.int (j : Int)
theorem Ns_eq (l : List Nat) : Ns l = (l.map fun j : Nat => (j : Int)).map PyData.int := by
  unfold Ns
  rw [List.map_map]
  rfl
theorem okRs_mem {n : Nat} : ∀ {ps : List Rl} {p : Rl}, okRs n ps → p ∈ ps → okR n p
  | q :: ps, p, h, hm => by
    rcases List.mem_cons.mp hm with e | e
    · rw [e]; exact h.1
    · exact okRs_mem h.2 e
theorem deps_mem : ∀ {ps : List Rl} {p : Rl}, p ∈ ps → dep p ≤ deps ps
  | q :: ps, p, hm => by
    show dep p ≤ max (dep q) (deps ps)
    rcases List.mem_cons.mp hm with e | e
    · rw [e]; exact Nat.le_max_left _ _
    · exact Nat.le_trans (deps_mem e) (Nat.le_max_right _ _)

/-! ### a def of the top, and what it keeps -/
structure Dat (K : PySem.W.Frag) (mg : Str → Option Value) (x : Str) (st : Stmt) : Prop where
  ex : ∃ (f : Addr) (fd : FuncData), FunD K x x (defArgs st) (defBody st) (defScope st) [] [] f fd ∧ mg x = some (.ref f)
structure Cal (P : Program) (w : World) (K : PySem.W.Frag) (mg : Str → Option Value) (base : Heap) (CX : CXT) (k : Nat) (x : Str) (ps : List Str) (sp : Sp) : Prop where
  ex : ∃ (f : Addr) (fd : FuncData), FnOk P w K mg base CX k f fd ps sp ∧ mg x = some (.ref f) ∧ PySem.W.keepIn K (.ref f) = true ∧ Binds K fd ps []
section
variable {P : Program} {w : World} {K : PySem.W.Frag} {mg : Str → Option Value} {base : Heap}
theorem Cal.mono {CX : CXT} {j k : Nat} {x : Str} {ps : List Str} {sp : Sp} (c : Cal P w K mg base CX j x ps sp) (h : j ≤ k) : Cal P w K mg base CX k x ps sp := by
  obtain ⟨f, fd, a, b⟩ := c.ex
  exact ⟨f, fd, a.mono h, b⟩
/-- how the parameters bind -/
abbrev BindsBy (x : Str) (st : Stmt) (ps : List Str) : Prop := ∀ (kV doc pm : Value) (an : Option Addr) (cdv ct : Value) (us : List Value), us.length = ps.length → bindArgs (PySem.W.fnOf x x (defArgs st) (defBody st) (defScope st) .none kV doc pm an cdv ct) ⟨us, []⟩ = pure (ps.zip us)
theorem cal_mk {x : Str} {st : Stmt} {N ps : List Str} {k : Nat} {rel : List PD → PD → Prop} {t : TS} (D : Dat K mg x st) (S : FnScope N ps (defScope st)) (hb : BindsBy x st ps)
    (hp : ∀ (f : Addr) (cdv : Value) (A : Around) (outer : List Env) (s : Shared) (H : Hp) (E : XK), Room k (A.deeper (envOfC x (defScope st) s.heap.objs.size f cdv)) → PSs (cxOf CX0 P w K mg base N x (defScope st) f cdv A outer s H E).nox (defBody st) t)
    (hl : ∀ ds d, rel ds d → ds.length = ps.length)
    (hr : ∀ (G H : Hp) (ds : List PD) (d : PD), rel ds d → DS (W0 K G H) t (ds.map Sl.d ++ List.replicate (N.length - ps.length) Sl.no) No (fun z => z = d) No No) : Cal P w K mg base CX0 (k + 1) x ps (spF rel) := by
  obtain ⟨f, fd, F, hm⟩ := D.ex
  refine ⟨f, fd, F.ok S (spF_len hl) (fun cdv A outer s H vs Q E hrm h => ⟨t, (hp f cdv A outer s H E hrm).nox, body0 (N := N) (m := ps.length) h hl K fun G ds d hd => hr G H ds d hd⟩), hm, F.kp, F.bindsN hb⟩
theorem cal_none {x : Str} {st : Stmt} {ps : List Str} {rel : List PD → PD → Prop} (D : Dat K mg x st) (hb : BindsBy x st ps) (hn : ∀ ds d, ¬ rel ds d) : Cal P w K mg base CX0 0 x ps (spF rel) := by
  obtain ⟨f, fd, F, hm⟩ := D.ex
  have no : ∀ vs H Q E, ¬ spF rel vs H Q E := fun vs H Q E ⟨ds, G, d, hv, s, hr, q⟩ => hn ds d hr
  exact ⟨f, fd, ⟨fun vs H Q E h => absurd h (no vs H Q E), fun A outer s H args us vs Q E _ _ _ _ h => absurd h (no vs H Q E)⟩, hm, F.kp, F.bindsN hb⟩
end
section
variable {X : Cx} {CX : CXT} {k : Nat} {x : Str} {ps : List Str} {sp : Sp} {E : XK} {p pos : Pos} {e : Expr} {es : List Expr} {t : TA}
theorem pe_c (c : Cal X.prog X.w X.K X.mg X.base CX k x ps sp) (hr : Room k X.A) (hg : Gl X x) (hx : Passes CX X E) (ha : PA X (e :: es) t)
    (hdb : (x == ("__debug__" : Str)) = false := by decide) (he : starEach (e :: es) X.env = (false, eval e X.env) :: starEach es X.env := by rfl) (hpl : (backTo pos (starEach es X.env)).any (·.1) = false := by rfl) :
    PE X (.Call (.Name x p) (e :: es) [] pos) (tCall sp [] E t) := by
  obtain ⟨f, fd, F, hm, hk, hb⟩ := c.ex
  exact pe_call F hr hg hm hk hb .nil hx ha hdb he hpl
end
end K24

set_option Elab.async false
set_option linter.all false
set_option maxRecDepth 100000
/-! K24M: what the defs tell, as plain functions. -/
namespace K24
open PySem PySem.Spec L2

/-! ### numbers in order -/
def ins (x : Int) : List Int → List Int
  | [] => [x]
  | y :: r => if x < y then x :: y :: r else if x = y then y :: r else y :: ins x r
/-- some numbers, each once, ascending -/
def uset : List Int → List Int
  | [] => []
  | x :: r => ins x (uset r)
def ins2 (x : Int) : List Int → List Int
  | [] => [x]
  | y :: r => if x ≤ y then x :: y :: r else y :: ins2 x r
/-- some numbers, sorted -/
def srt : List Int → List Int
  | [] => []
  | x :: r => ins2 x (srt r)
theorem ins_mem {x z : Int} : ∀ {l : List Int}, z ∈ ins x l ↔ z = x ∨ z ∈ l
  | [] => by simp [ins]
  | y :: r => by
    unfold ins
    split
    · simp
    · split
      · rename_i h
        subst h
        simp
      · have := ins_mem (x := x) (z := z) (l := r)
        simp only [List.mem_cons, this]
        constructor
        · rintro (h | h | h)
          · exact .inr (.inl h)
          · exact .inl h
          · exact .inr (.inr h)
        · rintro (h | h | h)
          · exact .inr (.inl h)
          · exact .inl h
          · exact .inr (.inr h)
theorem ins_asc {x : Int} : ∀ {l : List Int}, l.Pairwise (· < ·) → (ins x l).Pairwise (· < ·)
  | [], _ => by simp [ins]
  | y :: r, h => by
    obtain ⟨h1, h2⟩ := List.pairwise_cons.mp h
    unfold ins
    split
    · rename_i hx
      exact List.pairwise_cons.mpr ⟨fun z hz => by
        rcases List.mem_cons.mp hz with e | e
        · rw [e]; exact hx
        · exact Int.lt_trans hx (h1 z e), h⟩
    · split
      · exact h
      · rename_i hx hy
        refine List.pairwise_cons.mpr ⟨fun z hz => ?_, ins_asc h2⟩
        rcases ins_mem.mp hz with e | e
        · rw [e]; omega
        · exact h1 z e
theorem uset_mem {z : Int} : ∀ {l : List Int}, z ∈ uset l ↔ z ∈ l
  | [] => by simp [uset]
  | x :: r => by
    show z ∈ ins x (uset r) ↔ _
    rw [ins_mem, uset_mem, List.mem_cons]
theorem uset_asc : ∀ l : List Int, (uset l).Pairwise (· < ·)
  | [] => by simp [uset]
  | x :: r => ins_asc (uset_asc r)
theorem ins2_perm {x : Int} : ∀ l : List Int, (ins2 x l).Perm (x :: l)
  | [] => List.Perm.refl _
  | y :: r => by
    unfold ins2
    split
    · exact List.Perm.refl _
    · exact ((ins2_perm r).cons y).trans (List.Perm.swap x y r)
theorem srt_perm : ∀ l : List Int, (srt l).Perm l
  | [] => List.Perm.refl _
  | x :: r => (ins2_perm (srt r)).trans ((srt_perm r).cons x)
theorem ins2_asc {x : Int} : ∀ {l : List Int}, l.Pairwise (· ≤ ·) → (ins2 x l).Pairwise (· ≤ ·)
  | [], _ => by simp [ins2]
  | y :: r, h => by
    obtain ⟨h1, h2⟩ := List.pairwise_cons.mp h
    unfold ins2
    split
    · rename_i hx
      exact List.pairwise_cons.mpr ⟨fun z hz => by
        rcases List.mem_cons.mp hz with e | e
        · rw [e]; exact hx
        · exact Int.le_trans hx (h1 z e), h⟩
    · rename_i hx
      refine List.pairwise_cons.mpr ⟨fun z hz => ?_, ins2_asc h2⟩
      have hz2 := (ins2_perm r).mem_iff.mp hz
      rcases List.mem_cons.mp hz2 with e | e
      · rw [e]; omega
      · exact h1 z e
theorem srt_asc : ∀ l : List Int, (srt l).Pairwise (· ≤ ·)
  | [] => by simp [srt]
  | x :: r => ins2_asc (srt_asc r)
theorem srt_len (l : List Int) : (srt l).length = l.length := (srt_perm l).length_eq
/-- ascending lists with the same numbers are one -/
theorem asc_uniq : ∀ {l m : List Int}, l.Pairwise (· < ·) → m.Pairwise (· < ·) → (∀ z, z ∈ l ↔ z ∈ m) → l = m
  | [], m, _, _, h => by
    cases m with
    | nil => rfl
    | cons y m => exact absurd ((h y).mpr List.mem_cons_self) (by simp)
  | x :: l, m, h1, h2, h => by
    cases m with
    | nil => exact absurd ((h x).mp List.mem_cons_self) (by simp)
    | cons y m =>
      obtain ⟨a1, a2⟩ := List.pairwise_cons.mp h1
      obtain ⟨b1, b2⟩ := List.pairwise_cons.mp h2
      have e : x = y := by
        rcases List.mem_cons.mp ((h x).mp List.mem_cons_self) with e | e
        · exact e
        · rcases List.mem_cons.mp ((h y).mpr List.mem_cons_self) with e' | e'
          · exact e'.symm
          · exact absurd (Int.lt_trans (a1 y e') (b1 x e)) (Int.lt_irrefl _)
      subst e
      have e2 : l = m := asc_uniq a2 b2 fun z => by
        constructor
        · intro hz
          rcases List.mem_cons.mp ((h z).mp (List.mem_cons_of_mem _ hz)) with e | e
          · exact absurd (e ▸ a1 z hz) (Int.lt_irrefl _)
          · exact e
        · intro hz
          rcases List.mem_cons.mp ((h z).mpr (List.mem_cons_of_mem _ hz)) with e | e
          · exact absurd (e ▸ b1 z hz) (Int.lt_irrefl _)
          · exact e
      rw [e2]

/-! ### what a rule tells -/
def made : Kd → List Int → Int
  | .least, vs => lmin vs
  | .most, vs => lmax vs
  | .middle, vs => (srt vs).getD 1 0
  | .add, vs => vs.sum
  | .times m, vs => m * vs.headD 0
  | .part d, vs => vs.headD 0 / d
  | .clip lo hi, vs => min (max (vs.headD 0) lo) hi
  | .frm w, vs => max 0 (w - vs.headD 0)
  | .bar k lo hi, vs => if k ≤ vs.headD 0 then hi else lo
  | .row ws, vs => ws.getD (min (vs.headD 0) ((ws.length : Int) - 1)).toNat 0
mutual
def told : Rl → List Int → Int
  | .is w, _ => w
  | .hear _, h => h.headD 0
  | .node k ps, h => made k (tolds ps h)
def tolds : List Rl → List Int → List Int
  | [], _ => []
  | p :: ps, h => told p h :: tolds ps (h.drop (brs p).length)
end
abbrev Net := List Int × List Rl
abbrev Lots := List (List Int)
def encN (n : Net) : PD := .tuple [.tuple (Ls n.1), .tuple (encs n.2)]
def encT (l : List Int) : PD := .tuple (Ls l)
def encLs (l : Lots) : PD := .tuple (l.map encT)
def rl (n : Net) (i : Nat) : Rl := n.2.getD i (.is 0)
def tp (n : Net) (i : Nat) : Int := n.1.getD i 0
def want (n : Net) (i : Nat) (row : List Int) : Int := min (tp n i) (told (rl n i) row)
/-- all rows that lots bring -/
def rowsOf (ls : Lots) : List Nat → List (List Int) → List (List Int)
  | [], found => found
  | b :: bs, found => rowsOf ls bs (found.flatMap fun row => (ls.getD b []).map fun w => row ++ [w])
def nextL (n : Net) (ls : Lots) : Lots := (List.range n.2.length).map fun i => uset ((rowsOf ls (brs (rl n i)) [[]]).map (want n i))
def upto (t : Int) : List Int := (List.range (t + 1).toNat).map fun k : Nat => (k : Int)
def firstL (n : Net) : Lots := n.1.map upto
def itL (n : Net) : Nat → Lots
  | 0 => firstL n
  | m + 1 => nextL n (itL n m)
/-- the first round whose lots stay -/
def Stop (n : Net) (m : Nat) : Prop := itL n (m + 1) = itL n m ∧ ∀ j, j < m → itL n (j + 1) ≠ itL n j
/-- how many rows a house can hear -/
def manyR (n : Net) (i : Nat) : Int := (brs (rl n i)).foldl (fun a b => a * (tp n b + 1)) 1
/-- a net of a package's form: its houses h, tops up to most -/
structure okN (n : Net) (most : Int) : Prop where
  len : n.2.length = n.1.length
  one : 1 ≤ n.1.length
  few : n.1.length ≤ 20
  tops : ∀ t ∈ n.1, 0 ≤ t ∧ t ≤ most
  most1 : most ≤ 1000
  rules : okRs n.1.length n.2
  deep : deps n.2 ≤ 4
end K24

set_option Elab.async false
set_option linter.all false
set_option maxRecDepth 100000
/-! K24X: rules that the shelf lacks. -/
namespace K24
open PySem PySem.Spec PyProof.Rows L2
open AutoSeq1 (wpAny_loadPart')
/-! xs.extend(a tuple) -/
theorem meets_ext (l : Addr) (items : Array Value) (n : Nat) (b : Addr) (items2 : Array Value) (n2 : Nat) (dd : Option Addr) (sl : Array (Option Value))
    (nolong : ¬(!items.isEmpty && Builtin.List.listTooLong (items.size + items2.size)) = true) (small : items.size ≤ sizeLine) (room : items.size + items2.size ≤ sizeLine + 1) :
    Meets (Builtin.«list.extend» ⟨[.ref l, .ref b], []⟩) (fun _ R s =>
      s.heap.get? l = some { cls := .type "list", dict := none, data := .seq items n, slots := #[] } ∧
      s.heap.get? b = some { cls := .type "tuple", dict := dd, data := .seq items2 n2, slots := sl } ∧
      R (.ok (.ret Value.none)) { s with heap := s.heap.update l (Obj.mapSeq fun x => x ++ items2), toks := s.toks }) :=
  Meets.of_wp fun prog w A R s ⟨o1, o2, k⟩ => by
    obtain ⟨hp, g, d, tk, os⟩ := s
    have g1 := AutoSeq1.idx_int
    have g2 := AutoSeq1.sub_tuple_tuple
    have g3 := AutoSeq1.sub_list_list
    have g4 := AutoSeq1.sub_tuple_list
    have g5 := AutoSeq1.sub_list_tuple
    have room' : (items ++ items2).size ≤ sizeLine + 1 := by rw [Array.size_append]; exact room
    wp_walk using (wpAny_updateSeq o1 rfl (hz := small) (_hz' := room')), wpAny_loadPart' o1, wpAny_loadPart' o2
    exact ⟨_, rfl, k⟩
section
variable {X : Cx}
/-- a global of a plain int -/
theorem pe_gi {x : Str} {i : Int} {pos : Pos} (hg : Gl X x) (h : ∃ t, X.mg x = some (.int i t)) (hd : (x == ("__debug__" : Str)) = false := by decide) : PE X (.Name x pos) (tC (.int i)) := by
  obtain ⟨t, e⟩ := h
  exact pe_glob hg e ⟨t, rfl⟩ hd
def rExtT (K : PySem.W.Frag) : V → List V → Hp → VK → Prop := fun x vs H Q =>
  ∃ (l b : Addr) (xs zs : List V), x = .ref l ∧ vs = [.ref b] ∧ H l = some (.lst xs) ∧ SqT K H b zs ∧
    xs.length + zs.length ≤ sizeLine ∧ Q .non (upd H l (.lst (xs ++ zs)))
theorem mt_extendT : MtM X "list.extend" (rExtT X.K) := fun pins s σ H x vs v us Q I rx rv h => by
  obtain ⟨l, b, xs, zs, rfl, rfl, hH, hB, hz, q⟩ := h
  cases rx
  obtain ⟨u, rfl, ru⟩ := rv.one
  cases ru
  obtain ⟨z, its, n, r, hl, e⟩ := I.lstM hH
  obtain ⟨its2, r2, ⟨⟨cls, dd, data, sl⟩, ho, hc, n2, hd⟩, hz2⟩ := I.tuple hB
  simp only at hc hd
  subst hc hd
  have e2l : its2.length = zs.length := r2.length.symm
  have e1l : its.length = xs.length := hl.symm
  have room : its.toArray.size + its2.toArray.size ≤ sizeLine := by
    simp only [List.size_toArray, e1l, e2l]
    exact hz
  have nolong : ¬(!its.toArray.isEmpty && Builtin.List.listTooLong (its.toArray.size + its2.toArray.size)) = true := by
    rw [notLongL room, Bool.and_false]
    decide
  have M : Meets (Builtin.«list.extend» ⟨[.ref l, .ref b], []⟩) _ := meets_ext l its.toArray n b its2.toArray n2 dd sl nolong (by simp only [List.size_toArray, e1l]; omega) (by omega)
  refine call_meets PySem.F.slot_list_extend ⟨_, e, rfl⟩ PySem.F.entry_list_extend (PySem.F.args_list_extend_2 _ _) M ⟨e, ho, ?_⟩
  refine ⟨.non, _, I.lset (its' := its ++ its2) hH e (by simp) (r.append r2) ?_, rfl, q⟩
  rw [List.length_append]
  omega
end

/-! enumerate(a tuple) -/
theorem meets_enT (l : Addr) (items : Array Value) :
    Meets (Builtin.«enumerate.__new__» ⟨[.type "enumerate", .ref l], []⟩) (fun _ R s => s.heap.IsTuple l items ∧
      R (.ok (.ret (.ref (s.heap.push { cls := .type "tuple_iterator", data := .fields #[.ref l, .int 0 0] }).objs.size)))
        { s with heap := (s.heap.push { cls := .type "tuple_iterator", data := .fields #[.ref l, .int 0 0] }).push { cls := .type "enumerate", data := .fields #[.none, .bool false, .ref s.heap.objs.size, rawInt 0, .none, .none] } }) :=
  Meets.of_wp fun prog w A R s ⟨h1, k⟩ => by
    obtain ⟨hp, g, d, tk, os⟩ := s
    have hsub := sub_enumerate
    have hL : Heap.IsTuple (Shared.heap ⟨hp, g, d, tk, os⟩) l items := h1
    wp_walk using wpAny_pyIter_tuple hL
    refine wpAny_stack_any fun st => wpAny_pure ?_
    split
    · rename_i c _ _ _ _ _
      cases (c == Value.type "enumerate") <;> (wp_walk using wpAny_pyIter_tuple hL; exact ⟨_, rfl, k⟩)
    · wp_walk using wpAny_pyIter_tuple hL
      exact ⟨_, rfl, k⟩
section
variable {prog : Program} {w : World} {A : Around} {E : Value → Shared → Prop} {s : Shared}
theorem call_enT {l : Addr} {items : Array Value} {Q : Value → Shared → Prop} (hL : s.heap.IsTuple l items)
    (k : ∀ h', IsEnum h' (s.heap.objs.size + 1) s.heap.objs.size 0 .none → h'.IsTupleIter s.heap.objs.size l 0 →
      (∀ b o, s.heap.get? b = some o → h'.get? b = some o) → Q (.ref (s.heap.objs.size + 1)) { s with heap := h' }) :
    wpAny (model prog w) A (call (.type "enumerate") [.ref l]) Q E s := by
  refine callType_new F.called_enumerate (by decide) (F.typeCall_enumerate_1 _) (F.newCall_enumerate_1 _) (fun obj => F.args_object_init_2 obj _) F.entry_enumerate_new (meets_enT l items) ⟨hL, ?_⟩
  let it : Obj := { cls := .type "tuple_iterator", data := .fields #[.ref l, .int 0 0] }
  let en : Obj := { cls := .type "enumerate", data := .fields #[.none, .bool false, .ref s.heap.objs.size, rawInt 0, .none, .none] }
  have hz : (s.heap.push it).objs.size = s.heap.objs.size + 1 := Heap.size_push ..
  have he : ((s.heap.push it).push en).get? (s.heap.objs.size + 1) = some en := by
    rw [← hz]
    exact Heap.get?_push_size _ rfl
  have hi : ((s.heap.push it).push en).get? s.heap.objs.size = some it := Heap.get?_push_of_some _ (Heap.get?_push_size _ rfl)
  show _ ∧ Q (.ref (s.heap.push it).objs.size) _
  rw [hz]
  exact ⟨⟨en, he, rfl⟩, k _ he ⟨it, hi, rfl, rfl⟩ fun b o x => Heap.get?_push_of_some _ (Heap.get?_push_of_some _ x)⟩
end
/-- the tuple's items, each in a new pair -/
def IteT (K : PySem.W.Frag) (a : Addr) : It where
  go := fun i H => ∃ (xs : List V) (x : V), SqT K H a xs ∧ xs[i]? = some x
  yld := fun i H v H' => ∃ T x, v = .ref T ∧ H T = none ∧ H' = upd H T (.tup [.int (i : Nat), x]) ∧ ∀ xs, SqT K H a xs → xs[i]? = some x
  stop := fun i H => ∃ xs : List V, SqT K H a xs ∧ xs.length = i
theorem turn_enT {P : Program} {w : World} {K : PySem.W.Frag} {elts : List Expr} {kk : Nat} {tpos : Pos} (a e it : Addr) (hne : e ≠ it) :
    Turn P w K (.Tuple elts kk tpos) (IteT K a) [e, it] e (fun i h => (∃ old, IsEnum h e it ((i : Nat) : Int) old) ∧ h.IsTupleIter it a i) where
  mem := List.mem_cons_self
  obj := fun i h ⟨⟨old, he⟩, ⟨o, ho, hc, hd⟩⟩ b hb => by
    rcases List.mem_cons.mp hb with z | z
    · subst z
      exact ⟨_, he, fun v q => by cases q⟩
    · exact ⟨o, List.mem_singleton.mp z ▸ ho, fun v q => by rw [hd] at q; cases q⟩
  keep := fun i h h' ⟨⟨old, he⟩, hi⟩ k => ⟨⟨old, k e List.mem_cons_self _ he⟩, hi.at fun o q => k it (List.mem_cons_of_mem _ List.mem_cons_self) o q⟩
  item := by
    intro X hP hw hK hc i pins s σ H E I hf st hg
    subst hP hw hK
    obtain ⟨⟨old, he⟩, hit⟩ := st
    obtain ⟨xs, x, hq, hx⟩ := hg
    obtain ⟨its, rv, p, hz⟩ := I.tuple hq
    obtain ⟨u, hu, ru⟩ := rv.get hx
    have hel : e < s.heap.objs.size := Heap.lt_size he
    have hil : it < s.heap.objs.size := let ⟨_, q, _⟩ := hit; Heap.lt_size q
    have hal : a < s.heap.objs.size := let ⟨_, q, _⟩ := p; Heap.lt_size q
    have hai : a ≠ it := fun z => by
      obtain ⟨o1, q1, c1, _⟩ := p
      obtain ⟨o2, q2, c2, _⟩ := hit
      rw [z, q2] at q1
      cases q1
      rw [c2] at c1
      exact absurd (Value.type.inj c1) (by decide)
    have hae : e ≠ a := fun z => by
      obtain ⟨o1, q1, c1, _⟩ := p
      have he2 : s.heap.get? e = some _ := he
      rw [z, q1] at he2
      have e3 := Option.some.inj he2
      rw [e3] at c1
      exact absurd (Value.type.inj c1) (by decide)
    have D := Draws.tuple (prog := X.prog) (w := X.w) (A := X.A.in1) (by have := I.ok.hd hc; simpa using this) it a hai its.toArray
    have hlt : i < its.toArray.size := by
      rw [List.size_toArray]
      exact (List.getElem?_eq_some_iff.mp hu).1
    refine wpAny_pyNext_enum_itemC D he ⟨hit, p⟩ hlt hne (by simp [hne, hae]) fun y h' tk hP ho hst' hT hsz hk => ?_
    have ey : y = u := by
      have z : its.toArray[i]? = some y := hP
      rw [List.getElem?_toArray, hu] at z
      exact (Option.some.inj z).symm
    subst ey
    refine ⟨_, rfl, wpAny_letOwnedTupleGo_enum (s := { s with heap := h', toks := tk + 1 }) ho fun h2 he2 sb => ?_⟩
    have hT2 : h2.get? s.heap.objs.size = some { cls := .type "tuple", data := .seq #[.int i tk, y] } := (sb.2 _ (Nat.ne_of_gt hel)).trans hT
    have ok : ObjOk X.prog X.w (upd H s.heap.objs.size (.tup [.int (i : Nat), x])) h2 s.heap.objs.size (.tup [.int (i : Nat), x]) :=
      ⟨show 2 ≤ sizeLine by decide, [.int i tk, y], .cons ⟨_, rfl⟩ (.cons ru .nil), ⟨_, hT2, rfl, _, rfl⟩⟩
    have I1 : Inv X pins σ (upd H s.heap.objs.size (.tup [.int (i : Nat), x])) { s with heap := h2, toks := tk + 1 } :=
      I.turnedNew (ch := [e, it]) (fun b ob hb q => by
        have n1 : b ≠ e := fun z => hb (by simp [z])
        have n2 : b ≠ it := fun z => hb (by simp [z])
        exact (sb.2 b n1).trans (hk b ob n1 n2 q)) hf (Nat.le_refl _) ok
    refine ⟨.ref s.heap.objs.size, _, I1, rfl, ⟨_, x, rfl, I.hok.fresh (Nat.le_refl _), rfl, fun ys hy => by rw [I.tuple_inj hy hq]; exact hx⟩, ⟨⟨y, ?_⟩, hst'.1.at fun o q => (sb.2 it (Ne.symm hne)).trans q⟩, fun b hb => ?_⟩
    · have e1 : ((i + 1 : Nat) : Int) = (i : Int) + 1 := Int.natCast_succ i
      rw [e1]
      exact he2
    · have hb' : b < s.heap.objs.size := by
        rcases List.mem_cons.mp hb with z | z
        · exact z ▸ hel
        · exact List.mem_singleton.mp z ▸ hil
      rw [upd_ne (Nat.ne_of_lt hb')]
      exact (hf b hb).1
  done := by
    intro X hP hw hK hc i pins s σ H E I hf st hg
    subst hP hw hK
    obtain ⟨⟨old, he⟩, hit⟩ := st
    obtain ⟨xs, hq, hx⟩ := hg
    obtain ⟨its, rv, p, hz⟩ := I.tuple hq
    obtain ⟨f0, f1, f2, f3, f4, f5⟩ := hf it (by simp)
    have hl := rv.length
    have hai : a ≠ it := fun z => by
      obtain ⟨o1, q1, c1, _⟩ := p
      obtain ⟨o2, q2, c2, _⟩ := hit
      rw [z, q2] at q1
      cases q1
      rw [c2] at c1
      exact absurd (Value.type.inj c1) (by decide)
    have D := Draws.tuple (prog := X.prog) (w := X.w) (A := X.A.in1) (by have := I.ok.hd hc; simpa using this) it a hai its.toArray
    have ei : i = its.toArray.size := by
      rw [List.size_toArray]
      omega
    exact wpAny_pyNext_enum_endD D he (ei ▸ ⟨hit, p⟩) fun h' eb => ⟨rfl, I.turned (t' := s.toks) (fun b o hb q => eb b o hb q) f0 f1 f3 f4 f5⟩
  self := fun A i s Q E ⟨⟨_, he⟩, _⟩ h => wpAny_pyIter_enum he h
def iEnT (K : PySem.W.Frag) (ta : TA) : TI := fun σ H R => ta σ H fun vs H1 => ∃ a xs, vs = [.ref a] ∧ SqT K H1 a xs ∧ R (IteT K a) H1
theorem pi_enT {X : Cx} {e : Expr} {ta : TA} {p pos tpos : Pos} {elts : List Expr} {kk : Nat} (hg : Gl X "enumerate") (hm : X.mg "enumerate" = none) (ha : PA X [e] ta)
    (hs : starEach [e] X.env = [(false, eval e X.env)] := by rfl) : PI X (.Tuple elts kk tpos) (.Call (.Name "enumerate" p) [e] [] pos) (iEnT X.K ta) :=
  ⟨fun pins s σ H R I h => by
    refine Call_ (ld_blt I hg hm boot_enumerate (PyProof.Rows.callWith_type1 (thn (ha.run pos pins s σ H _ I h) fun us s1 ⟨vs, H1, I1, r1, a, xs, ex, hq, q⟩ => ?_) hs rfl))
    subst ex
    cases r1 with
    | cons r rr =>
      cases rr
      cases r
      obtain ⟨its, rv, p', hz⟩ := I1.tuple hq
      refine call_enT p' fun h' he hit hk => wpAny_pyIter_enum he ?_
      have I2 : Inv X pins σ H1 { s1 with heap := h' } := I1.kept (t' := s1.toks) hk
      refine ⟨s1.heap.objs.size + 1, [s1.heap.objs.size + 1, s1.heap.objs.size], _, _, H1, rfl, I2, turn_enT a _ _ (Nat.succ_ne_self _), ⟨⟨.none, he⟩, hit⟩, fun b hb => ?_, q⟩
      have hle : s1.heap.objs.size ≤ b := by
        rcases List.mem_cons.mp hb with z | z
        · exact z ▸ Nat.le_succ _
        · exact Nat.le_of_eq (List.mem_singleton.mp z).symm
      exact I1.fpOk hle (I1.hok.fresh hle)⟩
end K24

set_option Elab.async false
set_option linter.all false
set_option maxRecDepth 100000
/-! K24Y: more rules that the shelf lacks: set(a list of ints). -/
namespace K24
open PySem PySem.Spec PyProof.Rows L2
section
variable {P : Program} {w : World} {A : Around} {E : Value → Shared → Prop} {s : Shared}
abbrev newSet (w : World) : Obj := { cls := .type "set", dict := none, data := .set #[] 0 (.fresh 0 0 (!w.params.followText "set-order")) }
set_option maxHeartbeats 3200000 in
theorem call_setL {l : Addr} {items : Array Value} (ns : List Int) {Q : Value → Shared → Prop} (hh : A.handled = none) (hl : s.heap.IsList l items) (hit : IntsAre items.toList ns) (hb : ns.length + 1 < scanBound)
    (k : ∀ (h' : Heap) (tk c : Nat), SetR w h' s.heap.objs.size (fun j => decide (j ∈ ns)) c → (∀ b o, s.heap.get? b = some o → h'.get? b = some o) →
      Q (.ref s.heap.objs.size) { s with heap := h', toks := tk }) :
    wpAny (model P w) A (call (.type "set") [.ref l]) Q E s := by
  have isz : items.size = ns.length := Array.length_toList (xs := items) ▸ IntsAre.length hit
  obtain ⟨c0, t0, m0⟩ := F.called_set.mro
  have a1 := F.called_set.made
  have a2 := F.called_set.sub
  refine wpAny_call (codeAny_of_tree ?_)
  show wpAny _ _ (callAny (.type "set") _) _ _ _
  refine wpAny_pure ⟨Code.quiet_builtin _ (by decide +kernel), codeAny_builtin F.entry_type_call ?_⟩
  rw [Around.under_plain (weight_type_call_type "set" [.ref l] []) rfl]
  have a3 := F.called_set.notType
  have a4 := F.called_set.canCreate
  have a5 := F.typeCall_set_1 (.ref l)
  repeat (any_goals (first | assumption | wp_step))
  refine codeAny_mono (code_set_led1 (.ref l) (E := E) (Q₁ := fun ob s1 => ob = .ref s.heap.objs.size ∧ s1 = { s with heap := s.heap.push (newSet w) }) ⟨rfl, rfl⟩) fun r s1 hr => ?_
  rcases r with e | fl
  · exact hr
  · rcases fl with ob | _ | _ | _
    case ret =>
      obtain ⟨rfl, rfl⟩ := hr
      have hS : (s.heap.push (newSet w)).get? s.heap.objs.size = some (newSet w) := Heap.get?_push_size _ rfl
      have hT : Shared.TypeIs { s with heap := s.heap.push (newSet w) } (.ref s.heap.objs.size) "set" := ⟨_, hS, rfl⟩
      have b1 := F.called_set.init.lookup
      have b2 := F.called_set.init.bind (.ref s.heap.objs.size)
      repeat (any_goals (first | assumption | wp_step))
      refine codeAny_mono (codeAny_call_builtin (R := wants (fun r s2 => r = .none ∧ ∃ h' tk c, s2 = { s with heap := h', toks := tk } ∧ SetR w h' s.heap.objs.size (fun j => decide (j ∈ ns)) c ∧
          (∀ b o, s.heap.get? b = some o → h'.get? b = some o)) E) F.called_set.init.plain F.entry_set_init (check_set_init_1 hT ?_)) fun r2 s2 hr2 => ?_
      · obtain ⟨ol, hol, hcl, nl, hdl⟩ := hl
        obtain ⟨ocls, odict, odata, oslots⟩ := ol
        simp only at hcl hdl
        subst hcl hdl
        have hol' : (s.heap.push (newSet w)).get? l = some { cls := .type "list", dict := odict, data := .seq items nl, slots := oslots } := Heap.get?_push_of_some _ hol
        have d1 := F.sub_list_set
        have d2 := F.sub_list_frozenset
        have d3 : (Value.type "list" == Value.type "dict") = false := by decide
        have hl1 : (s.heap.push (newSet w)).IsList l items := ⟨_, hol', rfl, nl, rfl⟩
        unfold Builtin.«set.__init__» noKeywords Builtin.Frozenset.updateFrom
        generalize hPI : pyIter = PI
        wp_walk
        subst hPI
        refine wpAny_pyIter_list hl1 ?_
        refine wpAny_bind (wpAny_runValue ?_)
        have hlS : l < s.heap.objs.size := Heap.lt_size hol
        have zs : (s.heap.push (newSet w)).objs.size = s.heap.objs.size + 1 := Heap.size_push ..
        have nI : l ≠ (s.heap.push (newSet w)).objs.size := zs ▸ Nat.ne_of_lt (Nat.lt_succ_of_lt hlS)
        have nS : s.heap.objs.size ∉ [(s.heap.push (newSet w)).objs.size, l] := by
          simp only [List.mem_cons, List.not_mem_nil, or_false, not_or]
          exact ⟨zs ▸ Nat.ne_of_lt (Nat.lt_succ_self _), Nat.ne_of_gt hlS⟩
        have hval : ∀ (i : Nat) (v : Value), items[i]? = some v → ∃ k t, ns[i]? = some k ∧ v = .int k t := fun i v hv => by
          have hi : i < ns.length := isz ▸ (Array.getElem?_eq_some_iff.mp hv).1
          obtain ⟨t, e⟩ := PyProof.Rows.IntsAre.int_at hit i v (by rw [Array.getElem?_toList]; exact hv)
          have e2 : ns[i]? = some (ns.getD i 0) := by
            rw [List.getD_eq_getElem?_getD, List.getElem?_eq_getElem hi] <;> rfl
          exact ⟨_, t, e2, e⟩
        refine set_update_ints ((Walks.list (by simp [hh]) _ l nI items).toS) s.heap.objs.size nS ns isz hb hval (items.size - 0) 0 _ (by omega) (Nat.zero_le _)
          ⟨⟨_, Heap.get?_push_size _ rfl, rfl, rfl⟩, (hl1.push _)⟩ ⟨0, Nat.le_refl 0, setR_new_at (Heap.get?_push_of_some _ hS)⟩ fun s3 c3 hm _ hS3 => ?_
        obtain ⟨h', g2, d', tk', os'⟩ := s3
        obtain rfl : g2 = s.gens := hm.gens
        obtain rfl : d' = s.drawn := hm.drawn
        obtain rfl : os' = s.os := hm.os
        show wpAny _ _ _ _ _ _
        refine wpAny_pure ?_
        show wpAny _ _ (ret Value.none) _ _ _
        refine wpAny_pure ⟨rfl, h', tk', c3, rfl, hS3, fun b o e => ?_⟩
        have hb0 : b < s.heap.objs.size := Heap.lt_size e
        have nb : b ∉ [s.heap.objs.size, (s.heap.push (newSet w)).objs.size] := by
          simp only [List.mem_cons, List.not_mem_nil, or_false, not_or]
          exact ⟨Nat.ne_of_lt hb0, zs ▸ Nat.ne_of_lt (Nat.lt_succ_of_lt hb0)⟩
        exact hm.heap b o nb (Heap.get?_push_of_some _ (Heap.get?_push_of_some _ e))
      · rcases r2 with e | fl2
        · exact hr2
        · rcases fl2 with r | _ | _ | _
          case ret =>
            obtain ⟨rfl, h', tk, c', rfl, hS', hk'⟩ := hr2
            repeat (any_goals (first | assumption | wp_step))
            exact k _ _ _ hS' hk'
          all_goals exact hr2.elim
    all_goals exact hr.elim
end
/-- set(a list of ints) -/
def rSetI (K : PySem.W.Frag) (w : World) : List V → Hp → VK → Prop := fun xs H Q => ∃ (p : Addr) (ns : List Int), xs = [.ref p] ∧ SqL K H p (ns.map V.int) ∧ ns.length + 1 < scanBound ∧
  ∀ (a : Addr) (c : Nat), H a = none → Q (.ref a) (upd H a (SetO w a (fun j => decide (j ∈ ns)) c))
section
variable {X : Cx}
theorem cr_setI (hc : X.calm = true) : CallR X (.type "set") (rSetI X.K X.w) := fun pins s σ H xs us Q I r h => by
  obtain ⟨p, ns, rfl, hq, hb, q⟩ := h
  rw [Vals.ref1 r]
  obtain ⟨its, rv, pl, hz⟩ := I.list hq
  refine call_setL ns (I.ok.hd hc) pl.isList (by simpa using ints_of_vals rv) hb fun h' tk c hS hk => ?_
  have hn : H s.heap.objs.size = none := I.hok.fresh (Nat.le_refl _)
  exact ⟨.ref s.heap.objs.size, _, I.laid (t' := tk) hk (Nat.le_refl _) (setO_new hS), rfl, q _ c hn⟩
/-- the set's count is that of its members; sorted(it) -/
def rSortSet (w : World) : List V → Hp → VK → Prop := fun vs H Q => ∃ (a : Addr) (S : Int → Bool) (n : Nat) (ms : List Int), vs = [V.ref a] ∧ H a = some (SetO w a S n) ∧ ms.Pairwise (· < ·) ∧ (∀ k : Int, k ∈ ms ↔ S k = true) ∧ ms.length < 64 ∧
  ∀ p : Addr, H p = none → Q (.ref p) (upd H p (.lst (ms.map V.int)))
theorem nodup_len {a b : List Int} (ha : a.Nodup) (hb : b.Nodup) (h : ∀ k, k ∈ a ↔ k ∈ b) : a.length = b.length := ((List.perm_ext_iff_of_nodup ha hb).mpr h).length_eq
theorem asc_nodup {ms : List Int} (h : ms.Pairwise (· < ·)) : ms.Nodup := h.imp fun {a b} q e => by omega
theorem cr_sortSet (hc : X.calm = true) : CallR X (.builtin "sorted") (rSortSet X.w) := fun pins s σ H xs us Q I r h => by
  obtain ⟨a, S, n, ms, rfl, ha, h1, h2, h3, q⟩ := h
  have ⟨o, es, ep, t, ho, hx, hd, hg, nd, hm, hb, hf, hn, _⟩ := setO_get I ha
  have en : n = ms.length := by
    rw [← hn, ← Array.length_toList, ← List.length_map (f := keyOf)]
    exact nodup_len nd (asc_nodup h1) fun k => (hm k).symm.trans (h2 k).symm
  refine cr_sortedSet hc pins s σ H _ us Q I r ⟨a, S, n, rfl, ha, en ▸ h3, fun ns p hs hm2 hl hp => ?_⟩
  have e : ns = ms := asc_uniq hs h1 fun z => (hm2 z).trans (h2 z).symm
  rw [e]
  exact q p hp
end
/-- sorted(set(a list of ints)) -/
theorem dv_sortset {W : Wd} {Γ : List Sl} {te : TE} {K : PySem.W.Frag} {w : World} {ns : List Int} (h : DV W te Γ (.list (ns.map PyData.int))) (hb : ns.length ≤ 100) (hz : (uset ns).length < 64) :
    DV W (tCB (rSortSet w) (tCons (tCB (rSetI K w) (tCons te tNil)) tNil)) Γ (.list (Ls (uset ns))) := fun σ G H s Q q => h σ G H s _ fun v G1 H1 d s1 f1 e hv => by
  subst e
  cases hv with
  | lst h1 h2 =>
    have e2 := h2.ints
    subst e2
    refine ⟨_, ns, rfl, SqL.of (s1.sub _ _ h1), by unfold scanBound; omega, fun a c ha => ?_⟩
    have fo : Fw Nm G1 H1 G1 (upd H1 a (SetO w a (fun j => decide (j ∈ ns)) c)) := Fw.own s1.sub ha
    refine ⟨a, _, c, uset ns, rfl, upd_same, uset_asc ns, fun k => by rw [uset_mem, decide_eq_true_eq], hz, fun p hp => ?_⟩
    obtain ⟨f2, dd⟩ := new_l (vs := (uset ns).map V.int) fo.sub hp (DqAll.ofInts (uset ns))
    exact q _ _ _ _ ((s1.step0 fo).step0 f2) ((f1.trans fo.any).trans f2.any) rfl dd
end K24

set_option Elab.async false
set_option linter.all false
set_option maxRecDepth 100000
/-! K24V: more rules that the shelf lacks: a tuple times 1, a star, calls by keyword, repr of data. -/
namespace K24
open PySem PySem.Spec PyProof.Rows L2
open AutoSeq1 (wpAny_loadPart')
theorem meets_mul1 (l : Addr) (items : Array Value) (n : Nat) (dd : Option Addr) (sl : Array (Option Value)) (u : Tok) :
    Meets (Builtin.«tuple.__mul__» ⟨[.ref l, .int 1 u], []⟩) (fun _ R s => s.heap.get? l = some { cls := .type "tuple", dict := dd, data := .seq items n, slots := sl } ∧ R (.ok (.ret (Value.ref l))) s) :=
  Meets.of_wp fun prog w A R s ⟨hl, k⟩ => by
    obtain ⟨hp, g, d, tk, os⟩ := s
    have f1 := AutoSeq1.idx_int
    have c0 : (decide ((1 : Int) < -(2 ^ 63)) || decide ((1 : Int) ≥ 2 ^ 63)) = false := by decide
    have c1 : (items.isEmpty || (1 : Int) == 1) = true := by simp
    wp_walk using wpAny_loadPart' hl
    repeat (first
      | (refine wpAny_ite_false (decide_eq_false (by rw [c0]; exact Bool.false_ne_true)) ?_; wp_walk using wpAny_loadPart' hl)
      | (refine wpAny_ite_true (decide_eq_true c1) ?_; wp_walk using wpAny_loadPart' hl))
    exact ⟨_, rfl, k⟩
def rRepU (K : PySem.W.Frag) : R2 := fun x y H Q => ∃ l k xs, x = .ref l ∧ y = .int k ∧ SqT K H l xs ∧ xs ≠ [] ∧ 1 ≤ k ∧ k ≤ 1000 ∧ xs.length ≤ 1000 ∧
  (k = 1 → Q (.ref l) H) ∧ (k ≠ 1 → ∀ p, H p = none → Q (.ref p) (upd H p (.tup (List.replicate k.toNat xs).flatten)))
section
variable {X : Cx}
theorem op_repU : OpR X (binaryOp .Mult) (rRepU X.K) := fun pins s σ H x y v u Q I rx ry h => by
  obtain ⟨l, k, xs, rfl, rfl, hT, hne, h1, h2, hz, q1, q2⟩ := h
  by_cases e1 : k = 1
  · subst e1
    cases rx
    obtain ⟨t, rfl⟩ := ry
    obtain ⟨its, r, ⟨⟨cls, dd, data, sl⟩, ho, hc, n, hd⟩, hs⟩ := I.tuple hT
    simp only at hc hd
    subst hc hd
    refine wpAny_binaryOp_repeat_ref (T := "tuple") (U := "int") (by decide) ⟨_, ho, rfl⟩ (fun s' => typeIs_int s' 1 t) noFill_tuple_mul PySem.F.fills_int_mul PySem.F.slot_int_rmul repeat_tuple PySem.F.slot_int_index.lookup
      (call_meets PySem.F.slot_int_rmul (typeIs_int s 1 t) PySem.F.entry_int_rmul (PySem.F.args_int_rmul_2 _ _) (int_rmul_tuple 1 t l its.toArray n dd sl)
        ⟨ho, rfl, ⟨_, ho, rfl⟩, call_meets PySem.F.slot_tuple_mul ⟨_, ho, rfl⟩ PySem.F.entry_tuple_mul (PySem.F.args_tuple_mul_2 _ _) (meets_mul1 l its.toArray n dd sl t) ⟨ho, ?_⟩⟩)
    exact ⟨.ref l, H, I, rfl, q1 rfl⟩
  · exact op_repT pins s σ H _ _ v u Q I rx ry ⟨l, k, xs, rfl, rfl, hT, hne, by omega, h2, hz, q2 e1⟩
end
theorem rd_repU {K : PySem.W.Frag} {xs : List PD} {k : Int} (hx : xs ≠ []) (h0 : 1 ≤ k) (h1 : k ≤ 1000) (hz : xs.length ≤ 100) : RD (rRepU K) (.tuple xs) (.int k) (fun d => d = .tuple (List.replicate k.toNat xs).flatten) := fun G H v u s hv hu Q q => by
  cases hu
  cases hv with
  | tup a1 a2 =>
    have l := a2.length
    refine ⟨_, k, _, rfl, rfl, SqT.of (s _ _ a1), fun e => ?_, h0, h1, by rw [l]; omega, fun e => ?_, fun e p hp => ?_⟩
    · subst e
      exact hx (List.length_eq_zero_iff.mp l.symm)
    · subst e
      refine q _ G H _ (Fw.refl s) rfl ?_
      have e2 : (List.replicate (1 : Int).toNat xs).flatten = xs := by
        show (List.replicate 1 xs).flatten = xs
        simp
      rw [e2]
      exact .tup a1 a2
    · obtain ⟨f, dd⟩ := new_t s hp (a2.rep k.toNat)
      exact q _ _ _ _ f rfl dd
/-! (*row, e) -/
abbrev tStar1 (K : PySem.W.Frag) (ta tb : TE) : TE := tTup (StX.tStar K ta (tCons tb tNil))
theorem da_star {W : Wd} {Γ : List Sl} {K : PySem.W.Frag} {te : TE} {t : TA} {xs ys : List PD} (h : DV W te Γ (.tuple xs)) (h2 : DAv W t Γ ys) : DAv W (StX.tStar K te t) Γ (xs ++ ys) := fun σ G H s Q q => h σ G H s _ fun v G1 H1 d s1 f1 e hv => by
  cases e
  cases hv with
  | tup a1 a2 =>
    refine ⟨_, _, rfl, .inl (SqT.of (s1.sub _ _ a1)), h2 σ G1 H1 s1 _ fun us G2 H2 zs s2 f2 e2 hu => ?_⟩
    cases e2
    exact q _ G2 H2 _ s2 (f1.trans f2) rfl ((DqAll.mono (f2.grow s1.sub) _ _ a2).append hu)
theorem dv_star1 {W : Wd} {Γ : List Sl} {K : PySem.W.Frag} {ta tb : TE} {xs : List PD} {y : PD} (h : DV W ta Γ (.tuple xs)) (h2 : DV W tb Γ y) (hz : xs.length < 1000) : DV W (tStar1 K ta tb) Γ (.tuple (xs ++ [y])) :=
  dv_tup (da_star h (dav_cons h2 da_nil)) (by rw [List.length_append, List.length_singleton]; omega)
/-! wide // -/
abbrev qDivW : R2 := rI CDivW fun i j => .int (i / j)
theorem rd_divW {i j : Int} (h : CDivW i j) : RD qDivW (.int i) (.int j) (fun d => d = .int (i / j)) := rd_I h fun _ => .int _
/-! xs.extend(a tuple) of an own list; enumerate(a tuple) -/
theorem ds_extT {W : Wd} {Γ : List Sl} {K : PySem.W.Frag} {te : TE} {N : List Sl → Prop} {R : PD → Prop} {B C : List Sl → Prop} {i : Nat} {xs ys : List PD} (hi : Γ[i]? = some (Sl.l xs)) (h : DV W te Γ (.tuple ys)) (hz : xs.length + ys.length ≤ 100000) (k : N (Γ.set i (Sl.l (xs ++ ys)))) :
    DS W (tDrop (tBM K "list" (rExtT K) (tVar i) (tCons te tNil))) Γ N R B C := fun σ G H D s n r b c => by
  obtain ⟨p, vs, h1, h2, h3, h4, h5⟩ := s.ll i xs hi
  refine ⟨.ref p, h1, .inl ⟨rfl, _, SqL.of h2⟩, ?_⟩
  refine h σ G H s _ fun v G' H' d s' f pd hv => ?_
  cases pd
  cases hv with
  | tup a1 a2 =>
    have h2' := f.keep p _ h2 (W.notM h3)
    have gr := f.grow s.sub
    have h5' := DqAll.mono gr xs vs h5
    refine ⟨p, _, vs, _, rfl, rfl, h2', SqT.of (s'.sub _ _ a1), by rw [h5.length, a2.length]; exact sz hz, ?_⟩
    exact n σ G' _ _ (s'.grow hi h1 h2' (h5'.append a2)) gr k
def enumD (xs : List PD) : List PD := xs.zipIdx.map fun p : PD × Nat => .tuple [.int (p.2 : Int), p.1]
theorem enumD_len (xs : List PD) : (enumD xs).length = xs.length := by simp [enumD]
theorem enumD_get {xs : List PD} {i : Nat} {x : PD} (h : (enumD xs)[i]? = some x) : ∃ y, xs[i]? = some y ∧ x = .tuple [.int (i : Int), y] := by
  unfold enumD at h
  rw [List.getElem?_map, List.getElem?_zipIdx] at h
  cases e : xs[i]? with
  | none => rw [e] at h; cases h
  | some y =>
    rw [e] at h
    refine ⟨y, rfl, ?_⟩
    have := Option.some.inj h
    rw [← this]
    simp
theorem div_en {W : Wd} {Γ : List Sl} {K : PySem.W.Frag} {te : TE} {xs : List PD} (h : DV W te Γ (.tuple xs)) : DI W (iEnT K (tCons te tNil)) Γ (fun ys => ys = enumD xs) := fun σ G H s R r => dav_cons h da_nil σ G H s _ fun vs G' H' ds s' f pd hv => by
  cases pd
  cases hv with
  | cons a rr =>
    cases rr
    cases a with
    | tup h1 h2 =>
      refine ⟨_, _, rfl, SqT.of (s'.sub _ _ h1), r _ G' H' (enumD xs) s' f rfl fun i G2 H2 g s2 => ?_⟩
      have hq : SqT K H2 _ _ := SqT.of (s2 _ _ (g _ _ h1))
      refine ⟨fun x e => ?_, fun e => ⟨_, hq, by rw [h2.length, ← enumD_len xs]; exact e⟩⟩
      obtain ⟨y, e1, e2⟩ := enumD_get e
      obtain ⟨v, e3, d⟩ := h2.get e1
      refine ⟨⟨_, v, hq, e3⟩, fun z H3 hz => ?_⟩
      obtain ⟨T, w, rfl, hT, rfl, k⟩ := hz
      have e4 := k _ hq
      rw [e3] at e4
      cases e4
      subst e2
      obtain ⟨f3, dd⟩ := new_t (vs := [.int (i : Nat), v]) s2 hT (.cons (.int _) (.cons (Dq.mono g _ _ d) .nil))
      exact ⟨_, f3, dd⟩
end K24

set_option Elab.async false
set_option linter.all false
set_option maxRecDepth 100000
/-! K24U: calls by keyword alone; repr of data; a def whose body may ask for a free guard. -/
namespace K24
open PySem PySem.Spec PyProof.Rows L2
/-- f(k = v, ..) -/
def tCallK0 (sp : Sp) (gV : List V → List V) (E : XK) (tk : TA) : TE := fun σ H Q => tk σ H fun zs H2 => sp (gV zs) H2 Q E
structure CalK (P : Program) (w : World) (K : PySem.W.Frag) (mg : Str → Option Value) (base : Heap) (CX : CXT) (k : Nat) (x : Str) (ps ks : List Str) (sp : Sp) (g : List Value → List Value) : Prop where
  ex : ∃ (f : Addr) (fd : FuncData), FnOk P w K mg base CX k f fd ps sp ∧ mg x = some (.ref f) ∧ PySem.W.keepIn K (.ref f) = true ∧
    ∀ (s : Shared) (ws : List Value), K.In s.heap → ws.length = ps.length → BindsTo s fd ⟨[], ks.zip ws⟩ (ps.zip (g ws))
section
variable {X : Cx} {CX : CXT} {k : Nat} {x : Str} {ps ks : List Str} {sp : Sp} {E : XK} {p pos : Pos} {kws : List Keyword} {tk : TA} {g : List Value → List Value} {gV : List V → List V}
theorem pe_ck (c : CalK X.prog X.w X.K X.mg X.base CX k x ps ks sp g) (hr : Room k X.A) (hg : Gl X x) (hx : Passes CX X E) (hkw : PK X kws tk)
    (hrel : ∀ {zs : List V} {ws : List Value}, Vals zs ws → Vals (gV zs) (g ws)) (hlen : ∀ ws, (g ws).length = ps.length → ws.length = ps.length)
    (hall : (backToKw pos (keywordEach kws X.env)).all (·.1.isSome) = true := by rfl) (hks : (backToKw pos (keywordEach kws X.env)).filterMap (·.1) = ks := by rfl)
    (hdb : (x == ("__debug__" : Str)) = false := by decide) (hpl : ((backTo pos (starEach [] X.env)).any (·.1) || (backToKw pos (keywordEach kws X.env)).any (·.1.isNone)) = false := by rfl) :
    PE X (.Call (.Name x p) [] kws pos) (tCallK0 sp gV E tk) := ⟨fun pins s σ H Q I h => by
  obtain ⟨f, fd, F, hm, hk, hb⟩ := c.ex
  refine wpAny_Call_Name_kw (ld_glob I hg hm ?_ hdb)
  refine PySem.W.callWith_KW0 (h₀ := X.base) I.ok.mod.kin hk hall (thn (hkw.run pos pins s σ H _ I h) fun ws s2 ⟨zs, H2, I2, rz, q2⟩ => ⟨I2.kIn, ?_⟩) hpl
  rw [hks]
  have r2 := hrel rz
  have hl : (g ws).length = ps.length := by
    rw [← r2.length]
    exact F.len _ _ _ _ q2
  refine wpAny_call (codeAny_mono (F.run X.A X.stack s2 H2 ⟨[] ++ [], ks.zip ws⟩ (g ws) (gV zs) Q E hr I2.env0 (hb s2 ws I2.kIn (hlen ws hl)) r2 q2) fun r s' hq => ?_)
  rcases r with e | fl
  · exact hx pins σ H2 s2 e s' I2 hq
  · cases fl
    case ret => exact I2.after hq
    all_goals exact False.elim hq⟩
end
/-! repr -/
def rRepr (K : PySem.W.Frag) : List V → Hp → VK → Prop := fun xs H Q => ∃ (v : V) (d : PD), xs = [v] ∧ Dp K H v d ∧ d.showable = true ∧ d.hasDict = false ∧ d.depth ≤ 20 ∧ d.shown.length ≤ sizeLine ∧ ((∃ a, v = .ref a) ∨ ∃ b, v = .bl b) ∧ Q (.str d.shown) H
theorem cr_repr {X : Cx} (hu : X.A.units + 64 < cLine) (hg : X.A.guards = some []) : CallR X (.builtin "repr") (rRepr X.K) := fun pins s σ H xs us Q I r h => by
  obtain ⟨v, d, rfl, hd, h1, h2, h3, h4, hv, q⟩ := h
  rcases hv with ⟨a, rfl⟩ | ⟨b, rfl⟩
  · rw [Vals.ref1 r]
    obtain ⟨as, rd⟩ := Dp.reads I d (.ref a) (.ref a) hd rfl
    refine repr_of_reads' rd h1 (fun z => by rw [h2] at z; cases z) hg (by omega) (fun _ _ e => e) (fun h' u tk hk => ?_) h4
    exact ⟨.str d.shown, H, I.kept hk, ⟨u, rfl⟩, q⟩
  · cases hd
    cases r with
    | cons r1 rr =>
      cases rr
      cases r1
      refine PySem.P.repr_of_bool ⟨.str (if b = true then "True" else "False"), H, I.tok _, ⟨_, rfl⟩, ?_⟩
      cases b <;> exact q
theorem rc_repr {K : PySem.W.Frag} {d : PD} (h1 : d.showable = true) (h2 : d.hasDict = false) (h3 : d.depth ≤ 20) (h4 : d.shown.length ≤ sizeLine) (h5 : (∃ l, d = .list l) ∨ (∃ l, d = .tuple l) ∨ ∃ b, d = .bool b) : RC (rRepr K) [d] (fun z => z = .str d.shown) := fun G H vs s hv Q q => by
  cases hv with
  | cons a r =>
    cases r
    refine ⟨_, d, rfl, Dq.dp d _ (Dq.mono s d _ a), h1, h2, h3, h4, ?_, q _ G H _ (Fw.refl s) rfl (.str _)⟩
    rcases h5 with ⟨l, rfl⟩ | ⟨l, rfl⟩ | ⟨b, rfl⟩
    · cases a
      exact .inl ⟨_, rfl⟩
    · cases a
      exact .inl ⟨_, rfl⟩
    · cases a
      exact .inr ⟨_, rfl⟩
/-! a def called where no guard is held -/
structure FnG (P : Program) (w : World) (K : PySem.W.Frag) (mg : Str → Option Value) (base : Heap) (k : Nat) (f : Addr) (fd : FuncData) (ps : List Str) (sp : Sp) : Prop where
  len : ∀ vs H Q E, sp vs H Q E → vs.length = ps.length
  run : ∀ (A : Around) (outer : List Env) (s : Shared) (H : Hp) (args : Args) (us : List Value) (vs : List V) (Q : VK) (E : XK), A.guards = some [] → Room k A → Env0 P w K mg base A outer s H → BindsTo s fd args (ps.zip us) → Vals vs us → sp vs H Q E →
    codeAny (model P w) A (.call (.ref f) args) (CR CX0 outer P w H s Q E) s
theorem fnG_of {P : Program} {w : World} {K : PySem.W.Frag} {mg : Str → Option Value} {base : Heap} {x : Str} {st : Stmt} {f : Addr} {fd : FuncData} {N ps : List Str} {k : Nat} {sp : Sp} (D : FunD K x x (defArgs st) (defBody st) (defScope st) [] [] f fd) (S : FnScope N ps (defScope st))
    (len : ∀ vs H Q E, sp vs H Q E → vs.length = ps.length)
    (hbody : ∀ (cdv : Value) (A : Around) (outer : List Env) (s : Shared) (H : Hp) (vs : List V) (Q : VK) (E : XK), A.guards = some [] → Room k (A.deeper (envOfC x (defScope st) s.heap.objs.size f cdv)) → sp vs H Q E →
      ∃ t, PSs (cxOf CX0 P w K mg base N x (defScope st) f cdv A outer s H E) (defBody st) t ∧ t { nx := fun _ H' => Q .non H', rt := Q } (L2.start N vs) H) : FnG P w K mg base (k + 1) f fd ps sp := by
  obtain ⟨oc, od, dV, kV, doc, pm, an, cdv, ct, osl, rfl, lk, hcd, _, _⟩ := D.ex
  refine ⟨len, fun A outer s H args us vs Q E hG hr e0 hb r hsp => ?_⟩
  have inn : K.In s.heap := e0.mod.kin.keeps fun b o e => (e0.bs b o e).1
  have nolim : s.heap.NoLimit := e0.mod.nolimit.keeps fun b o e => (e0.bs b o e).1
  have kinds : ∀ y ∈ ps.zip us, (defScope st).names.lookup y.1 = some .local ∨ ((defScope st).names.lookup y.1 = some .cell ∧ ((cellsFrom (s.heap.objs.size + 1) (defScope st).names []).lookup y.1).isSome = true) := fun ⟨n, v⟩ hy =>
    (S.par n (List.of_mem_zip hy).1).imp id fun q => ⟨q, PySem.W.cellsFrom_some _ _ _ (.inl q)⟩
  refine codeAny_call_function hr.depth (inn _ _ lk) rfl S.co S.gen rfl (PySem.W.codeRec_of inn hcd) (hb _ _ _ _ (wpAny_newFunctionEnv_cells S.kind kinds fun env he s1 x1 => ?_))
  subst he
  refine ⟨nolim.keeps x1.toInCall.keep, codeAny_func ?_⟩
  obtain ⟨t, ht, hq⟩ := hbody cdv A outer s H vs Q E hG (hr.deeper _) hsp
  have I := inv_start (CX := CX0) (qual := x) (f := f) (cd := cdv) (E := E) S hr.hd e0 (len _ _ _ _ hsp) r x1
  refine wpAny_mono (ht.run [] s1 (L2.start N vs) H _ I hq) (fun fl s' hs => ?_) fun e s' hs => hs
  cases fl
  case ret =>
    obtain ⟨v, σ', H', J, rv, q⟩ := hs
    exact ⟨v, H', J.os, J.bare, J.base, J.hok, rv, q⟩
  case next =>
    obtain ⟨σ', H', J, q⟩ := hs
    exact ⟨.non, H', J.os, J.bare, J.base, J.hok, rfl, q⟩
  all_goals exact False.elim (let ⟨_, _, _, q⟩ := hs; q)
structure CalG (P : Program) (w : World) (K : PySem.W.Frag) (mg : Str → Option Value) (base : Heap) (k : Nat) (x : Str) (ps : List Str) (sp : Sp) : Prop where
  ex : ∃ (f : Addr) (fd : FuncData), FnG P w K mg base k f fd ps sp ∧ mg x = some (.ref f) ∧ PySem.W.keepIn K (.ref f) = true ∧ Binds K fd ps []
theorem pe_cg {X : Cx} {k : Nat} {x : Str} {ps : List Str} {sp : Sp} {p pos : Pos} {e : Expr} {es : List Expr} {t : TA} (c : CalG X.prog X.w X.K X.mg X.base k x ps sp) (hG : X.A.guards = some []) (hr : Room k X.A) (hg : Gl X x) (ha : PA X (e :: es) t)
    (hdb : (x == ("__debug__" : Str)) = false := by decide) (he : starEach (e :: es) X.env = (false, eval e X.env) :: starEach es X.env := by rfl) (hpl : (backTo pos (starEach es X.env)).any (·.1) = false := by rfl) :
    PE X (.Call (.Name x p) (e :: es) [] pos) (tCall sp [] E0 t) := ⟨fun pins s σ H Q I h => by
  obtain ⟨f, fd, F, hm, hk, hb⟩ := c.ex
  refine wpAny_Call_Name_kw (ld_glob I hg hm ?_ hdb)
  refine PySem.W.callWith_K (h₀ := X.base) I.ok.mod.kin hk (thn (ha.run pos pins s σ H _ I h) fun us s1 ⟨vs, H1, I1, r, q⟩ => ⟨I1.kIn, ?_⟩) he hpl
  have q : sp vs H1 Q E0 := List.append_nil vs ▸ q
  have hl : us.length = ps.length := by
    rw [← r.length]
    exact F.len _ _ _ _ q
  have hb2 := hb s1 us I1.kIn (by rw [List.append_nil]; exact hl)
  rw [List.append_nil] at hb2
  refine wpAny_call (codeAny_mono (F.run X.A X.stack s1 H1 ⟨us, []⟩ us vs Q E0 hG hr I1.env0 hb2 r q) fun r s' hq => ?_)
  rcases r with e | fl
  · exact L2.pass0 pins σ H1 s1 e s' I1 hq
  · cases fl
    case ret => exact I1.after hq
    all_goals exact False.elim hq⟩
end K24

set_option Elab.async false
set_option linter.all false
set_option maxRecDepth 100000
/-! K24Z: sum(a tuple of ints); None in a list. -/
namespace K24
open PySem PySem.Spec PyProof.Rows L2
theorem call_sumT {P : Program} {w : World} {A : Around} {E : Value → Shared → Prop} {s : Shared} {l : Addr} {items : Array Value} {ns : List Int} {Q : Value → Shared → Prop} (hh : A.handled = none) (hl : s.heap.IsTuple l items) (hi : IntsAre items.toList ns)
    (k : ∀ (h' : Heap) (tk : Nat) (t' : Tok), (∀ b o, s.heap.get? b = some o → h'.get? b = some o) → Q (.int ns.sum t') { s with heap := h', toks := tk }) : wpAny (model P w) A (call (.builtin "sum") [.ref l]) Q E s := by
  have isz : items.size = ns.length := Array.length_toList (xs := items) ▸ IntsAre.length hi
  refine call_sum_walkAnyS (wpAny_pyIter_tuple hl ?_)
  have hlt : l < s.heap.objs.size := let ⟨_, q, _⟩ := hl; Heap.lt_size q
  refine ⟨s.heap.objs.size, _, _, _, _, _, _, fun i => ns.getD i 0, rfl, (Walks.tuple (prog := P) (w := w) (A := A.in1) (by simp [hh]) _ l (Nat.ne_of_lt hlt) items).toS, ⟨⟨_, Heap.get?_push_size _ rfl, rfl, rfl⟩, hl.push _⟩, fun b hb => ?_, fun i v hv => ?_, fun s' t' hm => ?_⟩
  · show b < (s.heap.push _).objs.size
    rw [Heap.size_push]
    rcases List.mem_cons.mp hb with z | z
    · exact z ▸ Nat.lt_succ_self _
    · exact List.mem_singleton.mp z ▸ Nat.lt_succ_of_lt hlt
  · obtain ⟨t, e⟩ := PyProof.Rows.IntsAre.int_at hi i v (by rw [Array.getElem?_toList]; exact hv)
    exact ⟨t, e⟩
  · obtain ⟨h', g2, d', tk', os'⟩ := s'
    obtain rfl : g2 = s.gens := hm.gens
    obtain rfl : d' = s.drawn := hm.drawn
    obtain rfl : os' = s.os := hm.os
    rw [preSum_getD, List.take_of_length_le (Nat.le_of_eq isz.symm)]
    exact k h' tk' t' fun b o e => hm.heap b o (fun z => Nat.ne_of_lt (Heap.lt_size e) (List.mem_singleton.mp z)) (Heap.get?_push_of_some _ e)
def rSumT (K : PySem.W.Frag) : List V → Hp → VK → Prop := fun vs H Q => ∃ (a : Addr) (ns : List Int), vs = [V.ref a] ∧ SqT K H a (ns.map V.int) ∧ Q (.int ns.sum) H
theorem cr_sumT {X : Cx} (hc : X.calm = true) : CallR X (.builtin "sum") (rSumT X.K) := fun pins s σ H vs us Q I r h => by
  obtain ⟨a, ns, rfl, hs, q⟩ := h
  obtain ⟨its, rv, hl, _⟩ := I.tuple hs
  rw [Vals.ref1 r]
  exact call_sumT (items := its.toArray) (ns := ns) (I.ok.hd hc) hl (by simpa using ints_of_vals rv) fun h' tk t' hk => ⟨.int _, H, I.kept hk, ⟨_, rfl⟩, q⟩
theorem rc_sumT {K : PySem.W.Frag} {ns : List Int} : RC (rSumT K) [.tuple (ns.map PyData.int)] (fun d => d = .int ns.sum) := fun G H vs s hv Q q => by
  cases hv with
  | cons a r =>
    cases r
    cases a with
    | tup h1 h2 =>
      have e := h2.ints
      subst e
      exact ⟨_, ns, rfl, SqT.of (s _ _ h1), q _ G H _ (Fw.refl s) rfl (.int _)⟩
/-! None (not) in a list of ints and Nones -/
def optD : Option Int → PD
  | none => .none
  | some i => .int i
theorem inN {G : Hp} : ∀ {vs : List V} {os : List (Option Int)}, DqAll G vs (os.map optD) → vs.all flatV = true ∧ inV .non vs = os.contains none
  | _, [], h => by cases h; exact ⟨rfl, rfl⟩
  | _, o :: os, h => by
    cases h with
    | cons h1 h2 =>
      obtain ⟨a, b⟩ := inN h2
      cases o with
      | none =>
        cases h1
        exact ⟨by rw [List.all_cons, a]; rfl, by simp only [inV, List.any_cons, eqV]; simp⟩
      | some i =>
        cases h1
        refine ⟨by rw [List.all_cons, a]; rfl, ?_⟩
        simp only [inV, List.any_cons, eqV] at b ⊢
        rw [b]
        simp
theorem rd_notInN {K : PySem.W.Frag} {os : List (Option Int)} {ds : List PD} (e : ds = os.map optD) : RD (rIn K true) .none (.list ds) (fun d => d = .bool (!os.contains none)) := rd_ret fun G H v u s hv hu => by
  subst e
  cases hv
  cases hu with
  | lst h1 h2 =>
    obtain ⟨a, b⟩ := inN h2
    exact ⟨_, .bl _, fun Q q => ⟨_, _, rfl, .inl (SqL.of (s _ _ h1)), rfl, a, by
      show Q (.bl (if true = true then _ else _)) H
      rw [if_pos rfl, b]
      exact q⟩⟩
theorem dv_tupRg {W : Wd} {Γ : List Sl} {te : TE} {n : Int} (h : DV W te Γ (.int n)) (h0 : 0 ≤ n) (h1 : n ≤ 100000) : DV W (tTupRg (tRg1 te)) Γ (.tuple (rng 0 n.toNat)) := fun σ G H s Q q => h σ G H s _ fun v G1 H1 d s1 f1 e hv => by
  cases e
  cases hv
  refine ⟨n, rfl, RgOk.of_le (by omega) (by omega) (by omega) (by omega), fun p hp => ?_⟩
  have e : DqAll G1 (rgV 0 n) (rng 0 n.toNat) := by
    unfold rgV rng
    have hn : (n - 0).toNat = n.toNat := by rw [Int.sub_zero]
    rw [hn]
    generalize n.toNat = m
    have key : ∀ (l : List Nat), DqAll G1 (l.map fun k : Nat => V.int (0 + (k : Int))) (l.map fun k : Nat => PyData.int (0 + (k : Int))) := fun l => by
      induction l with
      | nil => exact .nil
      | cons a r ih => exact .cons (.int _) ih
    exact key _
  obtain ⟨f, dd⟩ := new_t s1.sub hp e
  exact q _ _ _ _ (s1.step0 f) (f1.trans f.any) rfl dd
end K24

set_option Elab.async false
set_option linter.all false
set_option maxRecDepth 100000
/-! K24T: the defs of the top, each by its reading (printed by gen2.py). -/
namespace K24
open PySem PySem.Spec PyProof.Rows L2
abbrev qAdd : R2 := rI0 fun i j => .int (i + j)
abbrev qSub : R2 := rI0 fun i j => .int (i - j)
abbrev qMul : R2 := rI CMul fun i j => .int (i * j)
abbrev qMod : R2 := rI (fun _ j => 0 < j) fun i j => .int (i % j)
abbrev qPow : R2 := rI CPow fun i j => .int (i ^ j.toNat)
abbrev qDiv : R2 := rI CDiv fun i j => .int (i / j)
abbrev qLt : R2 := rI0 fun i j => .bl (decide (i < j))
abbrev qLe : R2 := rI0 fun i j => .bl (decide (i ≤ j))
abbrev qGt : R2 := rI0 fun i j => .bl (decide (j < i))
abbrev qGe : R2 := rI0 fun i j => .bl (decide (j ≤ i))

open PySem.Challenge in
def top (i : Nat) : Stmt := pw_newsbehind_k24_whole_lots_round_by_round.main.body.getD i (.Pass ⟨0, 0, 0, 0⟩)
abbrev s_is_integer : Stmt := top 4
abbrev s_is_number : Stmt := top 5
abbrev s_is_index : Stmt := top 6
abbrev s_is_worth : Stmt := top 10
abbrev s_is_head : Stmt := top 11
abbrev s_parts_of : Stmt := top 12
abbrev s_branches : Stmt := top 13
abbrev s_made : Stmt := top 14
abbrev s_told_by : Stmt := top 15
abbrev s_told : Stmt := top 16
abbrev s_wanted : Stmt := top 18
abbrev s_first_lots : Stmt := top 21
abbrev s_check_few : Stmt := top 22
abbrev s_rows_from : Stmt := top 23
abbrev s_lots_next : Stmt := top 24
abbrev s_lot_rounds : Stmt := top 25
abbrev s_last_lots : Stmt := top 26
abbrev s_known_rounds : Stmt := top 27
abbrev s_is_sure : Stmt := top 28
abbrev s_law_draw : Stmt := top 30
abbrev s_law_any : Stmt := top 31
abbrev s_law_of : Stmt := top 32
abbrev s_law_rule : Stmt := top 33
abbrev s_law_net : Stmt := top 34
abbrev s_law_parts : Stmt := top 35
abbrev s_law_branches : Stmt := top 36
abbrev s_law_made : Stmt := top 37
abbrev s_law_told : Stmt := top 38
abbrev s_law_wants : Stmt := top 39
abbrev s_law_entries : Stmt := top 40
abbrev s_law_range : Stmt := top 41
abbrev s_law_turn : Stmt := top 42
abbrev s_law_words : Stmt := top 43
abbrev s_law_ways : Stmt := top 44
abbrev s_law_many_rows : Stmt := top 45
abbrev s_law_few : Stmt := top 46
abbrev s_law_small_net : Stmt := top 47
abbrev s_law_brought : Stmt := top 48
abbrev s_law_lots_next : Stmt := top 49
abbrev s_law_lot_rounds : Stmt := top 50
abbrev s_law_doubled : Stmt := top 51
abbrev s_law_one_way : Stmt := top 52
abbrev s_law_refused : Stmt := top 53
abbrev s_law_right : Stmt := top 54
abbrev s_law : Stmt := top 55
abbrev n_is_integer : List Str := ["value"]
abbrev p_is_integer : List Str := ["value"]
theorem sc_is_integer : FnScope n_is_integer p_is_integer (defScope s_is_integer) := ⟨rfl, rfl, rfl, by decide +kernel, rfl, by decide +kernel, by decide +kernel⟩
def t_is_integer (K : PySem.W.Frag) (w : World) : TS :=
    (tRet (tAndV (tCB (rIsi K) (tCons (tVar 0) (tCons (tC (.ty "int")) tNil))) (tNotV (tCB (rIsi K) (tCons (tVar 0) (tCons (tC (.ty "bool")) tNil))))))
abbrev n_is_number : List Str := ["value"]
abbrev p_is_number : List Str := ["value"]
theorem sc_is_number : FnScope n_is_number p_is_number (defScope s_is_number) := ⟨rfl, rfl, rfl, by decide +kernel, rfl, by decide +kernel, by decide +kernel⟩
def t_is_number (K : PySem.W.Frag) (w : World) (q_is_integer : Sp) : TS :=
    (tRet (tAndV (tCall q_is_integer [] E0 (tCons (tVar 0) tNil)) (tOp qGe (tVar 0) (tC (.int 0)))))
abbrev n_is_index : List Str := ["value", "many"]
abbrev p_is_index : List Str := ["value", "many"]
theorem sc_is_index : FnScope n_is_index p_is_index (defScope s_is_index) := ⟨rfl, rfl, rfl, by decide +kernel, rfl, by decide +kernel, by decide +kernel⟩
def t_is_index (K : PySem.W.Frag) (w : World) (q_is_number : Sp) : TS :=
    (tRet (tAndV (tCall q_is_number [] E0 (tCons (tVar 0) tNil)) (tOp qLt (tVar 0) (tVar 1))))
abbrev n_is_worth : List Str := ["value"]
abbrev p_is_worth : List Str := ["value"]
theorem sc_is_worth : FnScope n_is_worth p_is_worth (defScope s_is_worth) := ⟨rfl, rfl, rfl, by decide +kernel, rfl, by decide +kernel, by decide +kernel⟩
def t_is_worth (K : PySem.W.Frag) (w : World) (q_is_index : Sp) : TS :=
    (tRet (tCall q_is_index [] E0 (tCons (tVar 0) (tCons (tC (.int 1001)) tNil))))
abbrev n_is_head : List Str := ["value", "one"]
abbrev p_is_head : List Str := ["value"]
theorem sc_is_head : FnScope n_is_head p_is_head (defScope s_is_head) := ⟨rfl, rfl, rfl, by decide +kernel, rfl, by decide +kernel, by decide +kernel⟩
def t_is_head (K : PySem.W.Frag) (w : World) (q_is_worth : Sp) : TS :=
    (tSeq (tIfS (tTest (tOp rEq (tOp (rIxT K) (tVar 0) (tC (.int 0))) (tC (.str "times")))) (tRet (tAndV (tOp rEq (tCB (rLenQ K) (tCons (tVar 0) tNil)) (tC (.int 3))) (tCall q_is_worth [] E0 (tCons (tOp (rIxT K) (tVar 0) (tC (.int 1))) tNil)))) tNext)
    (tSeq (tIfS (tTest (tOp rEq (tOp (rIxT K) (tVar 0) (tC (.int 0))) (tC (.str "part")))) (tRet (tAndV (tOp rEq (tCB (rLenQ K) (tCons (tVar 0) tNil)) (tC (.int 3))) (tAndV (tCall q_is_worth [] E0 (tCons (tOp (rIxT K) (tVar 0) (tC (.int 1))) tNil)) (tOp qGt (tOp (rIxT K) (tVar 0) (tC (.int 1))) (tC (.int 0)))))) tNext)
    (tSeq (tIfS (tTest (tOp rEq (tOp (rIxT K) (tVar 0) (tC (.int 0))) (tC (.str "clip")))) (tRet (tAndV (tOp rEq (tCB (rLenQ K) (tCons (tVar 0) tNil)) (tC (.int 4))) (tAndV (tCall q_is_worth [] E0 (tCons (tOp (rIxT K) (tVar 0) (tC (.int 1))) tNil)) (tAndV (tCall q_is_worth [] E0 (tCons (tOp (rIxT K) (tVar 0) (tC (.int 2))) tNil)) (tOp qLe (tOp (rIxT K) (tVar 0) (tC (.int 1))) (tOp (rIxT K) (tVar 0) (tC (.int 2)))))))) tNext)
    (tSeq (tIfS (tTest (tOp rEq (tOp (rIxT K) (tVar 0) (tC (.int 0))) (tC (.str "from")))) (tRet (tAndV (tOp rEq (tCB (rLenQ K) (tCons (tVar 0) tNil)) (tC (.int 3))) (tCall q_is_worth [] E0 (tCons (tOp (rIxT K) (tVar 0) (tC (.int 1))) tNil)))) tNext)
    (tSeq (tIfS (tTest (tOp rEq (tOp (rIxT K) (tVar 0) (tC (.int 0))) (tC (.str "bar")))) (tRet (tAndV (tOp rEq (tCB (rLenQ K) (tCons (tVar 0) tNil)) (tC (.int 5))) (tAndV (tCall q_is_worth [] E0 (tCons (tOp (rIxT K) (tVar 0) (tC (.int 1))) tNil)) (tAndV (tCall q_is_worth [] E0 (tCons (tOp (rIxT K) (tVar 0) (tC (.int 2))) tNil)) (tCall q_is_worth [] E0 (tCons (tOp (rIxT K) (tVar 0) (tC (.int 3))) tNil)))))) tNext)
    (tSeq (tIfS (tOr (tTest (tOp rNe (tOp (rIxT K) (tVar 0) (tC (.int 0))) (tC (.str "row")))) (tOr (tTest (tOp rNe (tCB (rLenQ K) (tCons (tVar 0) tNil)) (tC (.int 3)))) (tNot (tB (tCB (rIsi K) (tCons (tOp (rIxT K) (tVar 0) (tC (.int 1))) (tCons (tC (.ty "tuple")) tNil))))))) (tRet (tC (.bl false))) tNext)
    (tRet (tAndV (tChain qLe qLe (tC (.int 1)) (tCB (rLenQ K) (tCons (tOp (rIxT K) (tVar 0) (tC (.int 1))) tNil)) (tC (.int 64))) (tCB (rAll K) (tCons (tLc (iTup K (tOp (rIxT K) (tVar 0) (tC (.int 1)))) (gName 1) tYes (tCall q_is_worth [] E0 (tCons (tVar 1) tNil)) [1]) tNil))))))))))
abbrev n_parts_of : List Str := ["value"]
abbrev p_parts_of : List Str := ["value"]
theorem sc_parts_of : FnScope n_parts_of p_parts_of (defScope s_parts_of) := ⟨rfl, rfl, rfl, by decide +kernel, rfl, by decide +kernel, by decide +kernel⟩
def t_parts_of (K : PySem.W.Frag) (w : World) (q_is_head : Sp) (q_is_worth : Sp) : TS :=
    (tSeq (tIfS (tOr (tNot (tB (tCB (rIsi K) (tCons (tVar 0) (tCons (tC (.ty "tuple")) tNil))))) (tOr (tTest (tOp qLt (tCB (rLenQ K) (tCons (tVar 0) tNil)) (tC (.int 2)))) (tNot (tB (tCB (rIsi K) (tCons (tOp (rIxT K) (tVar 0) (tC (.int 0))) (tCons (tC (.ty "str")) tNil))))))) (tRet (tC .non)) tNext)
    (tSeq (tIfS (tTest (tOp rEq (tOp (rIxT K) (tVar 0) (tC (.int 0))) (tC (.str "is")))) (tRet (tIf (tAnd (tTest (tOp rEq (tCB (rLenQ K) (tCons (tVar 0) tNil)) (tC (.int 2)))) (tB (tCall q_is_worth [] E0 (tCons (tOp (rIxT K) (tVar 0) (tC (.int 1))) tNil)))) (tTup tNil) (tC .non))) tNext)
    (tSeq (tIfS (tTest (tOp rEq (tOp (rIxT K) (tVar 0) (tC (.int 0))) (tC (.str "hear")))) (tRet (tIf (tAnd (tTest (tOp rEq (tCB (rLenQ K) (tCons (tVar 0) tNil)) (tC (.int 2)))) (tB (tCall q_is_worth [] E0 (tCons (tOp (rIxT K) (tVar 0) (tC (.int 1))) tNil)))) (tTup tNil) (tC .non))) tNext)
    (tSeq (tIfS (tTest (tOp (rIn K false) (tOp (rIxT K) (tVar 0) (tC (.int 0))) (tTup (tCons (tC (.str "least")) (tCons (tC (.str "most")) (tCons (tC (.str "add")) tNil)))))) (tRet (tIf (tAnd (tTest (tOp rEq (tCB (rLenQ K) (tCons (tVar 0) tNil)) (tC (.int 2)))) (tAnd (tB (tCB (rIsi K) (tCons (tOp (rIxT K) (tVar 0) (tC (.int 1))) (tCons (tC (.ty "tuple")) tNil)))) (tTest (tOp qGt (tCB (rLenQ K) (tCons (tOp (rIxT K) (tVar 0) (tC (.int 1))) tNil)) (tC (.int 0)))))) (tOp (rIxT K) (tVar 0) (tC (.int 1))) (tC .non))) tNext)
    (tSeq (tIfS (tTest (tOp rEq (tOp (rIxT K) (tVar 0) (tC (.int 0))) (tC (.str "middle")))) (tRet (tIf (tTest (tOp rEq (tCB (rLenQ K) (tCons (tVar 0) tNil)) (tC (.int 4)))) (tSl (rSlA K) (tVar 0) (tPart (tC (.int 1))) tNoPart) (tC .non))) tNext)
    (tRet (tIf (tB (tCall q_is_head [] E0 (tCons (tVar 0) tNil))) (tSl (rSlA K) (tVar 0) (tPart (tUn (rU fun i => .int (-i)) (tC (.int 1)))) tNoPart) (tC .non))))))))
abbrev n_branches : List Str := ["rule", "found", "part"]
abbrev p_branches : List Str := ["rule"]
theorem sc_branches : FnScope n_branches p_branches (defScope s_branches) := ⟨rfl, rfl, rfl, by decide +kernel, rfl, by decide +kernel, by decide +kernel⟩
def t_branches (K : PySem.W.Frag) (w : World) (q_parts_of : Sp) (q_branches : Sp) : TS :=
    (tSeq (tIfS (tTest (tOp rEq (tOp (rIxT K) (tVar 0) (tC (.int 0))) (tC (.str "hear")))) (tRet (tTup (tCons (tOp (rIxT K) (tVar 0) (tC (.int 1))) tNil))) tNext)
    (tSeq (tAsg (tLst tNil) (gName 1))
    (tSeq (tFor (iTup K (tCall q_parts_of [] E0 (tCons (tVar 0) tNil))) (gName 2) (tDrop (tBM K "list" (rExtT K) (tVar 1) (tCons (tCall q_branches [] E0 (tCons (tVar 2) tNil)) tNil))))
    (tRet (tCB (rTupQ K) (tCons (tVar 1) tNil))))))
abbrev n_made : List Str := ["rule", "values"]
abbrev p_made : List Str := ["rule", "values"]
theorem sc_made : FnScope n_made p_made (defScope s_made) := ⟨rfl, rfl, rfl, by decide +kernel, rfl, by decide +kernel, by decide +kernel⟩
def t_made (K : PySem.W.Frag) (w : World) : TS :=
    (tSeq (tIfS (tTest (tOp rEq (tOp (rIxT K) (tVar 0) (tC (.int 0))) (tC (.str "least")))) (tRet (tCB (rMin K) (tCons (tVar 1) tNil))) tNext)
    (tSeq (tIfS (tTest (tOp rEq (tOp (rIxT K) (tVar 0) (tC (.int 0))) (tC (.str "most")))) (tRet (tCB (rMax K) (tCons (tVar 1) tNil))) tNext)
    (tSeq (tIfS (tTest (tOp rEq (tOp (rIxT K) (tVar 0) (tC (.int 0))) (tC (.str "middle")))) (tRet (tOp (rIxL K) (tCB (rSortedI K) (tCons (tVar 1) tNil)) (tC (.int 1)))) tNext)
    (tSeq (tIfS (tTest (tOp rEq (tOp (rIxT K) (tVar 0) (tC (.int 0))) (tC (.str "add")))) (tRet (tCB (rSum K) (tCons (tVar 1) tNil))) tNext)
    (tSeq (tIfS (tTest (tOp rEq (tOp (rIxT K) (tVar 0) (tC (.int 0))) (tC (.str "times")))) (tRet (tOp qMul (tOp (rIxT K) (tVar 0) (tC (.int 1))) (tOp (rIxL K) (tVar 1) (tC (.int 0))))) tNext)
    (tSeq (tIfS (tTest (tOp rEq (tOp (rIxT K) (tVar 0) (tC (.int 0))) (tC (.str "part")))) (tRet (tOp qDiv (tOp (rIxL K) (tVar 1) (tC (.int 0))) (tOp (rIxT K) (tVar 0) (tC (.int 1))))) tNext)
    (tSeq (tIfS (tTest (tOp rEq (tOp (rIxT K) (tVar 0) (tC (.int 0))) (tC (.str "clip")))) (tRet (tCB rMin2 (tCons (tCB rMax2 (tCons (tOp (rIxL K) (tVar 1) (tC (.int 0))) (tCons (tOp (rIxT K) (tVar 0) (tC (.int 1))) tNil))) (tCons (tOp (rIxT K) (tVar 0) (tC (.int 2))) tNil)))) tNext)
    (tSeq (tIfS (tTest (tOp rEq (tOp (rIxT K) (tVar 0) (tC (.int 0))) (tC (.str "from")))) (tRet (tCB rMax2 (tCons (tC (.int 0)) (tCons (tOp qSub (tOp (rIxT K) (tVar 0) (tC (.int 1))) (tOp (rIxL K) (tVar 1) (tC (.int 0)))) tNil)))) tNext)
    (tSeq (tIfS (tTest (tOp rEq (tOp (rIxT K) (tVar 0) (tC (.int 0))) (tC (.str "bar")))) (tRet (tIf (tTest (tOp qGe (tOp (rIxL K) (tVar 1) (tC (.int 0))) (tOp (rIxT K) (tVar 0) (tC (.int 1))))) (tOp (rIxT K) (tVar 0) (tC (.int 3))) (tOp (rIxT K) (tVar 0) (tC (.int 2))))) tNext)
    (tRet (tOp (rIxT K) (tOp (rIxT K) (tVar 0) (tC (.int 1))) (tCB rMin2 (tCons (tOp (rIxL K) (tVar 1) (tC (.int 0))) (tCons (tOp qSub (tCB (rLenQ K) (tCons (tOp (rIxT K) (tVar 0) (tC (.int 1))) tNil)) (tC (.int 1))) tNil))))))))))))))
abbrev n_told_by : List Str := ["rule", "heard", "at", "values", "part", "value"]
abbrev p_told_by : List Str := ["rule", "heard", "at"]
theorem sc_told_by : FnScope n_told_by p_told_by (defScope s_told_by) := ⟨rfl, rfl, rfl, by decide +kernel, rfl, by decide +kernel, by decide +kernel⟩
def t_told_by (K : PySem.W.Frag) (w : World) (q_parts_of : Sp) (q_told_by : Sp) (q_made : Sp) : TS :=
    (tSeq (tIfS (tTest (tOp rEq (tOp (rIxT K) (tVar 0) (tC (.int 0))) (tC (.str "is")))) (tRet (tTup (tCons (tOp (rIxT K) (tVar 0) (tC (.int 1))) (tCons (tVar 2) tNil)))) tNext)
    (tSeq (tIfS (tTest (tOp rEq (tOp (rIxT K) (tVar 0) (tC (.int 0))) (tC (.str "hear")))) (tRet (tTup (tCons (tOp (rIxT K) (tVar 1) (tVar 2)) (tCons (tOp qAdd (tVar 2) (tC (.int 1))) tNil)))) tNext)
    (tSeq (tAsg (tLst tNil) (gName 3))
    (tSeq (tFor (iTup K (tCall q_parts_of [] E0 (tCons (tVar 0) tNil))) (gName 4) (tSeq (tAsg (tCall q_told_by [] E0 (tCons (tVar 4) (tCons (tVar 1) (tCons (tVar 2) tNil)))) (gTup K 2 (gCons (gName 5) (gCons (gName 2) gNil))))
    (tDrop (tBM K "list" rAppend (tVar 3) (tCons (tVar 5) tNil)))))
    (tRet (tTup (tCons (tCall q_made [] E0 (tCons (tVar 0) (tCons (tVar 3) tNil))) (tCons (tVar 2) tNil))))))))
abbrev n_told : List Str := ["rule", "heard"]
abbrev p_told : List Str := ["rule", "heard"]
theorem sc_told : FnScope n_told p_told (defScope s_told) := ⟨rfl, rfl, rfl, by decide +kernel, rfl, by decide +kernel, by decide +kernel⟩
def t_told (K : PySem.W.Frag) (w : World) (q_told_by : Sp) : TS :=
    (tRet (tOp (rIxT K) (tCall q_told_by [] E0 (tCons (tVar 0) (tCons (tVar 1) (tCons (tC (.int 0)) tNil)))) (tC (.int 0))))
abbrev n_wanted : List Str := ["net", "house", "heard"]
abbrev p_wanted : List Str := ["net", "house", "heard"]
theorem sc_wanted : FnScope n_wanted p_wanted (defScope s_wanted) := ⟨rfl, rfl, rfl, by decide +kernel, rfl, by decide +kernel, by decide +kernel⟩
def t_wanted (K : PySem.W.Frag) (w : World) (q_told : Sp) : TS :=
    (tRet (tCB rMin2 (tCons (tOp (rIxT K) (tOp (rIxT K) (tVar 0) (tC (.int 0))) (tVar 1)) (tCons (tCall q_told [] E0 (tCons (tOp (rIxT K) (tOp (rIxT K) (tVar 0) (tC (.int 1))) (tVar 1)) (tCons (tVar 2) tNil))) tNil))))
abbrev n_first_lots : List Str := ["net", "top"]
abbrev p_first_lots : List Str := ["net"]
theorem sc_first_lots : FnScope n_first_lots p_first_lots (defScope s_first_lots) := ⟨rfl, rfl, rfl, by decide +kernel, rfl, by decide +kernel, by decide +kernel⟩
def t_first_lots (K : PySem.W.Frag) (w : World) : TS :=
    (tRet (tCB (rTupQ K) (tCons (tLc (iTup K (tOp (rIxT K) (tVar 0) (tC (.int 0)))) (gName 1) tYes (tTupRg (tRg1 (tOp qAdd (tVar 1) (tC (.int 1))))) [1]) tNil)))
abbrev n_rows_from : List Str := ["lots", "heard", "found", "one", "row", "worth"]
abbrev p_rows_from : List Str := ["lots", "heard"]
theorem sc_rows_from : FnScope n_rows_from p_rows_from (defScope s_rows_from) := ⟨rfl, rfl, rfl, by decide +kernel, rfl, by decide +kernel, by decide +kernel⟩
def t_rows_from (K : PySem.W.Frag) (w : World) : TS :=
    (tSeq (tAsg (tLst (tCons (tTup tNil) tNil)) (gName 2))
    (tSeq (tFor (iTup K (tVar 1)) (gName 3) (tAsg (tLc2 (iList K (tVar 2)) (gName 4) tYes (iTup K (tOp (rIxT K) (tVar 0) (tVar 3))) (gName 5) tYes (tStar1 K (tVar 4) (tVar 5)) [4, 5] [5]) (gName 2)))
    (tRet (tVar 2))))
abbrev n_lots_next : List Str := ["net", "lots", "found", "house", "rule", "row"]
abbrev p_lots_next : List Str := ["net", "lots"]
theorem sc_lots_next : FnScope n_lots_next p_lots_next (defScope s_lots_next) := ⟨rfl, rfl, rfl, by decide +kernel, rfl, by decide +kernel, by decide +kernel⟩
def t_lots_next (K : PySem.W.Frag) (w : World) (E : XK) (q_check_few : Sp) (q_wanted : Sp) (q_rows_from : Sp) (q_branches : Sp) : TS :=
    (tSeq (tDrop (tCall q_check_few [] E (tCons (tVar 0) tNil)))
    (tSeq (tAsg (tLst tNil) (gName 2))
    (tSeq (tFor (iEnT K (tCons (tOp (rIxT K) (tVar 0) (tC (.int 1))) tNil)) (gTup K 2 (gCons (gName 3) (gCons (gName 4) gNil))) (tDrop (tBM K "list" rAppend (tVar 2) (tCons (tCB (rTupQ K) (tCons (tCB (rSortSet w) (tCons (tCB (rSetI K w) (tCons (tLc (iList K (tCall q_rows_from [] E0 (tCons (tVar 1) (tCons (tCall q_branches [] E0 (tCons (tVar 4) tNil)) tNil)))) (gName 5) tYes (tCall q_wanted [] E0 (tCons (tVar 0) (tCons (tVar 3) (tCons (tVar 5) tNil)))) [5]) tNil)) tNil)) tNil)) tNil))))
    (tRet (tCB (rTupQ K) (tCons (tVar 2) tNil))))))
abbrev n_lot_rounds : List Str := ["net", "found", "later"]
abbrev p_lot_rounds : List Str := ["net"]
theorem sc_lot_rounds : FnScope n_lot_rounds p_lot_rounds (defScope s_lot_rounds) := ⟨rfl, rfl, rfl, by decide +kernel, rfl, by decide +kernel, by decide +kernel⟩
def t_lot_rounds (K : PySem.W.Frag) (w : World) (E : XK) (q_lots_next : Sp) (q_first_lots : Sp) : TS :=
    (tSeq (tAsg (tLst (tCons (tCall q_first_lots [] E0 (tCons (tVar 0) tNil)) tNil)) (gName 1))
    (tSeq (tAsg (tCall q_lots_next [] E (tCons (tVar 0) (tCons (tOp (rIxL K) (tVar 1) (tUn (rU fun i => .int (-i)) (tC (.int 1)))) tNil))) (gName 2))
    (tSeq (tWhile (tTest (tOp (rNeD K) (tVar 2) (tOp (rIxL K) (tVar 1) (tUn (rU fun i => .int (-i)) (tC (.int 1)))))) (tSeq (tDrop (tBM K "list" rAppend (tVar 1) (tCons (tVar 2) tNil)))
    (tAsg (tCall q_lots_next [] E (tCons (tVar 0) (tCons (tVar 2) tNil))) (gName 2))))
    (tRet (tCB (rTupQ K) (tCons (tVar 1) tNil))))))
abbrev n_last_lots : List Str := ["net"]
abbrev p_last_lots : List Str := ["net"]
theorem sc_last_lots : FnScope n_last_lots p_last_lots (defScope s_last_lots) := ⟨rfl, rfl, rfl, by decide +kernel, rfl, by decide +kernel, by decide +kernel⟩
def t_last_lots (K : PySem.W.Frag) (w : World) (E : XK) (q_lot_rounds : Sp) : TS :=
    (tRet (tOp (rIxT K) (tCall q_lot_rounds [] E (tCons (tVar 0) tNil)) (tUn (rU fun i => .int (-i)) (tC (.int 1)))))
abbrev n_known_rounds : List Str := ["net", "rounds", "found", "house", "some", "at", "lots"]
abbrev p_known_rounds : List Str := ["net"]
theorem sc_known_rounds : FnScope n_known_rounds p_known_rounds (defScope s_known_rounds) := ⟨rfl, rfl, rfl, by decide +kernel, rfl, by decide +kernel, by decide +kernel⟩
def t_known_rounds (K : PySem.W.Frag) (w : World) (E : XK) (q_lot_rounds : Sp) : TS :=
    (tSeq (tPar 1 2 (tCons (tCall q_lot_rounds [] E (tCons (tVar 0) tNil)) (tCons (tLst tNil) tNil)))
    (tSeq (tFor (iRng1 (tCons (tCB (rLenQ K) (tCons (tOp (rIxT K) (tVar 0) (tC (.int 0))) tNil)) tNil)) (gName 3) (tSeq (tAsg (tLc (iEnT K (tCons (tVar 1) tNil)) (gTup K 2 (gCons (gName 5) (gCons (gName 6) gNil))) (tTest (tOp rEq (tCB (rLenQ K) (tCons (tOp (rIxT K) (tVar 6) (tVar 3)) tNil)) (tC (.int 1)))) (tVar 5) [5, 6]) (gName 4))
    (tDrop (tBM K "list" rAppend (tVar 2) (tCons (tIf (tTest (tOp qGt (tCB (rLenQ K) (tCons (tVar 4) tNil)) (tC (.int 0)))) (tOp (rIxL K) (tVar 4) (tC (.int 0))) (tC .non)) tNil)))))
    (tRet (tCB (rTupQ K) (tCons (tVar 2) tNil)))))
abbrev n_is_sure : List Str := ["net", "lot"]
abbrev p_is_sure : List Str := ["net"]
theorem sc_is_sure : FnScope n_is_sure p_is_sure (defScope s_is_sure) := ⟨rfl, rfl, rfl, by decide +kernel, rfl, by decide +kernel, by decide +kernel⟩
def t_is_sure (K : PySem.W.Frag) (w : World) (E : XK) (q_last_lots : Sp) : TS :=
    (tRet (tCB (rAll K) (tCons (tLc (iTup K (tCall q_last_lots [] E (tCons (tVar 0) tNil))) (gName 1) tYes (tOp rEq (tCB (rLenQ K) (tCons (tVar 1) tNil)) (tC (.int 1))) [1]) tNil)))
abbrev n_law_draw : List Str := ["_law_script", "_law_salt", "_law_cells", "_law_blend", "_law_cell"]
abbrev p_law_draw : List Str := ["_law_script", "_law_salt"]
theorem sc_law_draw : FnScope n_law_draw p_law_draw (defScope s_law_draw) := ⟨rfl, rfl, rfl, by decide +kernel, rfl, by decide +kernel, by decide +kernel⟩
def t_law_draw (K : PySem.W.Frag) (w : World) : TS :=
    (tSeq (tAsg (tLc (iList K (tSl (rSlL K) (tVar 0) tNoPart (tPart (tC (.int 48))))) (gName 4) tYes (tCB rAbs (tCons (tCB rInt1 (tCons (tVar 4) tNil)) tNil)) [4]) (gName 2))
    (tSeq (tAsg (tOp qAdd (tC (.int 7919)) (tOp qMul (tC (.int 104729)) (tVar 1))) (gName 3))
    (tSeq (tFor (iList K (tVar 2)) (gName 4) (tAsg (tOp qMod (tCB rInt1 (tCons (tOp qAdd (tOp qAdd (tOp qMul (tVar 3) (tC (.int 48271))) (tOp qMod (tVar 4) (tC (.int 2147483549)))) (tC (.int 11))) tNil)) (tC (.int 2147483647))) (gName 3)))
    (tRet (tLst (tCons (tRevL K (tLc (iList K (tVar 2)) (gName 4) (tTest (tOp qGe (tVar 4) (tOp qPow (tC (.int 10)) (tC (.int 18))))) (tVar 4) [4])) (tCons (tVar 3) tNil)))))))
abbrev n_law_any : List Str := ["_law_deal", "_law_bound", "_law_rest"]
abbrev p_law_any : List Str := ["_law_deal", "_law_bound"]
theorem sc_law_any : FnScope n_law_any p_law_any (defScope s_law_any) := ⟨rfl, rfl, rfl, by decide +kernel, rfl, by decide +kernel, by decide +kernel⟩
def t_law_any (K : PySem.W.Frag) (w : World) : TS :=
    (tSeq (tWhile (tAnd (tTest (tOp (rNeD K) (tOp (rIxL K) (tVar 0) (tC (.int 0))) (tLst tNil))) (tTest (tOp rEq (tOp (rIxL K) (tOp (rIxL K) (tVar 0) (tC (.int 0))) (tUn (rU fun i => .int (-i)) (tC (.int 1)))) (tC (.int 0))))) (tDrop (tBM0 K "list" rPop (tOp (rIxL K) (tVar 0) (tC (.int 0))))))
    (tSeq (tIfS (tTest (tOp (rNeD K) (tOp (rIxL K) (tVar 0) (tC (.int 0))) (tLst tNil))) (tSeq (tAsg (tCB rInt1 (tCons (tBM0 K "list" rPop (tOp (rIxL K) (tVar 0) (tC (.int 0)))) tNil)) (gName 2))
    (tSeq (tDrop (tBM K "list" rAppend (tOp (rIxL K) (tVar 0) (tC (.int 0))) (tCons (tOp qDivW (tVar 2) (tVar 1)) tNil)))
    (tRet (tOp qMod (tVar 2) (tVar 1))))) tNext)
    (tSeq (tAsg (tOp qMod (tCB rInt1 (tCons (tOp qAdd (tOp qMul (tOp (rIxL K) (tVar 0) (tC (.int 1))) (tC (.int 40693))) (tC (.int 71))) tNil)) (tC (.int 2147483647))) (gSub (tVar 0) (tC (.int 1)) rSetL))
    (tRet (tOp qMod (tCB rInt1 (tCons (tOp qDiv (tOp (rIxL K) (tVar 0) (tC (.int 1))) (tC (.int 64))) tNil)) (tVar 1))))))
abbrev n_law_of : List Str := ["_law_deal", "_law_some"]
abbrev p_law_of : List Str := ["_law_deal", "_law_some"]
theorem sc_law_of : FnScope n_law_of p_law_of (defScope s_law_of) := ⟨rfl, rfl, rfl, by decide +kernel, rfl, by decide +kernel, by decide +kernel⟩
def t_law_of (K : PySem.W.Frag) (w : World) (q_law_any : Sp) : TS :=
    (tRet (tOp (rIxL K) (tVar 1) (tCall q_law_any [] E0 (tCons (tVar 0) (tCons (tCB (rLenQ K) (tCons (tVar 1) tNil)) tNil)))))
abbrev n_law_rule : List Str := ["_law_deal", "_law_n", "_law_top", "_law_deep", "_law_any_row", "_law_form", "_law_parts_here", "_law_inner", "_law_low", "_law_row", "_law_turn_here"]
abbrev p_law_rule : List Str := ["_law_deal", "_law_n", "_law_top", "_law_deep", "_law_any_row"]
theorem sc_law_rule : FnScope n_law_rule p_law_rule (defScope s_law_rule) := ⟨rfl, rfl, rfl, by decide +kernel, rfl, by decide +kernel, by decide +kernel⟩
def t_law_rule (K : PySem.W.Frag) (w : World) (q_law_rule : Sp) (q_law_any : Sp) (q_law_of : Sp) : TS :=
    (tSeq (tAsg (tIf (tTest (tOp qGt (tVar 3) (tC (.int 0)))) (tCall q_law_any [] E0 (tCons (tVar 0) (tCons (tC (.int 14)) tNil))) (tCall q_law_any [] E0 (tCons (tVar 0) (tCons (tC (.int 4)) tNil)))) (gName 5))
    (tSeq (tIfS (tTest (tOp rEq (tVar 5) (tC (.int 0)))) (tRet (tTup (tCons (tC (.str "is")) (tCons (tCall q_law_any [] E0 (tCons (tVar 0) (tCons (tOp qAdd (tVar 2) (tC (.int 1))) tNil))) tNil)))) tNext)
    (tSeq (tIfS (tTest (tOp qLt (tVar 5) (tC (.int 4)))) (tRet (tTup (tCons (tC (.str "hear")) (tCons (tCall q_law_any [] E0 (tCons (tVar 0) (tCons (tVar 1) tNil))) tNil)))) tNext)
    (tSeq (tIfS (tTest (tOp qLt (tVar 5) (tC (.int 8)))) (tSeq (tAsg (tCB (rTupQ K) (tCons (tLc (iRng1 (tCons (tOp qAdd (tC (.int 1)) (tCall q_law_any [] E0 (tCons (tVar 0) (tCons (tC (.int 2)) tNil)))) tNil)) (gName 10) tYes (tCall q_law_rule [] E0 (tCons (tVar 0) (tCons (tVar 1) (tCons (tVar 2) (tCons (tOp qSub (tVar 3) (tC (.int 1))) (tCons (tVar 4) tNil)))))) [10]) tNil)) (gName 6))
    (tRet (tTup (tCons (tCall q_law_of [] E0 (tCons (tVar 0) (tCons (tLst (tCons (tC (.str "least")) (tCons (tC (.str "most")) (tCons (tC (.str "add")) tNil)))) tNil))) (tCons (tVar 6) tNil))))) tNext)
    (tSeq (tIfS (tAnd (tTest (tOp rEq (tVar 5) (tC (.int 8)))) (tTest (tOp rEq (tVar 3) (tC (.int 1))))) (tRet (tOp (rCatA K) (tTup (tCons (tC (.str "middle")) tNil)) (tCB (rTupQ K) (tCons (tLc (iRng1 (tCons (tC (.int 3)) tNil)) (gName 10) tYes (tCall q_law_rule [] E0 (tCons (tVar 0) (tCons (tVar 1) (tCons (tVar 2) (tCons (tC (.int 0)) (tCons (tVar 4) tNil)))))) [10]) tNil)))) tNext)
    (tSeq (tAsg (tCall q_law_rule [] E0 (tCons (tVar 0) (tCons (tVar 1) (tCons (tVar 2) (tCons (tOp qSub (tVar 3) (tC (.int 1))) (tCons (tVar 4) tNil)))))) (gName 7))
    (tSeq (tIfS (tTest (tOp rEq (tVar 5) (tC (.int 9)))) (tRet (tTup (tCons (tC (.str "times")) (tCons (tCall q_law_any [] E0 (tCons (tVar 0) (tCons (tC (.int 3)) tNil))) (tCons (tVar 7) tNil))))) tNext)
    (tSeq (tIfS (tTest (tOp rEq (tVar 5) (tC (.int 10)))) (tRet (tTup (tCons (tC (.str "part")) (tCons (tOp qAdd (tC (.int 1)) (tCall q_law_any [] E0 (tCons (tVar 0) (tCons (tC (.int 3)) tNil)))) (tCons (tVar 7) tNil))))) tNext)
    (tSeq (tIfS (tTest (tOp rEq (tVar 5) (tC (.int 11)))) (tSeq (tAsg (tCall q_law_any [] E0 (tCons (tVar 0) (tCons (tOp qAdd (tVar 2) (tC (.int 1))) tNil))) (gName 8))
    (tRet (tTup (tCons (tC (.str "clip")) (tCons (tVar 8) (tCons (tOp qAdd (tVar 8) (tCall q_law_any [] E0 (tCons (tVar 0) (tCons (tC (.int 3)) tNil)))) (tCons (tVar 7) tNil))))))) tNext)
    (tSeq (tIfS (tTest (tOp rEq (tVar 5) (tC (.int 12)))) (tRet (tTup (tCons (tC (.str "bar")) (tCons (tCall q_law_any [] E0 (tCons (tVar 0) (tCons (tOp qAdd (tVar 2) (tC (.int 2))) tNil))) (tCons (tCall q_law_any [] E0 (tCons (tVar 0) (tCons (tOp qAdd (tVar 2) (tC (.int 1))) tNil))) (tCons (tCall q_law_any [] E0 (tCons (tVar 0) (tCons (tOp qAdd (tVar 2) (tC (.int 1))) tNil))) (tCons (tVar 7) tNil))))))) tNext)
    (tSeq (tIfS (tTest (tOp rEq (tVar 5) (tC (.int 13)))) (tSeq (tAsg (tLc (iRng1 (tCons (tOp qAdd (tC (.int 1)) (tCall q_law_any [] E0 (tCons (tVar 0) (tCons (tOp qAdd (tVar 2) (tC (.int 1))) tNil)))) tNil)) (gName 10) tYes (tCall q_law_any [] E0 (tCons (tVar 0) (tCons (tOp qAdd (tVar 2) (tC (.int 1))) tNil))) [10]) (gName 9))
    (tRet (tTup (tCons (tC (.str "row")) (tCons (tCB (rTupQ K) (tCons (tIf (tB (tVar 4)) (tVar 9) (tCB (rSortedI K) (tCons (tVar 9) tNil))) tNil)) (tCons (tVar 7) tNil)))))) tNext)
    (tRet (tTup (tCons (tC (.str "from")) (tCons (tCall q_law_any [] E0 (tCons (tVar 0) (tCons (tOp qAdd (tVar 2) (tC (.int 2))) tNil))) (tCons (tVar 7) tNil))))))))))))))))
abbrev n_law_net : List Str := ["_law_deal", "_law_most", "_law_top", "_law_any_row", "_law_n", "_law_tops", "_law_house"]
abbrev p_law_net : List Str := ["_law_deal", "_law_most", "_law_top", "_law_any_row"]
theorem sc_law_net : FnScope n_law_net p_law_net (defScope s_law_net) := ⟨rfl, rfl, rfl, by decide +kernel, rfl, by decide +kernel, by decide +kernel⟩
def t_law_net (K : PySem.W.Frag) (w : World) (q_law_any : Sp) (q_law_rule : Sp) : TS :=
    (tSeq (tAsg (tOp qAdd (tC (.int 1)) (tCall q_law_any [] E0 (tCons (tVar 0) (tCons (tVar 1) tNil)))) (gName 4))
    (tSeq (tAsg (tCB (rTupQ K) (tCons (tLc (iRng1 (tCons (tVar 4) tNil)) (gName 6) tYes (tOp qAdd (tC (.int 1)) (tCall q_law_any [] E0 (tCons (tVar 0) (tCons (tVar 2) tNil)))) [6]) tNil)) (gName 5))
    (tRet (tTup (tCons (tVar 5) (tCons (tCB (rTupQ K) (tCons (tLc (iRng1 (tCons (tVar 4) tNil)) (gName 6) tYes (tCall q_law_rule [] E0 (tCons (tVar 0) (tCons (tVar 4) (tCons (tVar 2) (tCons (tCall q_law_any [] E0 (tCons (tVar 0) (tCons (tC (.int 4)) tNil))) (tCons (tVar 3) tNil)))))) [6]) tNil)) tNil))))))
abbrev n_law_parts : List Str := ["_law_rule_here"]
abbrev p_law_parts : List Str := ["_law_rule_here"]
theorem sc_law_parts : FnScope n_law_parts p_law_parts (defScope s_law_parts) := ⟨rfl, rfl, rfl, by decide +kernel, rfl, by decide +kernel, by decide +kernel⟩
def t_law_parts (K : PySem.W.Frag) (w : World) : TS :=
    (tSeq (tIfS (tTest (tOp (rIn K false) (tOp (rIxT K) (tVar 0) (tC (.int 0))) (tLst (tCons (tC (.str "is")) (tCons (tC (.str "hear")) tNil))))) (tRet (tLst tNil)) tNext)
    (tSeq (tIfS (tTest (tOp (rIn K false) (tOp (rIxT K) (tVar 0) (tC (.int 0))) (tLst (tCons (tC (.str "least")) (tCons (tC (.str "most")) (tCons (tC (.str "add")) tNil)))))) (tRet (tCB (rListQ K) (tCons (tOp (rIxT K) (tVar 0) (tC (.int 1))) tNil))) tNext)
    (tRet (tIf (tTest (tOp rEq (tOp (rIxT K) (tVar 0) (tC (.int 0))) (tC (.str "middle")))) (tCB (rListQ K) (tCons (tSl (rSlA K) (tVar 0) (tPart (tC (.int 1))) tNoPart) tNil)) (tLst (tCons (tOp (rIxT K) (tVar 0) (tUn (rU fun i => .int (-i)) (tC (.int 1)))) tNil))))))
abbrev n_law_branches : List Str := ["_law_rule_here", "_law_found", "_law_part"]
abbrev p_law_branches : List Str := ["_law_rule_here"]
theorem sc_law_branches : FnScope n_law_branches p_law_branches (defScope s_law_branches) := ⟨rfl, rfl, rfl, by decide +kernel, rfl, by decide +kernel, by decide +kernel⟩
def t_law_branches (K : PySem.W.Frag) (w : World) (q_law_parts : Sp) (q_law_branches : Sp) : TS :=
    (tSeq (tAsg (tIf (tTest (tOp rEq (tOp (rIxT K) (tVar 0) (tC (.int 0))) (tC (.str "hear")))) (tLst (tCons (tOp (rIxT K) (tVar 0) (tC (.int 1))) tNil)) (tLst tNil)) (gName 1))
    (tSeq (tFor (iList K (tCall q_law_parts [] E0 (tCons (tVar 0) tNil))) (gName 2) (tAsg (tOp rCat (tVar 1) (tCall q_law_branches [] E0 (tCons (tVar 2) tNil))) (gName 1)))
    (tRet (tVar 1))))
abbrev n_law_made : List Str := ["_law_rule_here", "_law_some", "_law_word", "_law_a"]
abbrev p_law_made : List Str := ["_law_rule_here", "_law_some"]
theorem sc_law_made : FnScope n_law_made p_law_made (defScope s_law_made) := ⟨rfl, rfl, rfl, by decide +kernel, rfl, by decide +kernel, by decide +kernel⟩
def t_law_made (K : PySem.W.Frag) (w : World) : TS :=
    (tSeq (tPar 2 3 (tCons (tOp (rIxT K) (tVar 0) (tC (.int 0))) (tCons (tOp (rIxL K) (tVar 1) (tC (.int 0))) tNil)))
    (tSeq (tIfS (tTest (tOp (rIn K false) (tVar 2) (tLst (tCons (tC (.str "least")) (tCons (tC (.str "most")) (tCons (tC (.str "add")) (tCons (tC (.str "middle")) tNil))))))) (tRet (tIf (tTest (tOp rEq (tVar 2) (tC (.str "least")))) (tCB (rMin K) (tCons (tVar 1) tNil)) (tIf (tTest (tOp rEq (tVar 2) (tC (.str "most")))) (tCB (rMax K) (tCons (tVar 1) tNil)) (tIf (tTest (tOp rEq (tVar 2) (tC (.str "add")))) (tCB (rSum K) (tCons (tVar 1) tNil)) (tOp (rIxL K) (tCB (rSortedI K) (tCons (tVar 1) tNil)) (tC (.int 1))))))) tNext)
    (tSeq (tIfS (tTest (tOp (rIn K false) (tVar 2) (tLst (tCons (tC (.str "times")) (tCons (tC (.str "part")) tNil))))) (tRet (tIf (tTest (tOp rEq (tVar 2) (tC (.str "times")))) (tOp qMul (tOp (rIxT K) (tVar 0) (tC (.int 1))) (tVar 3)) (tOp qDiv (tVar 3) (tOp (rIxT K) (tVar 0) (tC (.int 1)))))) tNext)
    (tSeq (tIfS (tTest (tOp rEq (tVar 2) (tC (.str "clip")))) (tRet (tIf (tTest (tOp qLt (tVar 3) (tOp (rIxT K) (tVar 0) (tC (.int 1))))) (tOp (rIxT K) (tVar 0) (tC (.int 1))) (tIf (tTest (tOp qGt (tVar 3) (tOp (rIxT K) (tVar 0) (tC (.int 2))))) (tOp (rIxT K) (tVar 0) (tC (.int 2))) (tVar 3)))) tNext)
    (tSeq (tIfS (tTest (tOp rEq (tVar 2) (tC (.str "from")))) (tRet (tIf (tTest (tOp qLt (tVar 3) (tOp (rIxT K) (tVar 0) (tC (.int 1))))) (tOp qSub (tOp (rIxT K) (tVar 0) (tC (.int 1))) (tVar 3)) (tC (.int 0)))) tNext)
    (tSeq (tIfS (tTest (tOp rEq (tVar 2) (tC (.str "bar")))) (tRet (tIf (tTest (tOp qGe (tVar 3) (tOp (rIxT K) (tVar 0) (tC (.int 1))))) (tOp (rIxT K) (tVar 0) (tC (.int 3))) (tOp (rIxT K) (tVar 0) (tC (.int 2))))) tNext)
    (tRet (tIf (tTest (tOp qLt (tVar 3) (tCB (rLenQ K) (tCons (tOp (rIxT K) (tVar 0) (tC (.int 1))) tNil)))) (tOp (rIxT K) (tOp (rIxT K) (tVar 0) (tC (.int 1))) (tVar 3)) (tOp (rIxT K) (tOp (rIxT K) (tVar 0) (tC (.int 1))) (tUn (rU fun i => .int (-i)) (tC (.int 1))))))))))))
abbrev n_law_told : List Str := ["_law_rule_here", "_law_heard", "_law_some", "_law_at", "_law_part", "_law_many"]
abbrev p_law_told : List Str := ["_law_rule_here", "_law_heard"]
theorem sc_law_told : FnScope n_law_told p_law_told (defScope s_law_told) := ⟨rfl, rfl, rfl, by decide +kernel, rfl, by decide +kernel, by decide +kernel⟩
def t_law_told (K : PySem.W.Frag) (w : World) (q_law_parts : Sp) (q_law_made : Sp) (q_law_branches : Sp) (q_law_told : Sp) : TS :=
    (tSeq (tIfS (tTest (tOp (rIn K false) (tOp (rIxT K) (tVar 0) (tC (.int 0))) (tLst (tCons (tC (.str "is")) (tCons (tC (.str "hear")) tNil))))) (tRet (tIf (tTest (tOp rEq (tOp (rIxT K) (tVar 0) (tC (.int 0))) (tC (.str "is")))) (tOp (rIxT K) (tVar 0) (tC (.int 1))) (tOp (rIxL K) (tVar 1) (tC (.int 0))))) tNext)
    (tSeq (tPar 2 3 (tCons (tLst tNil) (tCons (tC (.int 0)) tNil)))
    (tSeq (tFor (iList K (tCall q_law_parts [] E0 (tCons (tVar 0) tNil))) (gName 4) (tSeq (tAsg (tCB (rLenQ K) (tCons (tCall q_law_branches [] E0 (tCons (tVar 4) tNil)) tNil)) (gName 5))
    (tSeq (tDrop (tBM K "list" rAppend (tVar 2) (tCons (tCall q_law_told [] E0 (tCons (tVar 4) (tCons (tSl (rSlL K) (tVar 1) (tPart (tVar 3)) (tPart (tOp qAdd (tVar 3) (tVar 5)))) tNil))) tNil)))
    (tAsg (tOp qAdd (tVar 3) (tVar 5)) (gName 3)))))
    (tRet (tCall q_law_made [] E0 (tCons (tVar 0) (tCons (tVar 2) tNil)))))))
abbrev n_law_wants : List Str := ["_law_net_here", "_law_house", "_law_heard"]
abbrev p_law_wants : List Str := ["_law_net_here", "_law_house", "_law_heard"]
theorem sc_law_wants : FnScope n_law_wants p_law_wants (defScope s_law_wants) := ⟨rfl, rfl, rfl, by decide +kernel, rfl, by decide +kernel, by decide +kernel⟩
def t_law_wants (K : PySem.W.Frag) (w : World) (q_law_told : Sp) : TS :=
    (tRet (tCB rMin2 (tCons (tOp (rIxT K) (tOp (rIxT K) (tVar 0) (tC (.int 0))) (tVar 1)) (tCons (tCall q_law_told [] E0 (tCons (tOp (rIxT K) (tOp (rIxT K) (tVar 0) (tC (.int 1))) (tVar 1)) (tCons (tCB (rListQ K) (tCons (tVar 2) tNil)) tNil))) tNil))))
abbrev n_law_entries : List Str := ["_law_worths", "_law_low", "_law_high", "_law_at"]
abbrev p_law_entries : List Str := ["_law_worths", "_law_low", "_law_high"]
theorem sc_law_entries : FnScope n_law_entries p_law_entries (defScope s_law_entries) := ⟨rfl, rfl, rfl, by decide +kernel, rfl, by decide +kernel, by decide +kernel⟩
def t_law_entries (K : PySem.W.Frag) (w : World) : TS :=
    (tRet (tLc (iRng1 (tCons (tCB (rLenQ K) (tCons (tVar 0) tNil)) tNil)) (gName 3) (tOr (tTest (tChain qLe qLe (tVar 1) (tVar 3) (tVar 2))) (tAnd (tTest (tOp rEq (tVar 3) (tOp qSub (tCB (rLenQ K) (tCons (tVar 0) tNil)) (tC (.int 1))))) (tTest (tOp qGt (tVar 1) (tVar 3))))) (tOp (rIxT K) (tVar 0) (tVar 3)) [3]))
abbrev n_law_range : List Str := ["_law_net_here", "_law_rule_here", "_law_inner", "_law_some", "_law_part", "_law_end", "_law_one"]
abbrev p_law_range : List Str := ["_law_net_here", "_law_rule_here"]
theorem sc_law_range : FnScope n_law_range p_law_range (defScope s_law_range) := ⟨rfl, rfl, rfl, by decide +kernel, rfl, by decide +kernel, by decide +kernel⟩
def t_law_range (K : PySem.W.Frag) (w : World) (q_law_range : Sp) (q_law_entries : Sp) (q_law_parts : Sp) (q_law_made : Sp) : TS :=
    (tSeq (tIfS (tTest (tOp rEq (tOp (rIxT K) (tVar 1) (tC (.int 0))) (tC (.str "is")))) (tRet (tTup (tCons (tOp (rIxT K) (tVar 1) (tC (.int 1))) (tCons (tOp (rIxT K) (tVar 1) (tC (.int 1))) tNil)))) tNext)
    (tSeq (tIfS (tTest (tOp rEq (tOp (rIxT K) (tVar 1) (tC (.int 0))) (tC (.str "hear")))) (tRet (tTup (tCons (tC (.int 0)) (tCons (tOp (rIxT K) (tOp (rIxT K) (tVar 0) (tC (.int 0))) (tOp (rIxT K) (tVar 1) (tC (.int 1)))) tNil)))) tNext)
    (tSeq (tAsg (tLc (iList K (tCall q_law_parts [] E0 (tCons (tVar 1) tNil))) (gName 4) tYes (tCall q_law_range [] E0 (tCons (tVar 0) (tCons (tVar 4) tNil))) [4]) (gName 2))
    (tSeq (tIfS (tTest (tOp rEq (tOp (rIxT K) (tVar 1) (tC (.int 0))) (tC (.str "row")))) (tAsg (tCall q_law_entries [] E0 (tCons (tOp (rIxT K) (tVar 1) (tC (.int 1))) (tCons (tOp (rIxT K) (tOp (rIxL K) (tVar 2) (tC (.int 0))) (tC (.int 0))) (tCons (tOp (rIxT K) (tOp (rIxL K) (tVar 2) (tC (.int 0))) (tC (.int 1))) tNil)))) (gName 3)) (tAsg (tLc (iList K (tLst (tCons (tC (.int 0)) (tCons (tC (.int 1)) tNil)))) (gName 5) tYes (tCall q_law_made [] E0 (tCons (tVar 1) (tCons (tLc (iList K (tVar 2)) (gName 6) tYes (tOp (rIxT K) (tVar 6) (tVar 5)) [6]) tNil))) [5]) (gName 3)))
    (tRet (tTup (tCons (tCB (rMin K) (tCons (tVar 3) tNil)) (tCons (tCB (rMax K) (tCons (tVar 3) tNil)) tNil))))))))
abbrev n_law_turn : List Str := ["_law_net_here", "_law_rule_here", "_law_low", "_law_high", "_law_some", "_law_steps", "_law_up", "_law_down", "_law_at", "_law_step"]
abbrev p_law_turn : List Str := ["_law_net_here", "_law_rule_here"]
theorem sc_law_turn : FnScope n_law_turn p_law_turn (defScope s_law_turn) := ⟨rfl, rfl, rfl, by decide +kernel, rfl, by decide +kernel, by decide +kernel⟩
def t_law_turn (K : PySem.W.Frag) (w : World) (q_law_range : Sp) (q_law_entries : Sp) : TS :=
    (tSeq (tIfS (tOr (tTest (tOp rEq (tOp (rIxT K) (tVar 1) (tC (.int 0))) (tC (.str "from")))) (tAnd (tTest (tOp rEq (tOp (rIxT K) (tVar 1) (tC (.int 0))) (tC (.str "bar")))) (tTest (tOp qGt (tOp (rIxT K) (tVar 1) (tC (.int 2))) (tOp (rIxT K) (tVar 1) (tC (.int 3))))))) (tRet (tUn (rU fun i => .int (-i)) (tC (.int 1)))) tNext)
    (tSeq (tIfS (tTest (tOp rNe (tOp (rIxT K) (tVar 1) (tC (.int 0))) (tC (.str "row")))) (tRet (tC (.int 1))) tNext)
    (tSeq (tAsg (tCall q_law_range [] E0 (tCons (tVar 0) (tCons (tOp (rIxT K) (tVar 1) (tC (.int 2))) tNil))) (gTup K 2 (gCons (gName 2) (gCons (gName 3) gNil))))
    (tSeq (tAsg (tCall q_law_entries [] E0 (tCons (tOp (rIxT K) (tVar 1) (tC (.int 1))) (tCons (tVar 2) (tCons (tVar 3) tNil)))) (gName 4))
    (tSeq (tAsg (tLc (iRng2 (tCons (tC (.int 1)) (tCons (tCB (rLenQ K) (tCons (tVar 4) tNil)) tNil))) (gName 8) tYes (tOp qSub (tOp (rIxL K) (tVar 4) (tVar 8)) (tOp (rIxL K) (tVar 4) (tOp qSub (tVar 8) (tC (.int 1))))) [8]) (gName 5))
    (tSeq (tPar 6 7 (tCons (tOp (rNeD K) (tLc (iList K (tVar 5)) (gName 9) (tTest (tOp qGt (tVar 9) (tC (.int 0)))) (tVar 9) [9]) (tLst tNil)) (tCons (tOp (rNeD K) (tLc (iList K (tVar 5)) (gName 9) (tTest (tOp qLt (tVar 9) (tC (.int 0)))) (tVar 9) [9]) (tLst tNil)) tNil)))
    (tRet (tIf (tAnd (tB (tVar 6)) (tB (tVar 7))) (tC (.int 0)) (tIf (tB (tVar 7)) (tUn (rU fun i => .int (-i)) (tC (.int 1))) (tC (.int 1)))))))))))
abbrev n_law_words : List Str := ["_law_net_here", "_law_rule_here", "_law_still", "_law_sign", "_law_low", "_law_high", "_law_found", "_law_part"]
abbrev p_law_words : List Str := ["_law_net_here", "_law_rule_here", "_law_still", "_law_sign"]
theorem sc_law_words : FnScope n_law_words p_law_words (defScope s_law_words) := ⟨rfl, rfl, rfl, by decide +kernel, rfl, by decide +kernel, by decide +kernel⟩
def t_law_words (K : PySem.W.Frag) (w : World) (q_law_range : Sp) (q_law_parts : Sp) (q_law_words : Sp) (q_law_turn : Sp) : TS :=
    (tSeq (tAsg (tCall q_law_range [] E0 (tCons (tVar 0) (tCons (tVar 1) tNil))) (gTup K 2 (gCons (gName 4) (gCons (gName 5) gNil))))
    (tSeq (tAsg (tOrV (tVar 2) (tOp rEq (tVar 4) (tVar 5))) (gName 2))
    (tSeq (tIfS (tTest (tOp rEq (tOp (rIxT K) (tVar 1) (tC (.int 0))) (tC (.str "hear")))) (tRet (tLst (tCons (tIf (tB (tVar 2)) (tC (.str "none")) (tIf (tTest (tOp rEq (tVar 3) (tC (.int 0)))) (tC (.str "both")) (tIf (tTest (tOp qLt (tVar 3) (tC (.int 0)))) (tC (.str "falls")) (tC (.str "rises"))))) tNil))) tNext)
    (tSeq (tAsg (tLst tNil) (gName 6))
    (tSeq (tFor (iList K (tCall q_law_parts [] E0 (tCons (tVar 1) tNil))) (gName 7) (tAsg (tOp rCat (tVar 6) (tCall q_law_words [] E0 (tCons (tVar 0) (tCons (tVar 7) (tCons (tVar 2) (tCons (tOp qMul (tVar 3) (tCall q_law_turn [] E0 (tCons (tVar 0) (tCons (tVar 1) tNil)))) tNil)))))) (gName 6)))
    (tRet (tVar 6)))))))
abbrev n_law_ways : List Str := ["_law_net_here", "_law_house", "_law_low", "_law_high"]
abbrev p_law_ways : List Str := ["_law_net_here", "_law_house"]
theorem sc_law_ways : FnScope n_law_ways p_law_ways (defScope s_law_ways) := ⟨rfl, rfl, rfl, by decide +kernel, rfl, by decide +kernel, by decide +kernel⟩
def t_law_ways (K : PySem.W.Frag) (w : World) (q_law_range : Sp) (q_law_words : Sp) : TS :=
    (tSeq (tAsg (tCall q_law_range [] E0 (tCons (tVar 0) (tCons (tOp (rIxT K) (tOp (rIxT K) (tVar 0) (tC (.int 1))) (tVar 1)) tNil))) (gTup K 2 (gCons (gName 2) (gCons (gName 3) gNil))))
    (tRet (tCall q_law_words [] E0 (tCons (tVar 0) (tCons (tOp (rIxT K) (tOp (rIxT K) (tVar 0) (tC (.int 1))) (tVar 1)) (tCons (tOp rEq (tCB rMin2 (tCons (tVar 2) (tCons (tOp (rIxT K) (tOp (rIxT K) (tVar 0) (tC (.int 0))) (tVar 1)) tNil))) (tCB rMin2 (tCons (tVar 3) (tCons (tOp (rIxT K) (tOp (rIxT K) (tVar 0) (tC (.int 0))) (tVar 1)) tNil)))) (tCons (tC (.int 1)) tNil)))))))
abbrev n_law_many_rows : List Str := ["_law_net_here", "_law_house", "_law_found", "_law_one"]
abbrev p_law_many_rows : List Str := ["_law_net_here", "_law_house"]
theorem sc_law_many_rows : FnScope n_law_many_rows p_law_many_rows (defScope s_law_many_rows) := ⟨rfl, rfl, rfl, by decide +kernel, rfl, by decide +kernel, by decide +kernel⟩
def t_law_many_rows (K : PySem.W.Frag) (w : World) (q_law_branches : Sp) : TS :=
    (tSeq (tAsg (tC (.int 1)) (gName 2))
    (tSeq (tFor (iList K (tCall q_law_branches [] E0 (tCons (tOp (rIxT K) (tOp (rIxT K) (tVar 0) (tC (.int 1))) (tVar 1)) tNil))) (gName 3) (tAsg (tOp qMul (tVar 2) (tOp qAdd (tOp (rIxT K) (tOp (rIxT K) (tVar 0) (tC (.int 0))) (tVar 3)) (tC (.int 1)))) (gName 2)))
    (tRet (tVar 2))))
abbrev n_law_few : List Str := ["_law_net_here", "_law_most", "_law_house"]
abbrev p_law_few : List Str := ["_law_net_here", "_law_most"]
theorem sc_law_few : FnScope n_law_few p_law_few (defScope s_law_few) := ⟨rfl, rfl, rfl, by decide +kernel, rfl, by decide +kernel, by decide +kernel⟩
def t_law_few (K : PySem.W.Frag) (w : World) (q_law_many_rows : Sp) : TS :=
    (tSeq (tFor (iRng1 (tCons (tCB (rLenQ K) (tCons (tOp (rIxT K) (tVar 0) (tC (.int 0))) tNil)) tNil)) (gName 2) (tIfS (tTest (tOp qGt (tCall q_law_many_rows [] E0 (tCons (tVar 0) (tCons (tVar 2) tNil))) (tVar 1))) (tRet (tC (.bl false))) tNext))
    (tRet (tC (.bl true))))
abbrev n_law_small_net : List Str := ["_law_deal", "_law_most", "_law_top", "_law_any_row", "_law_turn_here", "_law_net_here"]
abbrev p_law_small_net : List Str := ["_law_deal", "_law_most", "_law_top", "_law_any_row"]
theorem sc_law_small_net : FnScope n_law_small_net p_law_small_net (defScope s_law_small_net) := ⟨rfl, rfl, rfl, by decide +kernel, rfl, by decide +kernel, by decide +kernel⟩
def t_law_small_net (K : PySem.W.Frag) (w : World) (q_law_net : Sp) (q_law_few : Sp) : TS :=
    (tSeq (tFor (iRng1 (tCons (tC (.int 6)) tNil)) (gName 4) (tSeq (tAsg (tCall q_law_net [] E0 (tCons (tVar 0) (tCons (tVar 1) (tCons (tVar 2) (tCons (tVar 3) tNil))))) (gName 5))
    (tIfS (tB (tCall q_law_few [] E0 (tCons (tVar 5) (tCons (tC (.int 90)) tNil)))) (tRet (tVar 5)) tNext)))
    (tRet (tTup (tCons (tTup (tCons (tC (.int 1)) (tCons (tC (.int 1)) tNil))) (tCons (tTup (tCons (tTup (tCons (tC (.str "from")) (tCons (tC (.int 1)) (tCons (tTup (tCons (tC (.str "hear")) (tCons (tC (.int 1)) tNil))) tNil)))) (tCons (tTup (tCons (tC (.str "hear")) (tCons (tC (.int 0)) tNil))) tNil))) tNil)))))
abbrev n_law_brought : List Str := ["_law_lots", "_law_heard", "_law_found", "_law_one", "_law_later", "_law_row", "_law_worth"]
abbrev p_law_brought : List Str := ["_law_lots", "_law_heard"]
theorem sc_law_brought : FnScope n_law_brought p_law_brought (defScope s_law_brought) := ⟨rfl, rfl, rfl, by decide +kernel, rfl, by decide +kernel, by decide +kernel⟩
def t_law_brought (K : PySem.W.Frag) (w : World) : TS :=
    (tSeq (tAsg (tLst (tCons (tTup tNil) tNil)) (gName 2))
    (tSeq (tFor (iList K (tVar 1)) (gName 3) (tSeq (tAsg (tLst tNil) (gName 4))
    (tSeq (tFor (iList K (tVar 2)) (gName 5) (tAsg (tOp rCat (tVar 4) (tLc (iTup K (tOp (rIxT K) (tVar 0) (tVar 3))) (gName 6) tYes (tOp (rCatA K) (tVar 5) (tTup (tCons (tVar 6) tNil))) [6])) (gName 4)))
    (tAsg (tVar 4) (gName 2)))))
    (tRet (tVar 2))))
abbrev n_law_lots_next : List Str := ["_law_net_here", "_law_lots", "_law_found", "_law_house", "_law_some", "_law_row"]
abbrev p_law_lots_next : List Str := ["_law_net_here", "_law_lots"]
theorem sc_law_lots_next : FnScope n_law_lots_next p_law_lots_next (defScope s_law_lots_next) := ⟨rfl, rfl, rfl, by decide +kernel, rfl, by decide +kernel, by decide +kernel⟩
def t_law_lots_next (K : PySem.W.Frag) (w : World) (q_law_wants : Sp) (q_law_brought : Sp) (q_law_branches : Sp) : TS :=
    (tSeq (tAsg (tLst tNil) (gName 2))
    (tSeq (tFor (iRng1 (tCons (tCB (rLenQ K) (tCons (tOp (rIxT K) (tVar 0) (tC (.int 0))) tNil)) tNil)) (gName 3) (tSeq (tAsg (tLc (iList K (tCall q_law_brought [] E0 (tCons (tVar 1) (tCons (tCall q_law_branches [] E0 (tCons (tOp (rIxT K) (tOp (rIxT K) (tVar 0) (tC (.int 1))) (tVar 3)) tNil)) tNil)))) (gName 5) tYes (tCall q_law_wants [] E0 (tCons (tVar 0) (tCons (tVar 3) (tCons (tVar 5) tNil)))) [5]) (gName 4))
    (tDrop (tBM K "list" rAppend (tVar 2) (tCons (tCB (rTupQ K) (tCons (tCB (rSortSet w) (tCons (tCB (rSetI K w) (tCons (tVar 4) tNil)) tNil)) tNil)) tNil)))))
    (tRet (tCB (rTupQ K) (tCons (tVar 2) tNil)))))
abbrev n_law_lot_rounds : List Str := ["_law_net_here", "_law_found", "_law_turn_here", "_law_later", "_law_top"]
abbrev p_law_lot_rounds : List Str := ["_law_net_here"]
theorem sc_law_lot_rounds : FnScope n_law_lot_rounds p_law_lot_rounds (defScope s_law_lot_rounds) := ⟨rfl, rfl, rfl, by decide +kernel, rfl, by decide +kernel, by decide +kernel⟩
def t_law_lot_rounds (K : PySem.W.Frag) (w : World) (q_law_lots_next : Sp) : TS :=
    (tSeq (tAsg (tLst (tCons (tCB (rTupQ K) (tCons (tLc (iTup K (tOp (rIxT K) (tVar 0) (tC (.int 0)))) (gName 4) tYes (tTupRg (tRg1 (tOp qAdd (tVar 4) (tC (.int 1))))) [4]) tNil)) tNil)) (gName 1))
    (tSeq (tFor (iRng1 (tCons (tOp qAdd (tCB (rSumT K) (tCons (tOp (rIxT K) (tVar 0) (tC (.int 0))) tNil)) (tC (.int 1))) tNil)) (gName 2) (tSeq (tAsg (tCall q_law_lots_next [] E0 (tCons (tVar 0) (tCons (tOp (rIxL K) (tVar 1) (tUn (rU fun i => .int (-i)) (tC (.int 1)))) tNil))) (gName 3))
    (tSeq (tIfS (tTest (tOp (rEqD K) (tVar 3) (tOp (rIxL K) (tVar 1) (tUn (rU fun i => .int (-i)) (tC (.int 1)))))) (tRet (tVar 1)) tNext)
    (tDrop (tBM K "list" rAppend (tVar 1) (tCons (tVar 3) tNil))))))
    (tRet (tVar 1))))
abbrev n_law_doubled : List Str := ["_law_net_here", "_law_ends", "_law_lows", "_law_highs", "_law_house", "_law_first", "_law_second", "_law_word", "_law_one"]
abbrev p_law_doubled : List Str := ["_law_net_here", "_law_ends"]
theorem sc_law_doubled : FnScope n_law_doubled p_law_doubled (defScope s_law_doubled) := ⟨rfl, rfl, rfl, by decide +kernel, rfl, by decide +kernel, by decide +kernel⟩
def t_law_doubled (K : PySem.W.Frag) (w : World) (q_law_ways : Sp) (q_law_branches : Sp) (q_law_wants : Sp) : TS :=
    (tSeq (tPar 2 3 (tCons (tLst tNil) (tCons (tLst tNil) tNil)))
    (tSeq (tFor (iRng1 (tCons (tCB (rLenQ K) (tCons (tOp (rIxT K) (tVar 0) (tC (.int 0))) tNil)) tNil)) (gName 4) (tSeq (tPar 5 6 (tCons (tLst tNil) (tCons (tLst tNil) tNil)))
    (tSeq (tFor (iZip K (tCons (tCall q_law_ways [] E0 (tCons (tVar 0) (tCons (tVar 4) tNil))) (tCons (tCall q_law_branches [] E0 (tCons (tOp (rIxT K) (tOp (rIxT K) (tVar 0) (tC (.int 1))) (tVar 4)) tNil)) tNil))) (gTup K 2 (gCons (gName 7) (gCons (gName 8) gNil))) (tSeq (tDrop (tBM K "list" rAppend (tVar 5) (tCons (tIf (tTest (tOp rEq (tVar 7) (tC (.str "falls")))) (tOp (rIxT K) (tOp (rIxT K) (tVar 1) (tC (.int 1))) (tVar 8)) (tOp (rIxT K) (tOp (rIxT K) (tVar 1) (tC (.int 0))) (tVar 8))) tNil)))
    (tDrop (tBM K "list" rAppend (tVar 6) (tCons (tIf (tTest (tOp rEq (tVar 7) (tC (.str "falls")))) (tOp (rIxT K) (tOp (rIxT K) (tVar 1) (tC (.int 0))) (tVar 8)) (tOp (rIxT K) (tOp (rIxT K) (tVar 1) (tC (.int 1))) (tVar 8))) tNil)))))
    (tSeq (tDrop (tBM K "list" rAppend (tVar 2) (tCons (tCall q_law_wants [] E0 (tCons (tVar 0) (tCons (tVar 4) (tCons (tVar 5) tNil)))) tNil)))
    (tDrop (tBM K "list" rAppend (tVar 3) (tCons (tCall q_law_wants [] E0 (tCons (tVar 0) (tCons (tVar 4) (tCons (tVar 6) tNil)))) tNil)))))))
    (tRet (tTup (tCons (tCB (rTupQ K) (tCons (tVar 2) tNil)) (tCons (tCB (rTupQ K) (tCons (tVar 3) tNil)) tNil))))))
abbrev n_law_one_way : List Str := ["_law_net_here", "_law_house"]
abbrev p_law_one_way : List Str := ["_law_net_here"]
theorem sc_law_one_way : FnScope n_law_one_way p_law_one_way (defScope s_law_one_way) := ⟨rfl, rfl, rfl, by decide +kernel, rfl, by decide +kernel, by decide +kernel⟩
def t_law_one_way (K : PySem.W.Frag) (w : World) (q_law_ways : Sp) : TS :=
    (tSeq (tFor (iRng1 (tCons (tCB (rLenQ K) (tCons (tOp (rIxT K) (tVar 0) (tC (.int 0))) tNil)) tNil)) (gName 1) (tIfS (tTest (tOp (rIn K false) (tC (.str "both")) (tCall q_law_ways [] E0 (tCons (tVar 0) (tCons (tVar 1) tNil))))) (tRet (tC (.bl false))) tNext))
    (tRet (tC (.bl true))))
abbrev n_law_right : List Str := ["_law_net_here", "_law_due", "_law_rounds", "_law_house", "_law_some", "_law_ends", "_law_lots", "_law_at", "_law_lot"]
abbrev p_law_right : List Str := ["_law_net_here"]
theorem sc_law_right : FnScope n_law_right p_law_right (defScope s_law_right) := ⟨rfl, rfl, rfl, by decide +kernel, rfl, by decide +kernel, by decide +kernel⟩
def t_law_right (K : PySem.W.Frag) (w : World) (q_law_lot_rounds : Sp) (q_law_one_way : Sp) (q_law_doubled : Sp) (q_first_lots : Sp) (q_lot_rounds : Sp) (q_last_lots : Sp) (q_known_rounds : Sp) (q_is_sure : Sp) : TS :=
    (tSeq (tAsg (tCall q_law_lot_rounds [] E0 (tCons (tVar 0) tNil)) (gName 1))
    (tSeq (tIfS (tOr (tTest (tOp rNe (tCB (rRepr K) (tCons (tCallK0 q_first_lots (fun zs => zs) E0 (tCons (tVar 0) tNil)) tNil)) (tCB (rRepr K) (tCons (tOp (rIxL K) (tVar 1) (tC (.int 0))) tNil)))) (tOr (tTest (tOp rNe (tCB (rRepr K) (tCons (tCall q_lot_rounds [] E0 (tCons (tVar 0) tNil)) tNil)) (tCB (rRepr K) (tCons (tCB (rTupQ K) (tCons (tVar 1) tNil)) tNil)))) (tTest (tOp rNe (tCB (rRepr K) (tCons (tCallK0 q_lot_rounds (fun zs => zs) E0 (tCons (tVar 0) tNil)) tNil)) (tCB (rRepr K) (tCons (tCB (rTupQ K) (tCons (tVar 1) tNil)) tNil)))))) (tRet (tC (.bl false))) tNext)
    (tSeq (tIfS (tOr (tTest (tOp rNe (tCB (rRepr K) (tCons (tCallK0 q_last_lots (fun zs => zs) E0 (tCons (tVar 0) tNil)) tNil)) (tCB (rRepr K) (tCons (tOp (rIxL K) (tVar 1) (tUn (rU fun i => .int (-i)) (tC (.int 1)))) tNil)))) (tTest (tOp rNe (tCB (rRepr K) (tCons (tCall q_last_lots [] E0 (tCons (tVar 0) tNil)) tNil)) (tCB (rRepr K) (tCons (tOp (rIxL K) (tVar 1) (tUn (rU fun i => .int (-i)) (tC (.int 1)))) tNil))))) (tRet (tC (.bl false))) tNext)
    (tSeq (tAsg (tLst tNil) (gName 2))
    (tSeq (tFor (iRng1 (tCons (tCB (rLenQ K) (tCons (tOp (rIxT K) (tVar 0) (tC (.int 0))) tNil)) tNil)) (gName 3) (tSeq (tAsg (tLc (iRng1 (tCons (tCB (rLenQ K) (tCons (tVar 1) tNil)) tNil)) (gName 7) (tTest (tOp rEq (tCB (rLenQ K) (tCons (tOp (rIxT K) (tOp (rIxL K) (tVar 1) (tVar 7)) (tVar 3)) tNil)) (tC (.int 1)))) (tVar 7) [7]) (gName 4))
    (tDrop (tBM K "list" rAppend (tVar 2) (tCons (tIf (tTest (tOp (rNeD K) (tVar 4) (tLst tNil))) (tOp (rIxL K) (tVar 4) (tC (.int 0))) (tC .non)) tNil)))))
    (tSeq (tIfS (tOr (tTest (tOp rNe (tCB (rRepr K) (tCons (tCallK0 q_known_rounds (fun zs => zs) E0 (tCons (tVar 0) tNil)) tNil)) (tCB (rRepr K) (tCons (tCB (rTupQ K) (tCons (tVar 2) tNil)) tNil)))) (tTest (tOp rNe (tCB (rRepr K) (tCons (tCallK0 q_is_sure (fun zs => zs) E0 (tCons (tVar 0) tNil)) tNil)) (tCB (rRepr K) (tCons (tOp (rIn K true) (tC .non) (tVar 2)) tNil))))) (tRet (tC (.bl false))) tNext)
    (tSeq (tIfS (tB (tCall q_law_one_way [] E0 (tCons (tVar 0) tNil))) (tSeq (tAsg (tTup (tCons (tOp (rRepU K) (tTup (tCons (tC (.int 0)) tNil)) (tCB (rLenQ K) (tCons (tOp (rIxT K) (tVar 0) (tC (.int 0))) tNil))) (tCons (tOp (rIxT K) (tVar 0) (tC (.int 0))) tNil))) (gName 5))
    (tFor (iList K (tVar 1)) (gName 6) (tSeq (tIfS (tTest (tOp (rNeD K) (tVar 5) (tTup (tCons (tCB (rTupQ K) (tCons (tLc (iTup K (tVar 6)) (gName 8) tYes (tOp (rIxT K) (tVar 8) (tC (.int 0))) [8]) tNil)) (tCons (tCB (rTupQ K) (tCons (tLc (iTup K (tVar 6)) (gName 8) tYes (tOp (rIxT K) (tVar 8) (tUn (rU fun i => .int (-i)) (tC (.int 1)))) [8]) tNil)) tNil))))) (tRet (tC (.bl false))) tNext)
    (tAsg (tCall q_law_doubled [] E0 (tCons (tVar 0) (tCons (tVar 5) tNil))) (gName 5))))) tNext)
    (tRet (tAndV (tOp rEq (tCB (rRepr K) (tCons (tCall q_known_rounds [] E0 (tCons (tVar 0) tNil)) tNil)) (tCB (rRepr K) (tCons (tCB (rTupQ K) (tCons (tVar 2) tNil)) tNil))) (tOp rEq (tCB (rRepr K) (tCons (tCall q_is_sure [] E0 (tCons (tVar 0) tNil)) tNil)) (tCB (rRepr K) (tCons (tOp (rIn K true) (tC .non) (tVar 2)) tNil))))))))))))
abbrev n_law : List Str := ["_law_script", "_law_deal", "_law_turn_here", "_law_net_here", "_law_lots", "_law_top", "_law_lot", "_law_due", "_law_many", "_law_number", "_law_branch", "_law_great", "_law_worth"]
abbrev p_law : List Str := ["_law_script"]
theorem sc_law : FnScope n_law p_law (defScope s_law) := ⟨rfl, rfl, rfl, by decide +kernel, rfl, by decide +kernel, by decide +kernel⟩
def t_law (K : PySem.W.Frag) (w : World) (q_law_draw : Sp) (q_law_small_net : Sp) (q_law_lots_next : Sp) (q_law_refused : Sp) (q_law_right : Sp) (q_law_any : Sp) (q_lots_next : Sp) : TS :=
    (tSeq (tAsg (tCall q_law_draw [] E0 (tCons (tVar 0) (tCons (tC (.int 24)) tNil))) (gName 1))
    (tSeq (tFor (iRng1 (tCons (tC (.int 3)) tNil)) (gName 2) (tSeq (tAsg (tCall q_law_small_net [] E0 (tCons (tVar 1) (tCons (tC (.int 3)) (tCons (tC (.int 3)) (tCons (tOp qLt (tVar 2) (tC (.int 2))) tNil))))) (gName 3))
    (tSeq (tIfS (tNot (tB (tCall q_law_right [] E0 (tCons (tVar 3) tNil)))) (tRet (tC (.bl false))) tNext)
    (tSeq (tAsg (tLst tNil) (gName 4))
    (tSeq (tFor (iTup K (tOp (rIxT K) (tVar 3) (tC (.int 0)))) (gName 5) (tSeq (tAsg (tLc (iRng1 (tCons (tOp qAdd (tVar 5) (tC (.int 1))) tNil)) (gName 12) (tTest (tOp rEq (tCall q_law_any [] E0 (tCons (tVar 1) (tCons (tC (.int 2)) tNil))) (tC (.int 0)))) (tVar 12) [12]) (gName 6))
    (tDrop (tBM K "list" rAppend (tVar 4) (tCons (tIf (tTest (tOp (rNeD K) (tVar 6) (tLst tNil))) (tCB (rTupQ K) (tCons (tVar 6) tNil)) (tTup (tCons (tCall q_law_any [] E0 (tCons (tVar 1) (tCons (tOp qAdd (tVar 5) (tC (.int 1))) tNil))) tNil))) tNil)))))
    (tSeq (tAsg (tCall q_law_lots_next [] E0 (tCons (tVar 3) (tCons (tCB (rTupQ K) (tCons (tVar 4) tNil)) tNil))) (gName 7))
    (tIfS (tOr (tTest (tOp rNe (tCB (rRepr K) (tCons (tCall q_lots_next [] E0 (tCons (tVar 3) (tCons (tCB (rTupQ K) (tCons (tVar 4) tNil)) tNil))) tNil)) (tCB (rRepr K) (tCons (tVar 7) tNil)))) (tTest (tOp rNe (tCB (rRepr K) (tCons (tCallK0 q_lots_next List.reverse E0 (tCons (tCB (rTupQ K) (tCons (tVar 4) tNil)) (tCons (tVar 3) tNil))) tNil)) (tCB (rRepr K) (tCons (tVar 7) tNil))))) (tRet (tC (.bl false))) tNext)))))))
    (tSeq (tPar 5 8 (tCons (tOp qAdd (tC (.int 7)) (tCall q_law_any [] E0 (tCons (tVar 1) (tCons (tC (.int 3)) tNil)))) (tCons (tOp qAdd (tC (.int 5)) (tCall q_law_any [] E0 (tCons (tVar 1) (tCons (tC (.int 4)) tNil)))) tNil)))
    (tSeq (tAsg (tC (.int 1)) (gName 9))
    (tSeq (tFor (iRng1 (tCons (tVar 8) tNil)) (gName 10) (tAsg (tOp qMul (tVar 9) (tOp qAdd (tVar 5) (tC (.int 1)))) (gName 9)))
    (tSeq (tAsg (tTup (tCons (tTup (tCons (tC (.int 1)) (tCons (tVar 5) (tCons (tC (.int 20)) tNil)))) (tCons (tTup (tCons (tTup (tCons (tC (.str "is")) (tCons (tC (.int 1)) tNil))) (tCons (tTup (tCons (tC (.str "least")) (tCons (tCB (rTupQ K) (tCons (tLc (iRng1 (tCons (tVar 8) tNil)) (gName 10) tYes (tTup (tCons (tC (.str "hear")) (tCons (tC (.int 1)) tNil))) [10]) tNil)) tNil))) (tCons (tTup (tCons (tC (.str "add")) (tCons (tTup (tCons (tTup (tCons (tC (.str "hear")) (tCons (tC (.int 2)) tNil))) (tCons (tTup (tCons (tC (.str "hear")) (tCons (tC (.int 2)) tNil))) (tCons (tTup (tCons (tC (.str "hear")) (tCons (tC (.int 2)) tNil))) tNil)))) tNil))) tNil)))) tNil))) (gName 11))
    (tRet (tOp (rEqD K) (tCall q_law_refused [] E0 (tCons (tVar 11) tNil)) (tOp rRep (tLst (tCons (tVar 9) tNil)) (tC (.int 5)))))))))))
end K24

set_option Elab.async false
set_option linter.all false
set_option maxRecDepth 100000
/-! K24P: the defs' derivations (printed by gen2.py). -/
namespace K24
open PySem PySem.Spec PyProof.Rows L2
/-- the built-in names of the text are the built-ins, its constants stand -/
structure Tops (mg : Str → Option Value) : Prop where
  len : mg "len" = none
  isinstance : mg "isinstance" = none
  tuple_ : mg "tuple" = none
  all : mg "all" = none
  int_ : mg "int" = none
  bool_ : mg "bool" = none
  str_ : mg "str" = none
  min : mg "min" = none
  max : mg "max" = none
  sum : mg "sum" = none
  sorted : mg "sorted" = none
  range : mg "range" = none
  set_ : mg "set" = none
  enumerate : mg "enumerate" = none
  abs : mg "abs" = none
  zip : mg "zip" = none
  list_ : mg "list" = none
  repr : mg "repr" = none
  MOST_rules : ∃ t, mg "MOST_rules" = some (.int 1001 t)
  MOST_ROW : ∃ t, mg "MOST_ROW" = some (.int 64 t)
  MOST_lots : ∃ t, mg "MOST_lots" = some (.int 4096 t)
theorem pe_star1 {X : Cx} {a b : Expr} {p pos : Pos} {kk} {ta tb : TE} (ha : PE X a ta) (hb : PE X b tb) (hs : starEach (.Starred a p :: [b]) X.env = (true, eval a X.env) :: starEach [b] X.env := by rfl) (hs2 : starEach [b] X.env = (false, eval b X.env) :: starEach [] X.env := by rfl) : PE X (.Tuple [.Starred a p, b] kk pos) (tStar1 X.K ta tb) := pe_tup (StX.pa_star ha (pa_cons hb pa_nil hs2) hs)
theorem vals_rev {zs : List V} {ws : List Value} (h : Vals zs ws) : Vals zs.reverse ws.reverse := by
  induction h with
  | nil => exact .nil
  | cons a r ih =>
    rw [List.reverse_cons, List.reverse_cons]
    exact ih.append (.cons a .nil)

theorem pd_is_integer {P : Program} {w : World} {K : PySem.W.Frag} {mg : Str → Option Value} {base : Heap} {k : Nat} {f : Addr} {cdv : Value} {A : Around} {outer : List Env} {s : Shared} {H : Hp} {E : XK} (T : Tops mg)
    (hr : Room k (A.deeper (envOfC "is_integer" (defScope s_is_integer) s.heap.objs.size f cdv))) : PSs (cxOf CX0 P w K mg base n_is_integer "is_integer" (defScope s_is_integer) f cdv A outer s H E).nox (defBody s_is_integer) (t_is_integer K w) :=
    (pss_one (ps_ret (pe_and (pe_callB call_isi (by rfl) T.isinstance (by decide +kernel) (pa_cons (pv 0) (pa_cons (pe_bltn (v := .ty "int") (by rfl) T.int_ (by decide +kernel) rfl) pa_nil))) (pe_one (pe_not (pe_callB call_isi (by rfl) T.isinstance (by decide +kernel) (pa_cons (pv 0) (pa_cons (pe_bltn (v := .ty "bool") (by rfl) T.bool_ (by decide +kernel) rfl) pa_nil))))))))
theorem pd_is_number {P : Program} {w : World} {K : PySem.W.Frag} {mg : Str → Option Value} {base : Heap} {k : Nat} {f : Addr} {cdv : Value} {A : Around} {outer : List Env} {s : Shared} {H : Hp} {E : XK} (T : Tops mg) {q_is_integer : Sp} (c_is_integer : Cal P w K mg base CX0 k "is_integer" p_is_integer q_is_integer)
    (hr : Room k (A.deeper (envOfC "is_number" (defScope s_is_number) s.heap.objs.size f cdv))) : PSs (cxOf CX0 P w K mg base n_is_number "is_number" (defScope s_is_number) f cdv A outer s H E).nox (defBody s_is_number) (t_is_number K w q_is_integer) :=
    (pss_one (ps_ret (pe_and (pe_c c_is_integer hr (by rfl) L2.pass0 (pa_cons (pv 0) pa_nil)) (pe_one (pe_cmpR op_ge (pv 0) pe_int (nomark _))))))
theorem pd_is_index {P : Program} {w : World} {K : PySem.W.Frag} {mg : Str → Option Value} {base : Heap} {k : Nat} {f : Addr} {cdv : Value} {A : Around} {outer : List Env} {s : Shared} {H : Hp} {E : XK} (T : Tops mg) {q_is_number : Sp} (c_is_number : Cal P w K mg base CX0 k "is_number" p_is_number q_is_number)
    (hr : Room k (A.deeper (envOfC "is_index" (defScope s_is_index) s.heap.objs.size f cdv))) : PSs (cxOf CX0 P w K mg base n_is_index "is_index" (defScope s_is_index) f cdv A outer s H E).nox (defBody s_is_index) (t_is_index K w q_is_number) :=
    (pss_one (ps_ret (pe_and (pe_c c_is_number hr (by rfl) L2.pass0 (pa_cons (pv 0) pa_nil)) (pe_one (pe_cmpR op_lt (pv 0) (pv 1) (nomark _))))))
theorem pd_is_worth {P : Program} {w : World} {K : PySem.W.Frag} {mg : Str → Option Value} {base : Heap} {k : Nat} {f : Addr} {cdv : Value} {A : Around} {outer : List Env} {s : Shared} {H : Hp} {E : XK} (T : Tops mg) {q_is_index : Sp} (c_is_index : Cal P w K mg base CX0 k "is_index" p_is_index q_is_index)
    (hr : Room k (A.deeper (envOfC "is_worth" (defScope s_is_worth) s.heap.objs.size f cdv))) : PSs (cxOf CX0 P w K mg base n_is_worth "is_worth" (defScope s_is_worth) f cdv A outer s H E).nox (defBody s_is_worth) (t_is_worth K w q_is_index) :=
    (pss_one (ps_ret (pe_c c_is_index hr (by rfl) L2.pass0 (pa_cons (pv 0) (pa_cons (pe_gi (by rfl) T.MOST_rules) pa_nil)))))
theorem pd_is_head {P : Program} {w : World} {K : PySem.W.Frag} {mg : Str → Option Value} {base : Heap} {k : Nat} {f : Addr} {cdv : Value} {A : Around} {outer : List Env} {s : Shared} {H : Hp} {E : XK} (T : Tops mg) {q_is_worth : Sp} (c_is_worth : Cal P w K mg base CX0 k "is_worth" p_is_worth q_is_worth)
    (hr : Room k (A.deeper (envOfC "is_head" (defScope s_is_head) s.heap.objs.size f cdv))) : PSs (cxOf CX0 P w K mg base n_is_head "is_head" (defScope s_is_head) f cdv A outer s H E).nox (defBody s_is_head) (t_is_head K w q_is_worth) :=
    (pss_cons (ps_if (pt_cmpR op_eq (pe_ix ix_tup (pv 0) pe_int (fun _ _ => rfl)) pe_str (nomark _)) (pss_one (ps_ret (pe_and (pe_cmpR op_eq (pe_callB cq_len (by rfl) T.len (by decide +kernel) (pa_cons (pv 0) pa_nil)) pe_int (nomark _)) (pe_one (pe_c c_is_worth hr (by rfl) L2.pass0 (pa_cons (pe_ix ix_tup (pv 0) pe_int (fun _ _ => rfl)) pa_nil)))))) pss_nil)
    (pss_cons (ps_if (pt_cmpR op_eq (pe_ix ix_tup (pv 0) pe_int (fun _ _ => rfl)) pe_str (nomark _)) (pss_one (ps_ret (pe_and (pe_cmpR op_eq (pe_callB cq_len (by rfl) T.len (by decide +kernel) (pa_cons (pv 0) pa_nil)) pe_int (nomark _)) (pe_and (pe_c c_is_worth hr (by rfl) L2.pass0 (pa_cons (pe_ix ix_tup (pv 0) pe_int (fun _ _ => rfl)) pa_nil)) (pe_one (pe_cmpR op_gt (pe_ix ix_tup (pv 0) pe_int (fun _ _ => rfl)) pe_int (nomark _))))))) pss_nil)
    (pss_cons (ps_if (pt_cmpR op_eq (pe_ix ix_tup (pv 0) pe_int (fun _ _ => rfl)) pe_str (nomark _)) (pss_one (ps_ret (pe_and (pe_cmpR op_eq (pe_callB cq_len (by rfl) T.len (by decide +kernel) (pa_cons (pv 0) pa_nil)) pe_int (nomark _)) (pe_and (pe_c c_is_worth hr (by rfl) L2.pass0 (pa_cons (pe_ix ix_tup (pv 0) pe_int (fun _ _ => rfl)) pa_nil)) (pe_and (pe_c c_is_worth hr (by rfl) L2.pass0 (pa_cons (pe_ix ix_tup (pv 0) pe_int (fun _ _ => rfl)) pa_nil)) (pe_one (pe_cmpR op_le (pe_ix ix_tup (pv 0) pe_int (fun _ _ => rfl)) (pe_ix ix_tup (pv 0) pe_int (fun _ _ => rfl)) (nomark _)))))))) pss_nil)
    (pss_cons (ps_if (pt_cmpR op_eq (pe_ix ix_tup (pv 0) pe_int (fun _ _ => rfl)) pe_str (nomark _)) (pss_one (ps_ret (pe_and (pe_cmpR op_eq (pe_callB cq_len (by rfl) T.len (by decide +kernel) (pa_cons (pv 0) pa_nil)) pe_int (nomark _)) (pe_one (pe_c c_is_worth hr (by rfl) L2.pass0 (pa_cons (pe_ix ix_tup (pv 0) pe_int (fun _ _ => rfl)) pa_nil)))))) pss_nil)
    (pss_cons (ps_if (pt_cmpR op_eq (pe_ix ix_tup (pv 0) pe_int (fun _ _ => rfl)) pe_str (nomark _)) (pss_one (ps_ret (pe_and (pe_cmpR op_eq (pe_callB cq_len (by rfl) T.len (by decide +kernel) (pa_cons (pv 0) pa_nil)) pe_int (nomark _)) (pe_and (pe_c c_is_worth hr (by rfl) L2.pass0 (pa_cons (pe_ix ix_tup (pv 0) pe_int (fun _ _ => rfl)) pa_nil)) (pe_and (pe_c c_is_worth hr (by rfl) L2.pass0 (pa_cons (pe_ix ix_tup (pv 0) pe_int (fun _ _ => rfl)) pa_nil)) (pe_one (pe_c c_is_worth hr (by rfl) L2.pass0 (pa_cons (pe_ix ix_tup (pv 0) pe_int (fun _ _ => rfl)) pa_nil)))))))) pss_nil)
    (pss_cons (ps_if (PW.pt (pw_or (pt_cmpR op_ne (pe_ix ix_tup (pv 0) pe_int (fun _ _ => rfl)) pe_str (nomark _)) (pw_or (pt_cmpR op_ne (pe_callB cq_len (by rfl) T.len (by decide +kernel) (pa_cons (pv 0) pa_nil)) pe_int (nomark _)) (pw_or1 (pt_not (pt_val (pe_callB call_isi (by rfl) T.isinstance (by decide +kernel) (pa_cons (pe_ix ix_tup (pv 0) pe_int (fun _ _ => rfl)) (pa_cons (pe_bltn (v := .ty "tuple") (by rfl) T.tuple_ (by decide +kernel) rfl) pa_nil))))))))) (pss_one (ps_ret pe_bl)) pss_nil)
    (pss_one (ps_ret (pe_and (pe_chain op_le op_le pe_int (pe_callB cq_len (by rfl) T.len (by decide +kernel) (pa_cons (pe_ix ix_tup (pv 0) pe_int (fun _ _ => rfl)) pa_nil)) (pe_gi (by rfl) T.MOST_ROW)) (pe_one (pe_callB (cr_all rfl) (by rfl) T.all (by decide +kernel) (pa_cons (pe_lc (own := [("one", 1)]) rfl sc_is_head.nd (pi_tup (pe_ix ix_tup (pv 0) pe_int (fun _ _ => rfl))) (blkOk_by (by rfl)) (fun _ _ _ _ _ => (pg_name (i := 1) sc_is_head.nd rfl (Or.inl rfl))) (fun _ _ _ _ _ => pts_nil) (fun _ _ _ _ _ => (pe_c c_is_worth hr (by rfl) L2.pass0 (pa_cons (pv 1) pa_nil)))) pa_nil))))))))))))
theorem pd_parts_of {P : Program} {w : World} {K : PySem.W.Frag} {mg : Str → Option Value} {base : Heap} {k : Nat} {f : Addr} {cdv : Value} {A : Around} {outer : List Env} {s : Shared} {H : Hp} {E : XK} (T : Tops mg) {q_is_head : Sp} {q_is_worth : Sp} (c_is_head : Cal P w K mg base CX0 k "is_head" p_is_head q_is_head) (c_is_worth : Cal P w K mg base CX0 k "is_worth" p_is_worth q_is_worth)
    (hr : Room k (A.deeper (envOfC "parts_of" (defScope s_parts_of) s.heap.objs.size f cdv))) : PSs (cxOf CX0 P w K mg base n_parts_of "parts_of" (defScope s_parts_of) f cdv A outer s H E).nox (defBody s_parts_of) (t_parts_of K w q_is_head q_is_worth) :=
    (pss_cons (ps_if (PW.pt (pw_or (pt_not (pt_val (pe_callB call_isi (by rfl) T.isinstance (by decide +kernel) (pa_cons (pv 0) (pa_cons (pe_bltn (v := .ty "tuple") (by rfl) T.tuple_ (by decide +kernel) rfl) pa_nil))))) (pw_or (pt_cmpR op_lt (pe_callB cq_len (by rfl) T.len (by decide +kernel) (pa_cons (pv 0) pa_nil)) pe_int (nomark _)) (pw_or1 (pt_not (pt_val (pe_callB call_isi (by rfl) T.isinstance (by decide +kernel) (pa_cons (pe_ix ix_tup (pv 0) pe_int (fun _ _ => rfl)) (pa_cons (pe_bltn (v := .ty "str") (by rfl) T.str_ (by decide +kernel) rfl) pa_nil))))))))) (pss_one (ps_ret pe_non)) pss_nil)
    (pss_cons (ps_if (pt_cmpR op_eq (pe_ix ix_tup (pv 0) pe_int (fun _ _ => rfl)) pe_str (nomark _)) (pss_one (ps_ret (pe_ifExp (PW.pt (pw_and (pt_cmpR op_eq (pe_callB cq_len (by rfl) T.len (by decide +kernel) (pa_cons (pv 0) pa_nil)) pe_int (nomark _)) (pw_and1 (pt_val (pe_c c_is_worth hr (by rfl) L2.pass0 (pa_cons (pe_ix ix_tup (pv 0) pe_int (fun _ _ => rfl)) pa_nil)))))) (pe_tup pa_nil) pe_non))) pss_nil)
    (pss_cons (ps_if (pt_cmpR op_eq (pe_ix ix_tup (pv 0) pe_int (fun _ _ => rfl)) pe_str (nomark _)) (pss_one (ps_ret (pe_ifExp (PW.pt (pw_and (pt_cmpR op_eq (pe_callB cq_len (by rfl) T.len (by decide +kernel) (pa_cons (pv 0) pa_nil)) pe_int (nomark _)) (pw_and1 (pt_val (pe_c c_is_worth hr (by rfl) L2.pass0 (pa_cons (pe_ix ix_tup (pv 0) pe_int (fun _ _ => rfl)) pa_nil)))))) (pe_tup pa_nil) pe_non))) pss_nil)
    (pss_cons (ps_if (pt_cmpR op_in_seq (pe_ix ix_tup (pv 0) pe_int (fun _ _ => rfl)) (pe_tup (pa_cons pe_str (pa_cons pe_str (pa_cons pe_str pa_nil)))) (by rfl)) (pss_one (ps_ret (pe_ifExp (PW.pt (pw_and (pt_cmpR op_eq (pe_callB cq_len (by rfl) T.len (by decide +kernel) (pa_cons (pv 0) pa_nil)) pe_int (nomark _)) (pw_and (pt_val (pe_callB call_isi (by rfl) T.isinstance (by decide +kernel) (pa_cons (pe_ix ix_tup (pv 0) pe_int (fun _ _ => rfl)) (pa_cons (pe_bltn (v := .ty "tuple") (by rfl) T.tuple_ (by decide +kernel) rfl) pa_nil)))) (pw_and1 (pt_cmpR op_gt (pe_callB cq_len (by rfl) T.len (by decide +kernel) (pa_cons (pe_ix ix_tup (pv 0) pe_int (fun _ _ => rfl)) pa_nil)) pe_int (nomark _)))))) (pe_ix ix_tup (pv 0) pe_int (fun _ _ => rfl)) pe_non))) pss_nil)
    (pss_cons (ps_if (pt_cmpR op_eq (pe_ix ix_tup (pv 0) pe_int (fun _ _ => rfl)) pe_str (nomark _)) (pss_one (ps_ret (pe_ifExp (pt_cmpR op_eq (pe_callB cq_len (by rfl) T.len (by decide +kernel) (pa_cons (pv 0) pa_nil)) pe_int (nomark _)) (pe_slice sl_tupA (pv 0) (po_some pe_int) po_none) pe_non))) pss_nil)
    (pss_one (ps_ret (pe_ifExp (pt_val (pe_c c_is_head hr (by rfl) L2.pass0 (pa_cons (pv 0) pa_nil))) (pe_slice sl_tupA (pv 0) (po_some (pe_un un_neg pe_int)) po_none) pe_non))))))))
theorem pd_branches {P : Program} {w : World} {K : PySem.W.Frag} {mg : Str → Option Value} {base : Heap} {k : Nat} {f : Addr} {cdv : Value} {A : Around} {outer : List Env} {s : Shared} {H : Hp} {E : XK} (T : Tops mg) {q_parts_of : Sp} {q_branches : Sp} (c_parts_of : Cal P w K mg base CX0 k "parts_of" p_parts_of q_parts_of) (c_branches : Cal P w K mg base CX0 k "branches" p_branches q_branches)
    (hr : Room k (A.deeper (envOfC "branches" (defScope s_branches) s.heap.objs.size f cdv))) : PSs (cxOf CX0 P w K mg base n_branches "branches" (defScope s_branches) f cdv A outer s H E).nox (defBody s_branches) (t_branches K w q_parts_of q_branches) :=
    (pss_cons (ps_if (pt_cmpR op_eq (pe_ix ix_tup (pv 0) pe_int (fun _ _ => rfl)) pe_str (nomark _)) (pss_one (ps_ret (pe_tup (pa_cons (pe_ix ix_tup (pv 0) pe_int (fun _ _ => rfl)) pa_nil)))) pss_nil)
    (pss_cons (ps_set (i := 1) sc_branches.nd rfl (Or.inl rfl) (pe_lst pa_nil))
    (pss_cons (ps_for PassesOwn.never rfl (pi_tup (pe_c c_parts_of hr (by rfl) L2.pass0 (pa_cons (pv 0) pa_nil))) (pg_name (i := 2) sc_branches.nd rfl (Or.inl rfl)) (pss_one (ps_expr (pe_bm PySem.F.plainAttrs_list PySem.F.slot_list_extend PySem.F.type_list_extend mt_extendT (pv 1) (pa_cons (pe_c c_branches hr (by rfl) L2.pass0 (pa_cons (pv 2) pa_nil)) pa_nil)))))
    (pss_one (ps_ret (pe_callTy cq_tup (by rfl) T.tuple_ (by decide +kernel) (pa_cons (pv 1) pa_nil)))))))
theorem pd_made {P : Program} {w : World} {K : PySem.W.Frag} {mg : Str → Option Value} {base : Heap} {k : Nat} {f : Addr} {cdv : Value} {A : Around} {outer : List Env} {s : Shared} {H : Hp} {E : XK} (T : Tops mg)
    (hr : Room k (A.deeper (envOfC "made" (defScope s_made) s.heap.objs.size f cdv))) : PSs (cxOf CX0 P w K mg base n_made "made" (defScope s_made) f cdv A outer s H E).nox (defBody s_made) (t_made K w) :=
    (pss_cons (ps_if (pt_cmpR op_eq (pe_ix ix_tup (pv 0) pe_int (fun _ _ => rfl)) pe_str (nomark _)) (pss_one (ps_ret (pe_callB (cr_min rfl) (by rfl) T.min (by decide +kernel) (pa_cons (pv 1) pa_nil)))) pss_nil)
    (pss_cons (ps_if (pt_cmpR op_eq (pe_ix ix_tup (pv 0) pe_int (fun _ _ => rfl)) pe_str (nomark _)) (pss_one (ps_ret (pe_callB (cr_max rfl) (by rfl) T.max (by decide +kernel) (pa_cons (pv 1) pa_nil)))) pss_nil)
    (pss_cons (ps_if (pt_cmpR op_eq (pe_ix ix_tup (pv 0) pe_int (fun _ _ => rfl)) pe_str (nomark _)) (pss_one (ps_ret (pe_ix ix_list (pe_callB cr_sortedI (by rfl) T.sorted (by decide +kernel) (pa_cons (pv 1) pa_nil)) pe_int (fun _ _ => rfl)))) pss_nil)
    (pss_cons (ps_if (pt_cmpR op_eq (pe_ix ix_tup (pv 0) pe_int (fun _ _ => rfl)) pe_str (nomark _)) (pss_one (ps_ret (pe_callB (cr_sum rfl) (by rfl) T.sum (by decide +kernel) (pa_cons (pv 1) pa_nil)))) pss_nil)
    (pss_cons (ps_if (pt_cmpR op_eq (pe_ix ix_tup (pv 0) pe_int (fun _ _ => rfl)) pe_str (nomark _)) (pss_one (ps_ret (pe_op op_mul (pe_ix ix_tup (pv 0) pe_int (fun _ _ => rfl)) (pe_ix ix_list (pv 1) pe_int (fun _ _ => rfl))))) pss_nil)
    (pss_cons (ps_if (pt_cmpR op_eq (pe_ix ix_tup (pv 0) pe_int (fun _ _ => rfl)) pe_str (nomark _)) (pss_one (ps_ret (pe_op op_fdiv (pe_ix ix_list (pv 1) pe_int (fun _ _ => rfl)) (pe_ix ix_tup (pv 0) pe_int (fun _ _ => rfl))))) pss_nil)
    (pss_cons (ps_if (pt_cmpR op_eq (pe_ix ix_tup (pv 0) pe_int (fun _ _ => rfl)) pe_str (nomark _)) (pss_one (ps_ret (pe_callB (cq_min2 rfl) (by rfl) T.min (by decide +kernel) (pa_cons (pe_callB (cq_max2 rfl) (by rfl) T.max (by decide +kernel) (pa_cons (pe_ix ix_list (pv 1) pe_int (fun _ _ => rfl)) (pa_cons (pe_ix ix_tup (pv 0) pe_int (fun _ _ => rfl)) pa_nil))) (pa_cons (pe_ix ix_tup (pv 0) pe_int (fun _ _ => rfl)) pa_nil))))) pss_nil)
    (pss_cons (ps_if (pt_cmpR op_eq (pe_ix ix_tup (pv 0) pe_int (fun _ _ => rfl)) pe_str (nomark _)) (pss_one (ps_ret (pe_callB (cq_max2 rfl) (by rfl) T.max (by decide +kernel) (pa_cons pe_int (pa_cons (pe_op op_sub (pe_ix ix_tup (pv 0) pe_int (fun _ _ => rfl)) (pe_ix ix_list (pv 1) pe_int (fun _ _ => rfl))) pa_nil))))) pss_nil)
    (pss_cons (ps_if (pt_cmpR op_eq (pe_ix ix_tup (pv 0) pe_int (fun _ _ => rfl)) pe_str (nomark _)) (pss_one (ps_ret (pe_ifExp (pt_cmpR op_ge (pe_ix ix_list (pv 1) pe_int (fun _ _ => rfl)) (pe_ix ix_tup (pv 0) pe_int (fun _ _ => rfl)) (nomark _)) (pe_ix ix_tup (pv 0) pe_int (fun _ _ => rfl)) (pe_ix ix_tup (pv 0) pe_int (fun _ _ => rfl))))) pss_nil)
    (pss_one (ps_ret (pe_ix ix_tup (pe_ix ix_tup (pv 0) pe_int (fun _ _ => rfl)) (pe_callB (cq_min2 rfl) (by rfl) T.min (by decide +kernel) (pa_cons (pe_ix ix_list (pv 1) pe_int (fun _ _ => rfl)) (pa_cons (pe_op op_sub (pe_callB cq_len (by rfl) T.len (by decide +kernel) (pa_cons (pe_ix ix_tup (pv 0) pe_int (fun _ _ => rfl)) pa_nil)) pe_int) pa_nil))) (fun _ _ => rfl)))))))))))))
theorem pd_told_by {P : Program} {w : World} {K : PySem.W.Frag} {mg : Str → Option Value} {base : Heap} {k : Nat} {f : Addr} {cdv : Value} {A : Around} {outer : List Env} {s : Shared} {H : Hp} {E : XK} (T : Tops mg) {q_parts_of : Sp} {q_told_by : Sp} {q_made : Sp} (c_parts_of : Cal P w K mg base CX0 k "parts_of" p_parts_of q_parts_of) (c_told_by : Cal P w K mg base CX0 k "told_by" p_told_by q_told_by) (c_made : Cal P w K mg base CX0 k "made" p_made q_made)
    (hr : Room k (A.deeper (envOfC "told_by" (defScope s_told_by) s.heap.objs.size f cdv))) : PSs (cxOf CX0 P w K mg base n_told_by "told_by" (defScope s_told_by) f cdv A outer s H E).nox (defBody s_told_by) (t_told_by K w q_parts_of q_told_by q_made) :=
    (pss_cons (ps_if (pt_cmpR op_eq (pe_ix ix_tup (pv 0) pe_int (fun _ _ => rfl)) pe_str (nomark _)) (pss_one (ps_ret (pe_tup (pa_cons (pe_ix ix_tup (pv 0) pe_int (fun _ _ => rfl)) (pa_cons (pv 2) pa_nil))))) pss_nil)
    (pss_cons (ps_if (pt_cmpR op_eq (pe_ix ix_tup (pv 0) pe_int (fun _ _ => rfl)) pe_str (nomark _)) (pss_one (ps_ret (pe_tup (pa_cons (pe_ix ix_tup (pv 1) (pv 2) (fun _ _ => rfl)) (pa_cons (pe_op op_add (pv 2) pe_int) pa_nil))))) pss_nil)
    (pss_cons (ps_set (i := 3) sc_told_by.nd rfl (Or.inl rfl) (pe_lst pa_nil))
    (pss_cons (ps_for PassesOwn.never rfl (pi_tup (pe_c c_parts_of hr (by rfl) L2.pass0 (pa_cons (pv 0) pa_nil))) (pg_name (i := 4) sc_told_by.nd rfl (Or.inl rfl)) (pss_cons (ps_asg (pe_c c_told_by hr (by rfl) L2.pass0 (pa_cons (pv 4) (pa_cons (pv 1) (pa_cons (pv 2) pa_nil)))) (pg_tup rfl (pgs_cons (pg_name (i := 5) sc_told_by.nd rfl (Or.inl rfl)) (pgs_cons (pg_name (i := 2) sc_told_by.nd rfl (Or.inl rfl)) pgs_nil))))
    (pss_one (ps_expr (pe_bm PySem.F.plainAttrs_list PySem.F.slot_list_append PySem.F.type_list_append mt_append (pv 3) (pa_cons (pv 5) pa_nil))))))
    (pss_one (ps_ret (pe_tup (pa_cons (pe_c c_made hr (by rfl) L2.pass0 (pa_cons (pv 0) (pa_cons (pv 3) pa_nil))) (pa_cons (pv 2) pa_nil)))))))))
theorem pd_told {P : Program} {w : World} {K : PySem.W.Frag} {mg : Str → Option Value} {base : Heap} {k : Nat} {f : Addr} {cdv : Value} {A : Around} {outer : List Env} {s : Shared} {H : Hp} {E : XK} (T : Tops mg) {q_told_by : Sp} (c_told_by : Cal P w K mg base CX0 k "told_by" p_told_by q_told_by)
    (hr : Room k (A.deeper (envOfC "told" (defScope s_told) s.heap.objs.size f cdv))) : PSs (cxOf CX0 P w K mg base n_told "told" (defScope s_told) f cdv A outer s H E).nox (defBody s_told) (t_told K w q_told_by) :=
    (pss_one (ps_ret (pe_ix ix_tup (pe_c c_told_by hr (by rfl) L2.pass0 (pa_cons (pv 0) (pa_cons (pv 1) (pa_cons pe_int pa_nil)))) pe_int (fun _ _ => rfl))))
theorem pd_wanted {P : Program} {w : World} {K : PySem.W.Frag} {mg : Str → Option Value} {base : Heap} {k : Nat} {f : Addr} {cdv : Value} {A : Around} {outer : List Env} {s : Shared} {H : Hp} {E : XK} (T : Tops mg) {q_told : Sp} (c_told : Cal P w K mg base CX0 k "told" p_told q_told)
    (hr : Room k (A.deeper (envOfC "wanted" (defScope s_wanted) s.heap.objs.size f cdv))) : PSs (cxOf CX0 P w K mg base n_wanted "wanted" (defScope s_wanted) f cdv A outer s H E).nox (defBody s_wanted) (t_wanted K w q_told) :=
    (pss_one (ps_ret (pe_callB (cq_min2 rfl) (by rfl) T.min (by decide +kernel) (pa_cons (pe_ix ix_tup (pe_ix ix_tup (pv 0) pe_int (fun _ _ => rfl)) (pv 1) (fun _ _ => rfl)) (pa_cons (pe_c c_told hr (by rfl) L2.pass0 (pa_cons (pe_ix ix_tup (pe_ix ix_tup (pv 0) pe_int (fun _ _ => rfl)) (pv 1) (fun _ _ => rfl)) (pa_cons (pv 2) pa_nil))) pa_nil)))))
theorem pd_first_lots {P : Program} {w : World} {K : PySem.W.Frag} {mg : Str → Option Value} {base : Heap} {k : Nat} {f : Addr} {cdv : Value} {A : Around} {outer : List Env} {s : Shared} {H : Hp} {E : XK} (T : Tops mg)
    (hr : Room k (A.deeper (envOfC "first_lots" (defScope s_first_lots) s.heap.objs.size f cdv))) : PSs (cxOf CX0 P w K mg base n_first_lots "first_lots" (defScope s_first_lots) f cdv A outer s H E).nox (defBody s_first_lots) (t_first_lots K w) :=
    (pss_one (ps_ret (pe_callTy cq_tup (by rfl) T.tuple_ (by decide +kernel) (pa_cons (pe_lc (own := [("top", 1)]) rfl sc_first_lots.nd (pi_tup (pe_ix ix_tup (pv 0) pe_int (fun _ _ => rfl))) (blkOk_by (by rfl)) (fun _ _ _ _ _ => (pg_name (i := 1) sc_first_lots.nd rfl (Or.inl rfl))) (fun _ _ _ _ _ => pts_nil) (fun _ _ _ _ _ => (pe_tupRg rfl (by rfl) T.tuple_ (prg_1 (by rfl) T.range (pe_op op_add (pv 1) pe_int))))) pa_nil))))
theorem pd_rows_from {P : Program} {w : World} {K : PySem.W.Frag} {mg : Str → Option Value} {base : Heap} {k : Nat} {f : Addr} {cdv : Value} {A : Around} {outer : List Env} {s : Shared} {H : Hp} {E : XK} (T : Tops mg)
    (hr : Room k (A.deeper (envOfC "rows_from" (defScope s_rows_from) s.heap.objs.size f cdv))) : PSs (cxOf CX0 P w K mg base n_rows_from "rows_from" (defScope s_rows_from) f cdv A outer s H E).nox (defBody s_rows_from) (t_rows_from K w) :=
    (pss_cons (ps_set (i := 2) sc_rows_from.nd rfl (Or.inl rfl) (pe_lst (pa_cons (pe_tup pa_nil) pa_nil)))
    (pss_cons (ps_for PassesOwn.never rfl (pi_tup (pv 1)) (pg_name (i := 3) sc_rows_from.nd rfl (Or.inr rfl)) (pss_one (ps_setLc2 (i := 2) (own := [("row", 4), ("worth", 5)]) (vs1 := [5]) rfl sc_rows_from.nd rfl rfl (sw_true rfl rfl rfl (by decide +kernel)) (pi_list (pv 2)) (blkOk_by (by rfl)) (by decide) (fun _ _ _ _ _ => (pg_name (i := 4) sc_rows_from.nd rfl (Or.inl rfl))) (fun _ _ _ _ _ => pts_nil) (fun _ _ _ _ _ => (pi_tup (pe_ix ix_tup (pv 0) (pv 3) (fun _ _ => rfl)))) (fun _ _ _ _ _ => (pg_name (i := 5) sc_rows_from.nd rfl (Or.inl rfl))) (fun _ _ _ _ _ => pts_nil) (fun _ _ _ _ _ => (pe_star1 (pv 4) (pv 5))))))
    (pss_one (ps_ret (pv 2)))))
theorem pd_lots_next {P : Program} {w : World} {K : PySem.W.Frag} {mg : Str → Option Value} {base : Heap} {k : Nat} {f : Addr} {cdv : Value} {A : Around} {outer : List Env} {s : Shared} {H : Hp} {E : XK} (T : Tops mg) {q_check_few : Sp} {q_wanted : Sp} {q_rows_from : Sp} {q_branches : Sp} (c_check_few : Cal P w K mg base (L2.CX P w) k "check_few" p_check_few q_check_few) (c_wanted : Cal P w K mg base CX0 k "wanted" p_wanted q_wanted) (c_rows_from : Cal P w K mg base CX0 k "rows_from" p_rows_from q_rows_from) (c_branches : Cal P w K mg base CX0 k "branches" p_branches q_branches)
    (hr : Room k (A.deeper (envOfC "lots_next" (defScope s_lots_next) s.heap.objs.size f cdv))) (px : Passes (L2.CX P w) (cxOf (L2.CX P w) P w K mg base n_lots_next "lots_next" (defScope s_lots_next) f cdv A outer s H E) E) : PSs (cxOf (L2.CX P w) P w K mg base n_lots_next "lots_next" (defScope s_lots_next) f cdv A outer s H E) (defBody s_lots_next) (t_lots_next K w E q_check_few q_wanted q_rows_from q_branches) :=
    (pss_cons (ps_expr (pe_c c_check_few hr (by rfl) px (pa_cons (pv 0) pa_nil)))
    (pss_cons (ps_set (i := 2) sc_lots_next.nd rfl (Or.inl rfl) (pe_lst pa_nil))
    (pss_cons (ps_for (passes_of rfl) rfl (pi_enT (by rfl) T.enumerate (pa_cons (pe_ix ix_tup (pv 0) pe_int (fun _ _ => rfl)) pa_nil)) (pg_tup rfl (pgs_cons (pg_name (i := 3) sc_lots_next.nd rfl (Or.inr rfl)) (pgs_cons (pg_name (i := 4) sc_lots_next.nd rfl (Or.inl rfl)) pgs_nil))) (pss_one (ps_expr (pe_bm PySem.F.plainAttrs_list PySem.F.slot_list_append PySem.F.type_list_append mt_append (pv 2) (pa_cons (pe_callTy cq_tup (by rfl) T.tuple_ (by decide +kernel) (pa_cons (pe_callB (cr_sortSet rfl) (by rfl) T.sorted (by decide +kernel) (pa_cons (pe_callTy (cr_setI rfl) (by rfl) T.set_ (by decide +kernel) (pa_cons (pe_lc (own := [("row", 5)]) rfl sc_lots_next.nd (pi_list (pe_c c_rows_from hr (by rfl) L2.pass0 (pa_cons (pv 1) (pa_cons (pe_c c_branches hr (by rfl) L2.pass0 (pa_cons (pv 4) pa_nil)) pa_nil)))) (blkOk_by (by rfl)) (fun _ _ _ _ _ => (pg_name (i := 5) sc_lots_next.nd rfl (Or.inl rfl))) (fun _ _ _ _ _ => pts_nil) (fun _ _ _ _ _ => (pe_c c_wanted hr (by rfl) L2.pass0 (pa_cons (pv 0) (pa_cons (pv 3) (pa_cons (pv 5) pa_nil)))))) pa_nil)) pa_nil)) pa_nil)) pa_nil)))))
    (pss_one (ps_ret (pe_callTy cq_tup (by rfl) T.tuple_ (by decide +kernel) (pa_cons (pv 2) pa_nil)))))))
theorem pd_lot_rounds {P : Program} {w : World} {K : PySem.W.Frag} {mg : Str → Option Value} {base : Heap} {k : Nat} {f : Addr} {cdv : Value} {A : Around} {outer : List Env} {s : Shared} {H : Hp} {E : XK} (T : Tops mg) {q_lots_next : Sp} {q_first_lots : Sp} (c_lots_next : Cal P w K mg base (L2.CX P w) k "lots_next" p_lots_next q_lots_next) (c_first_lots : Cal P w K mg base CX0 k "first_lots" p_first_lots q_first_lots)
    (hr : Room k (A.deeper (envOfC "lot_rounds" (defScope s_lot_rounds) s.heap.objs.size f cdv))) (px : Passes (L2.CX P w) (cxOf (L2.CX P w) P w K mg base n_lot_rounds "lot_rounds" (defScope s_lot_rounds) f cdv A outer s H E) E) : PSs (cxOf (L2.CX P w) P w K mg base n_lot_rounds "lot_rounds" (defScope s_lot_rounds) f cdv A outer s H E) (defBody s_lot_rounds) (t_lot_rounds K w E q_lots_next q_first_lots) :=
    (pss_cons (ps_set (i := 1) sc_lot_rounds.nd rfl (Or.inl rfl) (pe_lst (pa_cons (pe_c c_first_lots hr (by rfl) L2.pass0 (pa_cons (pv 0) pa_nil)) pa_nil)))
    (pss_cons (ps_set (i := 2) sc_lot_rounds.nd rfl (Or.inl rfl) (pe_c c_lots_next hr (by rfl) px (pa_cons (pv 0) (pa_cons (pe_ix ix_list (pv 1) (pe_un un_neg pe_int) (fun _ _ => rfl)) pa_nil))))
    (pss_cons (ps_while (passes_of rfl) (pt_cmpR (op_neD hr.units) (pv 2) (pe_ix ix_list (pv 1) (pe_un un_neg pe_int) (fun _ _ => rfl)) (nomark _)) (pss_cons (ps_expr (pe_bm PySem.F.plainAttrs_list PySem.F.slot_list_append PySem.F.type_list_append mt_append (pv 1) (pa_cons (pv 2) pa_nil)))
    (pss_one (ps_set (i := 2) sc_lot_rounds.nd rfl (Or.inl rfl) (pe_c c_lots_next hr (by rfl) px (pa_cons (pv 0) (pa_cons (pv 2) pa_nil)))))))
    (pss_one (ps_ret (pe_callTy cq_tup (by rfl) T.tuple_ (by decide +kernel) (pa_cons (pv 1) pa_nil)))))))
theorem pd_last_lots {P : Program} {w : World} {K : PySem.W.Frag} {mg : Str → Option Value} {base : Heap} {k : Nat} {f : Addr} {cdv : Value} {A : Around} {outer : List Env} {s : Shared} {H : Hp} {E : XK} (T : Tops mg) {q_lot_rounds : Sp} (c_lot_rounds : Cal P w K mg base (L2.CX P w) k "lot_rounds" p_lot_rounds q_lot_rounds)
    (hr : Room k (A.deeper (envOfC "last_lots" (defScope s_last_lots) s.heap.objs.size f cdv))) (px : Passes (L2.CX P w) (cxOf (L2.CX P w) P w K mg base n_last_lots "last_lots" (defScope s_last_lots) f cdv A outer s H E) E) : PSs (cxOf (L2.CX P w) P w K mg base n_last_lots "last_lots" (defScope s_last_lots) f cdv A outer s H E) (defBody s_last_lots) (t_last_lots K w E q_lot_rounds) :=
    (pss_one (ps_ret (pe_ix ix_tup (pe_c c_lot_rounds hr (by rfl) px (pa_cons (pv 0) pa_nil)) (pe_un un_neg pe_int) (fun _ _ => rfl))))
theorem pd_known_rounds {P : Program} {w : World} {K : PySem.W.Frag} {mg : Str → Option Value} {base : Heap} {k : Nat} {f : Addr} {cdv : Value} {A : Around} {outer : List Env} {s : Shared} {H : Hp} {E : XK} (T : Tops mg) {q_lot_rounds : Sp} (c_lot_rounds : Cal P w K mg base (L2.CX P w) k "lot_rounds" p_lot_rounds q_lot_rounds)
    (hr : Room k (A.deeper (envOfC "known_rounds" (defScope s_known_rounds) s.heap.objs.size f cdv))) (px : Passes (L2.CX P w) (cxOf (L2.CX P w) P w K mg base n_known_rounds "known_rounds" (defScope s_known_rounds) f cdv A outer s H E) E) : PSs (cxOf (L2.CX P w) P w K mg base n_known_rounds "known_rounds" (defScope s_known_rounds) f cdv A outer s H E) (defBody s_known_rounds) (t_known_rounds K w E q_lot_rounds) :=
    (pss_cons (ps_par (i := 1) (j := 2) rfl sc_known_rounds.nd rfl rfl (by decide) rfl rfl (pa_cons (pe_c c_lot_rounds hr (by rfl) px (pa_cons (pv 0) pa_nil)) (pa_cons (pe_lst pa_nil) pa_nil)) (by rfl))
    (pss_cons (ps_for (passes_of rfl) rfl (pi_range1 (by rfl) T.range (pa_cons (pe_callB cq_len (by rfl) T.len (by decide +kernel) (pa_cons (pe_ix ix_tup (pv 0) pe_int (fun _ _ => rfl)) pa_nil)) pa_nil)) (pg_name (i := 3) sc_known_rounds.nd rfl (Or.inr rfl)) (pss_cons (ps_setLc (i := 4) (own := [("at", 5), ("lots", 6)]) rfl sc_known_rounds.nd rfl rfl (sw_true rfl rfl rfl (by decide +kernel)) (pi_enT (by rfl) T.enumerate (pa_cons (pv 1) pa_nil)) (blkOk_by (by rfl)) (fun _ _ _ _ _ => (pg_tup rfl (pgs_cons (pg_name (i := 5) sc_known_rounds.nd rfl (Or.inl rfl)) (pgs_cons (pg_name (i := 6) sc_known_rounds.nd rfl (Or.inl rfl)) pgs_nil)))) (fun _ _ _ _ _ => (pts_one (pt_cmpR op_eq (pe_callB cq_len (by rfl) T.len (by decide +kernel) (pa_cons (pe_ix ix_tup (pv 6) (pv 3) (fun _ _ => rfl)) pa_nil)) pe_int (nomark _)))) (fun _ _ _ _ _ => (pv 5)))
    (pss_one (ps_expr (pe_bm PySem.F.plainAttrs_list PySem.F.slot_list_append PySem.F.type_list_append mt_append (pv 2) (pa_cons (pe_ifExp (pt_cmpR op_gt (pe_callB cq_len (by rfl) T.len (by decide +kernel) (pa_cons (pv 4) pa_nil)) pe_int (nomark _)) (pe_ix ix_list (pv 4) pe_int (fun _ _ => rfl)) pe_non) pa_nil))))))
    (pss_one (ps_ret (pe_callTy cq_tup (by rfl) T.tuple_ (by decide +kernel) (pa_cons (pv 2) pa_nil))))))
theorem pd_is_sure {P : Program} {w : World} {K : PySem.W.Frag} {mg : Str → Option Value} {base : Heap} {k : Nat} {f : Addr} {cdv : Value} {A : Around} {outer : List Env} {s : Shared} {H : Hp} {E : XK} (T : Tops mg) {q_last_lots : Sp} (c_last_lots : Cal P w K mg base (L2.CX P w) k "last_lots" p_last_lots q_last_lots)
    (hr : Room k (A.deeper (envOfC "is_sure" (defScope s_is_sure) s.heap.objs.size f cdv))) (px : Passes (L2.CX P w) (cxOf (L2.CX P w) P w K mg base n_is_sure "is_sure" (defScope s_is_sure) f cdv A outer s H E) E) : PSs (cxOf (L2.CX P w) P w K mg base n_is_sure "is_sure" (defScope s_is_sure) f cdv A outer s H E) (defBody s_is_sure) (t_is_sure K w E q_last_lots) :=
    (pss_one (ps_ret (pe_callB (cr_all rfl) (by rfl) T.all (by decide +kernel) (pa_cons (pe_lc (own := [("lot", 1)]) rfl sc_is_sure.nd (pi_tup (pe_c c_last_lots hr (by rfl) px (pa_cons (pv 0) pa_nil))) (blkOk_by (by rfl)) (fun _ _ _ _ _ => (pg_name (i := 1) sc_is_sure.nd rfl (Or.inl rfl))) (fun _ _ _ _ _ => pts_nil) (fun _ _ _ _ _ => (pe_cmpR op_eq (pe_callB cq_len (by rfl) T.len (by decide +kernel) (pa_cons (pv 1) pa_nil)) pe_int (nomark _)))) pa_nil))))
theorem pd_law_draw {P : Program} {w : World} {K : PySem.W.Frag} {mg : Str → Option Value} {base : Heap} {k : Nat} {f : Addr} {cdv : Value} {A : Around} {outer : List Env} {s : Shared} {H : Hp} {E : XK} (T : Tops mg)
    (hr : Room k (A.deeper (envOfC "_law_draw" (defScope s_law_draw) s.heap.objs.size f cdv))) : PSs (cxOf CX0 P w K mg base n_law_draw "_law_draw" (defScope s_law_draw) f cdv A outer s H E).nox (defBody s_law_draw) (t_law_draw K w) :=
    (pss_cons (ps_setLc (i := 2) (own := [("_law_cell", 4)]) rfl sc_law_draw.nd rfl rfl (sw_true rfl rfl rfl (by decide +kernel)) (pi_list (pe_slice sl_list (pv 0) po_none (po_some pe_int))) (blkOk_by (by rfl)) (fun _ _ _ _ _ => (pg_name (i := 4) sc_law_draw.nd rfl (Or.inl rfl))) (fun _ _ _ _ _ => pts_nil) (fun _ _ _ _ _ => (pe_callB cq_abs (by rfl) T.abs (by decide +kernel) (pa_cons (pe_callTy cq_int (by rfl) T.int_ (by decide +kernel) (pa_cons (pv 4) pa_nil)) pa_nil))))
    (pss_cons (ps_set (i := 3) sc_law_draw.nd rfl (Or.inl rfl) (pe_op op_add pe_int (pe_op op_mul pe_int (pv 1))))
    (pss_cons (ps_for PassesOwn.never rfl (pi_list (pv 2)) (pg_name (i := 4) sc_law_draw.nd rfl (Or.inl rfl)) (pss_one (ps_set (i := 3) sc_law_draw.nd rfl (Or.inl rfl) (pe_op op_mod (pe_callTy cq_int (by rfl) T.int_ (by decide +kernel) (pa_cons (pe_op op_add (pe_op op_add (pe_op op_mul (pv 3) pe_int) (pe_op op_mod (pv 4) pe_int)) pe_int) pa_nil)) pe_int))))
    (pss_one (ps_ret (pe_lst (pa_cons (pe_revL (pe_lc (own := [("_law_cell", 4)]) rfl sc_law_draw.nd (pi_list (pv 2)) (blkOk_by (by rfl)) (fun _ _ _ _ _ => (pg_name (i := 4) sc_law_draw.nd rfl (Or.inl rfl))) (fun _ _ _ _ _ => (pts_one (pt_cmpR op_ge (pv 4) (pe_op op_pow pe_int pe_int) (nomark _)))) (fun _ _ _ _ _ => (pv 4)))) (pa_cons (pv 3) pa_nil))))))))
theorem pd_law_any {P : Program} {w : World} {K : PySem.W.Frag} {mg : Str → Option Value} {base : Heap} {k : Nat} {f : Addr} {cdv : Value} {A : Around} {outer : List Env} {s : Shared} {H : Hp} {E : XK} (T : Tops mg)
    (hr : Room k (A.deeper (envOfC "_law_any" (defScope s_law_any) s.heap.objs.size f cdv))) : PSs (cxOf CX0 P w K mg base n_law_any "_law_any" (defScope s_law_any) f cdv A outer s H E).nox (defBody s_law_any) (t_law_any K w) :=
    (pss_cons (ps_while PassesOwn.never (PW.pt (pw_and (pt_cmpR (op_neD hr.units) (pe_ix ix_list (pv 0) pe_int (fun _ _ => rfl)) (pe_lst pa_nil) (nomark _)) (pw_and1 (pt_cmpR op_eq (pe_ix ix_list (pe_ix ix_list (pv 0) pe_int (fun _ _ => rfl)) (pe_un un_neg pe_int) (fun _ _ => rfl)) pe_int (nomark _))))) (pss_one (ps_expr (pe_bm0 PySem.F.plainAttrs_list PySem.F.slot_list_pop PySem.F.type_list_pop mt_pop (pe_ix ix_list (pv 0) pe_int (fun _ _ => rfl))))))
    (pss_cons (ps_if (pt_cmpR (op_neD hr.units) (pe_ix ix_list (pv 0) pe_int (fun _ _ => rfl)) (pe_lst pa_nil) (nomark _)) (pss_cons (ps_set (i := 2) sc_law_any.nd rfl (Or.inl rfl) (pe_callTy cq_int (by rfl) T.int_ (by decide +kernel) (pa_cons (pe_bm0 PySem.F.plainAttrs_list PySem.F.slot_list_pop PySem.F.type_list_pop mt_pop (pe_ix ix_list (pv 0) pe_int (fun _ _ => rfl))) pa_nil)))
    (pss_cons (ps_expr (pe_bm PySem.F.plainAttrs_list PySem.F.slot_list_append PySem.F.type_list_append mt_append (pe_ix ix_list (pv 0) pe_int (fun _ _ => rfl)) (pa_cons (pe_op op_fdivW (pv 2) (pv 1)) pa_nil)))
    (pss_one (ps_ret (pe_op op_mod (pv 2) (pv 1)))))) pss_nil)
    (pss_cons (ps_asg (pe_op op_mod (pe_callTy cq_int (by rfl) T.int_ (by decide +kernel) (pa_cons (pe_op op_add (pe_op op_mul (pe_ix ix_list (pv 0) pe_int (fun _ _ => rfl)) pe_int) pe_int) pa_nil)) pe_int) (pg_sub (pv 0) pe_int set_list))
    (pss_one (ps_ret (pe_op op_mod (pe_callTy cq_int (by rfl) T.int_ (by decide +kernel) (pa_cons (pe_op op_fdiv (pe_ix ix_list (pv 0) pe_int (fun _ _ => rfl)) pe_int) pa_nil)) (pv 1)))))))
theorem pd_law_of {P : Program} {w : World} {K : PySem.W.Frag} {mg : Str → Option Value} {base : Heap} {k : Nat} {f : Addr} {cdv : Value} {A : Around} {outer : List Env} {s : Shared} {H : Hp} {E : XK} (T : Tops mg) {q_law_any : Sp} (c_law_any : Cal P w K mg base CX0 k "_law_any" p_law_any q_law_any)
    (hr : Room k (A.deeper (envOfC "_law_of" (defScope s_law_of) s.heap.objs.size f cdv))) : PSs (cxOf CX0 P w K mg base n_law_of "_law_of" (defScope s_law_of) f cdv A outer s H E).nox (defBody s_law_of) (t_law_of K w q_law_any) :=
    (pss_one (ps_ret (pe_ix ix_list (pv 1) (pe_c c_law_any hr (by rfl) L2.pass0 (pa_cons (pv 0) (pa_cons (pe_callB cq_len (by rfl) T.len (by decide +kernel) (pa_cons (pv 1) pa_nil)) pa_nil))) (fun _ _ => rfl))))
theorem pd_law_rule {P : Program} {w : World} {K : PySem.W.Frag} {mg : Str → Option Value} {base : Heap} {k : Nat} {f : Addr} {cdv : Value} {A : Around} {outer : List Env} {s : Shared} {H : Hp} {E : XK} (T : Tops mg) {q_law_rule : Sp} {q_law_any : Sp} {q_law_of : Sp} (c_law_rule : Cal P w K mg base CX0 k "_law_rule" p_law_rule q_law_rule) (c_law_any : Cal P w K mg base CX0 k "_law_any" p_law_any q_law_any) (c_law_of : Cal P w K mg base CX0 k "_law_of" p_law_of q_law_of)
    (hr : Room k (A.deeper (envOfC "_law_rule" (defScope s_law_rule) s.heap.objs.size f cdv))) : PSs (cxOf CX0 P w K mg base n_law_rule "_law_rule" (defScope s_law_rule) f cdv A outer s H E).nox (defBody s_law_rule) (t_law_rule K w q_law_rule q_law_any q_law_of) :=
    (pss_cons (ps_set (i := 5) sc_law_rule.nd rfl (Or.inl rfl) (pe_ifExp (pt_cmpR op_gt (pv 3) pe_int (nomark _)) (pe_c c_law_any hr (by rfl) L2.pass0 (pa_cons (pv 0) (pa_cons pe_int pa_nil))) (pe_c c_law_any hr (by rfl) L2.pass0 (pa_cons (pv 0) (pa_cons pe_int pa_nil)))))
    (pss_cons (ps_if (pt_cmpR op_eq (pv 5) pe_int (nomark _)) (pss_one (ps_ret (pe_tup (pa_cons pe_str (pa_cons (pe_c c_law_any hr (by rfl) L2.pass0 (pa_cons (pv 0) (pa_cons (pe_op op_add (pv 2) pe_int) pa_nil))) pa_nil))))) pss_nil)
    (pss_cons (ps_if (pt_cmpR op_lt (pv 5) pe_int (nomark _)) (pss_one (ps_ret (pe_tup (pa_cons pe_str (pa_cons (pe_c c_law_any hr (by rfl) L2.pass0 (pa_cons (pv 0) (pa_cons (pv 1) pa_nil))) pa_nil))))) pss_nil)
    (pss_cons (ps_if (pt_cmpR op_lt (pv 5) pe_int (nomark _)) (pss_cons (ps_set (i := 6) sc_law_rule.nd rfl (Or.inl rfl) (pe_callTy cq_tup (by rfl) T.tuple_ (by decide +kernel) (pa_cons (pe_lc (own := [("_law_turn_here", 10)]) rfl sc_law_rule.nd (pi_range1 (by rfl) T.range (pa_cons (pe_op op_add pe_int (pe_c c_law_any hr (by rfl) L2.pass0 (pa_cons (pv 0) (pa_cons pe_int pa_nil)))) pa_nil)) (blkOk_by (by rfl)) (fun _ _ _ _ _ => (pg_name (i := 10) sc_law_rule.nd rfl (Or.inl rfl))) (fun _ _ _ _ _ => pts_nil) (fun _ _ _ _ _ => (pe_c c_law_rule hr (by rfl) L2.pass0 (pa_cons (pv 0) (pa_cons (pv 1) (pa_cons (pv 2) (pa_cons (pe_op op_sub (pv 3) pe_int) (pa_cons (pv 4) pa_nil)))))))) pa_nil)))
    (pss_one (ps_ret (pe_tup (pa_cons (pe_c c_law_of hr (by rfl) L2.pass0 (pa_cons (pv 0) (pa_cons (pe_lst (pa_cons pe_str (pa_cons pe_str (pa_cons pe_str pa_nil)))) pa_nil))) (pa_cons (pv 6) pa_nil)))))) pss_nil)
    (pss_cons (ps_if (PW.pt (pw_and (pt_cmpR op_eq (pv 5) pe_int (nomark _)) (pw_and1 (pt_cmpR op_eq (pv 3) pe_int (nomark _))))) (pss_one (ps_ret (pe_op op_catA (pe_tup (pa_cons pe_str pa_nil)) (pe_callTy cq_tup (by rfl) T.tuple_ (by decide +kernel) (pa_cons (pe_lc (own := [("_law_turn_here", 10)]) rfl sc_law_rule.nd (pi_range1 (by rfl) T.range (pa_cons pe_int pa_nil)) (blkOk_by (by rfl)) (fun _ _ _ _ _ => (pg_name (i := 10) sc_law_rule.nd rfl (Or.inl rfl))) (fun _ _ _ _ _ => pts_nil) (fun _ _ _ _ _ => (pe_c c_law_rule hr (by rfl) L2.pass0 (pa_cons (pv 0) (pa_cons (pv 1) (pa_cons (pv 2) (pa_cons pe_int (pa_cons (pv 4) pa_nil)))))))) pa_nil))))) pss_nil)
    (pss_cons (ps_set (i := 7) sc_law_rule.nd rfl (Or.inl rfl) (pe_c c_law_rule hr (by rfl) L2.pass0 (pa_cons (pv 0) (pa_cons (pv 1) (pa_cons (pv 2) (pa_cons (pe_op op_sub (pv 3) pe_int) (pa_cons (pv 4) pa_nil)))))))
    (pss_cons (ps_if (pt_cmpR op_eq (pv 5) pe_int (nomark _)) (pss_one (ps_ret (pe_tup (pa_cons pe_str (pa_cons (pe_c c_law_any hr (by rfl) L2.pass0 (pa_cons (pv 0) (pa_cons pe_int pa_nil))) (pa_cons (pv 7) pa_nil)))))) pss_nil)
    (pss_cons (ps_if (pt_cmpR op_eq (pv 5) pe_int (nomark _)) (pss_one (ps_ret (pe_tup (pa_cons pe_str (pa_cons (pe_op op_add pe_int (pe_c c_law_any hr (by rfl) L2.pass0 (pa_cons (pv 0) (pa_cons pe_int pa_nil)))) (pa_cons (pv 7) pa_nil)))))) pss_nil)
    (pss_cons (ps_if (pt_cmpR op_eq (pv 5) pe_int (nomark _)) (pss_cons (ps_set (i := 8) sc_law_rule.nd rfl (Or.inl rfl) (pe_c c_law_any hr (by rfl) L2.pass0 (pa_cons (pv 0) (pa_cons (pe_op op_add (pv 2) pe_int) pa_nil))))
    (pss_one (ps_ret (pe_tup (pa_cons pe_str (pa_cons (pv 8) (pa_cons (pe_op op_add (pv 8) (pe_c c_law_any hr (by rfl) L2.pass0 (pa_cons (pv 0) (pa_cons pe_int pa_nil)))) (pa_cons (pv 7) pa_nil)))))))) pss_nil)
    (pss_cons (ps_if (pt_cmpR op_eq (pv 5) pe_int (nomark _)) (pss_one (ps_ret (pe_tup (pa_cons pe_str (pa_cons (pe_c c_law_any hr (by rfl) L2.pass0 (pa_cons (pv 0) (pa_cons (pe_op op_add (pv 2) pe_int) pa_nil))) (pa_cons (pe_c c_law_any hr (by rfl) L2.pass0 (pa_cons (pv 0) (pa_cons (pe_op op_add (pv 2) pe_int) pa_nil))) (pa_cons (pe_c c_law_any hr (by rfl) L2.pass0 (pa_cons (pv 0) (pa_cons (pe_op op_add (pv 2) pe_int) pa_nil))) (pa_cons (pv 7) pa_nil)))))))) pss_nil)
    (pss_cons (ps_if (pt_cmpR op_eq (pv 5) pe_int (nomark _)) (pss_cons (ps_setLc (i := 9) (own := [("_law_turn_here", 10)]) rfl sc_law_rule.nd rfl rfl (sw_true rfl rfl rfl (by decide +kernel)) (pi_range1 (by rfl) T.range (pa_cons (pe_op op_add pe_int (pe_c c_law_any hr (by rfl) L2.pass0 (pa_cons (pv 0) (pa_cons (pe_op op_add (pv 2) pe_int) pa_nil)))) pa_nil)) (blkOk_by (by rfl)) (fun _ _ _ _ _ => (pg_name (i := 10) sc_law_rule.nd rfl (Or.inl rfl))) (fun _ _ _ _ _ => pts_nil) (fun _ _ _ _ _ => (pe_c c_law_any hr (by rfl) L2.pass0 (pa_cons (pv 0) (pa_cons (pe_op op_add (pv 2) pe_int) pa_nil)))))
    (pss_one (ps_ret (pe_tup (pa_cons pe_str (pa_cons (pe_callTy cq_tup (by rfl) T.tuple_ (by decide +kernel) (pa_cons (pe_ifExp (pt_val (pv 4)) (pv 9) (pe_callB cr_sortedI (by rfl) T.sorted (by decide +kernel) (pa_cons (pv 9) pa_nil))) pa_nil)) (pa_cons (pv 7) pa_nil))))))) pss_nil)
    (pss_one (ps_ret (pe_tup (pa_cons pe_str (pa_cons (pe_c c_law_any hr (by rfl) L2.pass0 (pa_cons (pv 0) (pa_cons (pe_op op_add (pv 2) pe_int) pa_nil))) (pa_cons (pv 7) pa_nil)))))))))))))))))
theorem pd_law_net {P : Program} {w : World} {K : PySem.W.Frag} {mg : Str → Option Value} {base : Heap} {k : Nat} {f : Addr} {cdv : Value} {A : Around} {outer : List Env} {s : Shared} {H : Hp} {E : XK} (T : Tops mg) {q_law_any : Sp} {q_law_rule : Sp} (c_law_any : Cal P w K mg base CX0 k "_law_any" p_law_any q_law_any) (c_law_rule : Cal P w K mg base CX0 k "_law_rule" p_law_rule q_law_rule)
    (hr : Room k (A.deeper (envOfC "_law_net" (defScope s_law_net) s.heap.objs.size f cdv))) : PSs (cxOf CX0 P w K mg base n_law_net "_law_net" (defScope s_law_net) f cdv A outer s H E).nox (defBody s_law_net) (t_law_net K w q_law_any q_law_rule) :=
    (pss_cons (ps_set (i := 4) sc_law_net.nd rfl (Or.inr rfl) (pe_op op_add pe_int (pe_c c_law_any hr (by rfl) L2.pass0 (pa_cons (pv 0) (pa_cons (pv 1) pa_nil)))))
    (pss_cons (ps_set (i := 5) sc_law_net.nd rfl (Or.inl rfl) (pe_callTy cq_tup (by rfl) T.tuple_ (by decide +kernel) (pa_cons (pe_lc (own := [("_law_house", 6)]) rfl sc_law_net.nd (pi_range1 (by rfl) T.range (pa_cons (pv 4) pa_nil)) (blkOk_by (by rfl)) (fun _ _ _ _ _ => (pg_name (i := 6) sc_law_net.nd rfl (Or.inl rfl))) (fun _ _ _ _ _ => pts_nil) (fun _ _ _ _ _ => (pe_op op_add pe_int (pe_c c_law_any hr (by rfl) L2.pass0 (pa_cons (pv 0) (pa_cons (pv 2) pa_nil)))))) pa_nil)))
    (pss_one (ps_ret (pe_tup (pa_cons (pv 5) (pa_cons (pe_callTy cq_tup (by rfl) T.tuple_ (by decide +kernel) (pa_cons (pe_lc (own := [("_law_house", 6)]) rfl sc_law_net.nd (pi_range1 (by rfl) T.range (pa_cons (pv 4) pa_nil)) (blkOk_by (by rfl)) (fun _ _ _ _ _ => (pg_name (i := 6) sc_law_net.nd rfl (Or.inl rfl))) (fun _ _ _ _ _ => pts_nil) (fun _ _ _ _ _ => (pe_c c_law_rule hr (by rfl) L2.pass0 (pa_cons (pv 0) (pa_cons (pv 4) (pa_cons (pv 2) (pa_cons (pe_c c_law_any hr (by rfl) L2.pass0 (pa_cons (pv 0) (pa_cons pe_int pa_nil))) (pa_cons (pv 3) pa_nil)))))))) pa_nil)) pa_nil)))))))
theorem pd_law_parts {P : Program} {w : World} {K : PySem.W.Frag} {mg : Str → Option Value} {base : Heap} {k : Nat} {f : Addr} {cdv : Value} {A : Around} {outer : List Env} {s : Shared} {H : Hp} {E : XK} (T : Tops mg)
    (hr : Room k (A.deeper (envOfC "_law_parts" (defScope s_law_parts) s.heap.objs.size f cdv))) : PSs (cxOf CX0 P w K mg base n_law_parts "_law_parts" (defScope s_law_parts) f cdv A outer s H E).nox (defBody s_law_parts) (t_law_parts K w) :=
    (pss_cons (ps_if (pt_cmpR op_in_seq (pe_ix ix_tup (pv 0) pe_int (fun _ _ => rfl)) (pe_lst (pa_cons pe_str (pa_cons pe_str pa_nil))) (by rfl)) (pss_one (ps_ret (pe_lst pa_nil))) pss_nil)
    (pss_cons (ps_if (pt_cmpR op_in_seq (pe_ix ix_tup (pv 0) pe_int (fun _ _ => rfl)) (pe_lst (pa_cons pe_str (pa_cons pe_str (pa_cons pe_str pa_nil)))) (by rfl)) (pss_one (ps_ret (pe_callTy cq_list (by rfl) T.list_ (by decide +kernel) (pa_cons (pe_ix ix_tup (pv 0) pe_int (fun _ _ => rfl)) pa_nil)))) pss_nil)
    (pss_one (ps_ret (pe_ifExp (pt_cmpR op_eq (pe_ix ix_tup (pv 0) pe_int (fun _ _ => rfl)) pe_str (nomark _)) (pe_callTy cq_list (by rfl) T.list_ (by decide +kernel) (pa_cons (pe_slice sl_tupA (pv 0) (po_some pe_int) po_none) pa_nil)) (pe_lst (pa_cons (pe_ix ix_tup (pv 0) (pe_un un_neg pe_int) (fun _ _ => rfl)) pa_nil)))))))
theorem pd_law_branches {P : Program} {w : World} {K : PySem.W.Frag} {mg : Str → Option Value} {base : Heap} {k : Nat} {f : Addr} {cdv : Value} {A : Around} {outer : List Env} {s : Shared} {H : Hp} {E : XK} (T : Tops mg) {q_law_parts : Sp} {q_law_branches : Sp} (c_law_parts : Cal P w K mg base CX0 k "_law_parts" p_law_parts q_law_parts) (c_law_branches : Cal P w K mg base CX0 k "_law_branches" p_law_branches q_law_branches)
    (hr : Room k (A.deeper (envOfC "_law_branches" (defScope s_law_branches) s.heap.objs.size f cdv))) : PSs (cxOf CX0 P w K mg base n_law_branches "_law_branches" (defScope s_law_branches) f cdv A outer s H E).nox (defBody s_law_branches) (t_law_branches K w q_law_parts q_law_branches) :=
    (pss_cons (ps_set (i := 1) sc_law_branches.nd rfl (Or.inl rfl) (pe_ifExp (pt_cmpR op_eq (pe_ix ix_tup (pv 0) pe_int (fun _ _ => rfl)) pe_str (nomark _)) (pe_lst (pa_cons (pe_ix ix_tup (pv 0) pe_int (fun _ _ => rfl)) pa_nil)) (pe_lst pa_nil)))
    (pss_cons (ps_for PassesOwn.never rfl (pi_list (pe_c c_law_parts hr (by rfl) L2.pass0 (pa_cons (pv 0) pa_nil))) (pg_name (i := 2) sc_law_branches.nd rfl (Or.inl rfl)) (pss_one (ps_set (i := 1) sc_law_branches.nd rfl (Or.inl rfl) (pe_op op_cat (pv 1) (pe_c c_law_branches hr (by rfl) L2.pass0 (pa_cons (pv 2) pa_nil))))))
    (pss_one (ps_ret (pv 1)))))
theorem pd_law_made {P : Program} {w : World} {K : PySem.W.Frag} {mg : Str → Option Value} {base : Heap} {k : Nat} {f : Addr} {cdv : Value} {A : Around} {outer : List Env} {s : Shared} {H : Hp} {E : XK} (T : Tops mg)
    (hr : Room k (A.deeper (envOfC "_law_made" (defScope s_law_made) s.heap.objs.size f cdv))) : PSs (cxOf CX0 P w K mg base n_law_made "_law_made" (defScope s_law_made) f cdv A outer s H E).nox (defBody s_law_made) (t_law_made K w) :=
    (pss_cons (ps_par (i := 2) (j := 3) rfl sc_law_made.nd rfl rfl (by decide) rfl rfl (pa_cons (pe_ix ix_tup (pv 0) pe_int (fun _ _ => rfl)) (pa_cons (pe_ix ix_list (pv 1) pe_int (fun _ _ => rfl)) pa_nil)) (by rfl))
    (pss_cons (ps_if (pt_cmpR op_in_seq (pv 2) (pe_lst (pa_cons pe_str (pa_cons pe_str (pa_cons pe_str (pa_cons pe_str pa_nil))))) (by rfl)) (pss_one (ps_ret (pe_ifExp (pt_cmpR op_eq (pv 2) pe_str (nomark _)) (pe_callB (cr_min rfl) (by rfl) T.min (by decide +kernel) (pa_cons (pv 1) pa_nil)) (pe_ifExp (pt_cmpR op_eq (pv 2) pe_str (nomark _)) (pe_callB (cr_max rfl) (by rfl) T.max (by decide +kernel) (pa_cons (pv 1) pa_nil)) (pe_ifExp (pt_cmpR op_eq (pv 2) pe_str (nomark _)) (pe_callB (cr_sum rfl) (by rfl) T.sum (by decide +kernel) (pa_cons (pv 1) pa_nil)) (pe_ix ix_list (pe_callB cr_sortedI (by rfl) T.sorted (by decide +kernel) (pa_cons (pv 1) pa_nil)) pe_int (fun _ _ => rfl))))))) pss_nil)
    (pss_cons (ps_if (pt_cmpR op_in_seq (pv 2) (pe_lst (pa_cons pe_str (pa_cons pe_str pa_nil))) (by rfl)) (pss_one (ps_ret (pe_ifExp (pt_cmpR op_eq (pv 2) pe_str (nomark _)) (pe_op op_mul (pe_ix ix_tup (pv 0) pe_int (fun _ _ => rfl)) (pv 3)) (pe_op op_fdiv (pv 3) (pe_ix ix_tup (pv 0) pe_int (fun _ _ => rfl)))))) pss_nil)
    (pss_cons (ps_if (pt_cmpR op_eq (pv 2) pe_str (nomark _)) (pss_one (ps_ret (pe_ifExp (pt_cmpR op_lt (pv 3) (pe_ix ix_tup (pv 0) pe_int (fun _ _ => rfl)) (nomark _)) (pe_ix ix_tup (pv 0) pe_int (fun _ _ => rfl)) (pe_ifExp (pt_cmpR op_gt (pv 3) (pe_ix ix_tup (pv 0) pe_int (fun _ _ => rfl)) (nomark _)) (pe_ix ix_tup (pv 0) pe_int (fun _ _ => rfl)) (pv 3))))) pss_nil)
    (pss_cons (ps_if (pt_cmpR op_eq (pv 2) pe_str (nomark _)) (pss_one (ps_ret (pe_ifExp (pt_cmpR op_lt (pv 3) (pe_ix ix_tup (pv 0) pe_int (fun _ _ => rfl)) (nomark _)) (pe_op op_sub (pe_ix ix_tup (pv 0) pe_int (fun _ _ => rfl)) (pv 3)) pe_int))) pss_nil)
    (pss_cons (ps_if (pt_cmpR op_eq (pv 2) pe_str (nomark _)) (pss_one (ps_ret (pe_ifExp (pt_cmpR op_ge (pv 3) (pe_ix ix_tup (pv 0) pe_int (fun _ _ => rfl)) (nomark _)) (pe_ix ix_tup (pv 0) pe_int (fun _ _ => rfl)) (pe_ix ix_tup (pv 0) pe_int (fun _ _ => rfl))))) pss_nil)
    (pss_one (ps_ret (pe_ifExp (pt_cmpR op_lt (pv 3) (pe_callB cq_len (by rfl) T.len (by decide +kernel) (pa_cons (pe_ix ix_tup (pv 0) pe_int (fun _ _ => rfl)) pa_nil)) (nomark _)) (pe_ix ix_tup (pe_ix ix_tup (pv 0) pe_int (fun _ _ => rfl)) (pv 3) (fun _ _ => rfl)) (pe_ix ix_tup (pe_ix ix_tup (pv 0) pe_int (fun _ _ => rfl)) (pe_un un_neg pe_int) (fun _ _ => rfl)))))))))))
theorem pd_law_told {P : Program} {w : World} {K : PySem.W.Frag} {mg : Str → Option Value} {base : Heap} {k : Nat} {f : Addr} {cdv : Value} {A : Around} {outer : List Env} {s : Shared} {H : Hp} {E : XK} (T : Tops mg) {q_law_parts : Sp} {q_law_made : Sp} {q_law_branches : Sp} {q_law_told : Sp} (c_law_parts : Cal P w K mg base CX0 k "_law_parts" p_law_parts q_law_parts) (c_law_made : Cal P w K mg base CX0 k "_law_made" p_law_made q_law_made) (c_law_branches : Cal P w K mg base CX0 k "_law_branches" p_law_branches q_law_branches) (c_law_told : Cal P w K mg base CX0 k "_law_told" p_law_told q_law_told)
    (hr : Room k (A.deeper (envOfC "_law_told" (defScope s_law_told) s.heap.objs.size f cdv))) : PSs (cxOf CX0 P w K mg base n_law_told "_law_told" (defScope s_law_told) f cdv A outer s H E).nox (defBody s_law_told) (t_law_told K w q_law_parts q_law_made q_law_branches q_law_told) :=
    (pss_cons (ps_if (pt_cmpR op_in_seq (pe_ix ix_tup (pv 0) pe_int (fun _ _ => rfl)) (pe_lst (pa_cons pe_str (pa_cons pe_str pa_nil))) (by rfl)) (pss_one (ps_ret (pe_ifExp (pt_cmpR op_eq (pe_ix ix_tup (pv 0) pe_int (fun _ _ => rfl)) pe_str (nomark _)) (pe_ix ix_tup (pv 0) pe_int (fun _ _ => rfl)) (pe_ix ix_list (pv 1) pe_int (fun _ _ => rfl))))) pss_nil)
    (pss_cons (ps_par (i := 2) (j := 3) rfl sc_law_told.nd rfl rfl (by decide) rfl rfl (pa_cons (pe_lst pa_nil) (pa_cons pe_int pa_nil)) (by rfl))
    (pss_cons (ps_for PassesOwn.never rfl (pi_list (pe_c c_law_parts hr (by rfl) L2.pass0 (pa_cons (pv 0) pa_nil))) (pg_name (i := 4) sc_law_told.nd rfl (Or.inl rfl)) (pss_cons (ps_set (i := 5) sc_law_told.nd rfl (Or.inl rfl) (pe_callB cq_len (by rfl) T.len (by decide +kernel) (pa_cons (pe_c c_law_branches hr (by rfl) L2.pass0 (pa_cons (pv 4) pa_nil)) pa_nil)))
    (pss_cons (ps_expr (pe_bm PySem.F.plainAttrs_list PySem.F.slot_list_append PySem.F.type_list_append mt_append (pv 2) (pa_cons (pe_c c_law_told hr (by rfl) L2.pass0 (pa_cons (pv 4) (pa_cons (pe_slice sl_list (pv 1) (po_some (pv 3)) (po_some (pe_op op_add (pv 3) (pv 5)))) pa_nil))) pa_nil)))
    (pss_one (ps_set (i := 3) sc_law_told.nd rfl (Or.inl rfl) (pe_op op_add (pv 3) (pv 5)))))))
    (pss_one (ps_ret (pe_c c_law_made hr (by rfl) L2.pass0 (pa_cons (pv 0) (pa_cons (pv 2) pa_nil))))))))
theorem pd_law_wants {P : Program} {w : World} {K : PySem.W.Frag} {mg : Str → Option Value} {base : Heap} {k : Nat} {f : Addr} {cdv : Value} {A : Around} {outer : List Env} {s : Shared} {H : Hp} {E : XK} (T : Tops mg) {q_law_told : Sp} (c_law_told : Cal P w K mg base CX0 k "_law_told" p_law_told q_law_told)
    (hr : Room k (A.deeper (envOfC "_law_wants" (defScope s_law_wants) s.heap.objs.size f cdv))) : PSs (cxOf CX0 P w K mg base n_law_wants "_law_wants" (defScope s_law_wants) f cdv A outer s H E).nox (defBody s_law_wants) (t_law_wants K w q_law_told) :=
    (pss_one (ps_ret (pe_callB (cq_min2 rfl) (by rfl) T.min (by decide +kernel) (pa_cons (pe_ix ix_tup (pe_ix ix_tup (pv 0) pe_int (fun _ _ => rfl)) (pv 1) (fun _ _ => rfl)) (pa_cons (pe_c c_law_told hr (by rfl) L2.pass0 (pa_cons (pe_ix ix_tup (pe_ix ix_tup (pv 0) pe_int (fun _ _ => rfl)) (pv 1) (fun _ _ => rfl)) (pa_cons (pe_callTy cq_list (by rfl) T.list_ (by decide +kernel) (pa_cons (pv 2) pa_nil)) pa_nil))) pa_nil)))))
theorem pd_law_entries {P : Program} {w : World} {K : PySem.W.Frag} {mg : Str → Option Value} {base : Heap} {k : Nat} {f : Addr} {cdv : Value} {A : Around} {outer : List Env} {s : Shared} {H : Hp} {E : XK} (T : Tops mg)
    (hr : Room k (A.deeper (envOfC "_law_entries" (defScope s_law_entries) s.heap.objs.size f cdv))) : PSs (cxOf CX0 P w K mg base n_law_entries "_law_entries" (defScope s_law_entries) f cdv A outer s H E).nox (defBody s_law_entries) (t_law_entries K w) :=
    (pss_one (ps_ret (pe_lc (own := [("_law_at", 3)]) rfl sc_law_entries.nd (pi_range1 (by rfl) T.range (pa_cons (pe_callB cq_len (by rfl) T.len (by decide +kernel) (pa_cons (pv 0) pa_nil)) pa_nil)) (blkOk_by (by rfl)) (fun _ _ _ _ _ => (pg_name (i := 3) sc_law_entries.nd rfl (Or.inl rfl))) (fun _ _ _ _ _ => (pts_one (PW.pt (pw_or (pt_chain op_le op_le (pv 1) (pv 3) (pv 2)) (pw_or1 (PW.pt (pw_and (pt_cmpR op_eq (pv 3) (pe_op op_sub (pe_callB cq_len (by rfl) T.len (by decide +kernel) (pa_cons (pv 0) pa_nil)) pe_int) (nomark _)) (pw_and1 (pt_cmpR op_gt (pv 1) (pv 3) (nomark _)))))))))) (fun _ _ _ _ _ => (pe_ix ix_tup (pv 0) (pv 3) (fun _ _ => rfl))))))
theorem pd_law_range {P : Program} {w : World} {K : PySem.W.Frag} {mg : Str → Option Value} {base : Heap} {k : Nat} {f : Addr} {cdv : Value} {A : Around} {outer : List Env} {s : Shared} {H : Hp} {E : XK} (T : Tops mg) {q_law_range : Sp} {q_law_entries : Sp} {q_law_parts : Sp} {q_law_made : Sp} (c_law_range : Cal P w K mg base CX0 k "_law_range" p_law_range q_law_range) (c_law_entries : Cal P w K mg base CX0 k "_law_entries" p_law_entries q_law_entries) (c_law_parts : Cal P w K mg base CX0 k "_law_parts" p_law_parts q_law_parts) (c_law_made : Cal P w K mg base CX0 k "_law_made" p_law_made q_law_made)
    (hr : Room k (A.deeper (envOfC "_law_range" (defScope s_law_range) s.heap.objs.size f cdv))) : PSs (cxOf CX0 P w K mg base n_law_range "_law_range" (defScope s_law_range) f cdv A outer s H E).nox (defBody s_law_range) (t_law_range K w q_law_range q_law_entries q_law_parts q_law_made) :=
    (pss_cons (ps_if (pt_cmpR op_eq (pe_ix ix_tup (pv 1) pe_int (fun _ _ => rfl)) pe_str (nomark _)) (pss_one (ps_ret (pe_tup (pa_cons (pe_ix ix_tup (pv 1) pe_int (fun _ _ => rfl)) (pa_cons (pe_ix ix_tup (pv 1) pe_int (fun _ _ => rfl)) pa_nil))))) pss_nil)
    (pss_cons (ps_if (pt_cmpR op_eq (pe_ix ix_tup (pv 1) pe_int (fun _ _ => rfl)) pe_str (nomark _)) (pss_one (ps_ret (pe_tup (pa_cons pe_int (pa_cons (pe_ix ix_tup (pe_ix ix_tup (pv 0) pe_int (fun _ _ => rfl)) (pe_ix ix_tup (pv 1) pe_int (fun _ _ => rfl)) (fun _ _ => rfl)) pa_nil))))) pss_nil)
    (pss_cons (ps_set (i := 2) sc_law_range.nd rfl (Or.inr rfl) (pe_lc (own := [("_law_part", 4)]) rfl sc_law_range.nd (pi_list (pe_c c_law_parts hr (by rfl) L2.pass0 (pa_cons (pv 1) pa_nil))) (blkOk_by (by rfl)) (fun _ _ _ _ _ => (pg_name (i := 4) sc_law_range.nd rfl (Or.inl rfl))) (fun _ _ _ _ _ => pts_nil) (fun _ _ _ _ _ => (pe_c c_law_range hr (by rfl) L2.pass0 (pa_cons (pv 0) (pa_cons (pv 4) pa_nil))))))
    (pss_cons (ps_if (pt_cmpR op_eq (pe_ix ix_tup (pv 1) pe_int (fun _ _ => rfl)) pe_str (nomark _)) (pss_one (ps_set (i := 3) sc_law_range.nd rfl (Or.inl rfl) (pe_c c_law_entries hr (by rfl) L2.pass0 (pa_cons (pe_ix ix_tup (pv 1) pe_int (fun _ _ => rfl)) (pa_cons (pe_ix ix_tup (pe_ix ix_list (pv 2) pe_int (fun _ _ => rfl)) pe_int (fun _ _ => rfl)) (pa_cons (pe_ix ix_tup (pe_ix ix_list (pv 2) pe_int (fun _ _ => rfl)) pe_int (fun _ _ => rfl)) pa_nil)))))) (pss_one (ps_setLc (i := 3) (own := [("_law_end", 5)]) rfl sc_law_range.nd rfl rfl (sw_true rfl rfl rfl (by decide +kernel)) (pi_list (pe_lst (pa_cons pe_int (pa_cons pe_int pa_nil)))) (blkOk_by (by rfl)) (fun _ _ _ _ _ => (pg_name (i := 5) sc_law_range.nd rfl (Or.inr rfl))) (fun _ _ _ _ _ => pts_nil) (fun _ _ _ _ _ => (pe_c c_law_made hr (by rfl) L2.pass0 (pa_cons (pv 1) (pa_cons (pe_lc (own := [("_law_one", 6)]) rfl sc_law_range.nd (pi_list (pv 2)) (blkOk_by (by rfl)) (fun _ _ _ _ _ => (pg_name (i := 6) sc_law_range.nd rfl (Or.inl rfl))) (fun _ _ _ _ _ => pts_nil) (fun _ _ _ _ _ => (pe_ix ix_tup (pv 6) (pv 5) (fun _ _ => rfl)))) pa_nil)))))))
    (pss_one (ps_ret (pe_tup (pa_cons (pe_callB (cr_min rfl) (by rfl) T.min (by decide +kernel) (pa_cons (pv 3) pa_nil)) (pa_cons (pe_callB (cr_max rfl) (by rfl) T.max (by decide +kernel) (pa_cons (pv 3) pa_nil)) pa_nil)))))))))
theorem pd_law_turn {P : Program} {w : World} {K : PySem.W.Frag} {mg : Str → Option Value} {base : Heap} {k : Nat} {f : Addr} {cdv : Value} {A : Around} {outer : List Env} {s : Shared} {H : Hp} {E : XK} (T : Tops mg) {q_law_range : Sp} {q_law_entries : Sp} (c_law_range : Cal P w K mg base CX0 k "_law_range" p_law_range q_law_range) (c_law_entries : Cal P w K mg base CX0 k "_law_entries" p_law_entries q_law_entries)
    (hr : Room k (A.deeper (envOfC "_law_turn" (defScope s_law_turn) s.heap.objs.size f cdv))) : PSs (cxOf CX0 P w K mg base n_law_turn "_law_turn" (defScope s_law_turn) f cdv A outer s H E).nox (defBody s_law_turn) (t_law_turn K w q_law_range q_law_entries) :=
    (pss_cons (ps_if (PW.pt (pw_or (pt_cmpR op_eq (pe_ix ix_tup (pv 1) pe_int (fun _ _ => rfl)) pe_str (nomark _)) (pw_or1 (PW.pt (pw_and (pt_cmpR op_eq (pe_ix ix_tup (pv 1) pe_int (fun _ _ => rfl)) pe_str (nomark _)) (pw_and1 (pt_cmpR op_gt (pe_ix ix_tup (pv 1) pe_int (fun _ _ => rfl)) (pe_ix ix_tup (pv 1) pe_int (fun _ _ => rfl)) (nomark _)))))))) (pss_one (ps_ret (pe_un un_neg pe_int))) pss_nil)
    (pss_cons (ps_if (pt_cmpR op_ne (pe_ix ix_tup (pv 1) pe_int (fun _ _ => rfl)) pe_str (nomark _)) (pss_one (ps_ret pe_int)) pss_nil)
    (pss_cons (ps_asg (pe_c c_law_range hr (by rfl) L2.pass0 (pa_cons (pv 0) (pa_cons (pe_ix ix_tup (pv 1) pe_int (fun _ _ => rfl)) pa_nil))) (pg_tup rfl (pgs_cons (pg_name (i := 2) sc_law_turn.nd rfl (Or.inl rfl)) (pgs_cons (pg_name (i := 3) sc_law_turn.nd rfl (Or.inl rfl)) pgs_nil))))
    (pss_cons (ps_set (i := 4) sc_law_turn.nd rfl (Or.inr rfl) (pe_c c_law_entries hr (by rfl) L2.pass0 (pa_cons (pe_ix ix_tup (pv 1) pe_int (fun _ _ => rfl)) (pa_cons (pv 2) (pa_cons (pv 3) pa_nil)))))
    (pss_cons (ps_setLc (i := 5) (own := [("_law_at", 8)]) rfl sc_law_turn.nd rfl rfl (sw_true rfl rfl rfl (by decide +kernel)) (pi_range2 (by rfl) T.range (pa_cons pe_int (pa_cons (pe_callB cq_len (by rfl) T.len (by decide +kernel) (pa_cons (pv 4) pa_nil)) pa_nil))) (blkOk_by (by rfl)) (fun _ _ _ _ _ => (pg_name (i := 8) sc_law_turn.nd rfl (Or.inl rfl))) (fun _ _ _ _ _ => pts_nil) (fun _ _ _ _ _ => (pe_op op_sub (pe_ix ix_list (pv 4) (pv 8) (fun _ _ => rfl)) (pe_ix ix_list (pv 4) (pe_op op_sub (pv 8) pe_int) (fun _ _ => rfl)))))
    (pss_cons (ps_par (i := 6) (j := 7) rfl sc_law_turn.nd rfl rfl (by decide) rfl rfl (pa_cons (pe_cmpR (op_neD hr.units) (pe_lc (own := [("_law_step", 9)]) rfl sc_law_turn.nd (pi_list (pv 5)) (blkOk_by (by rfl)) (fun _ _ _ _ _ => (pg_name (i := 9) sc_law_turn.nd rfl (Or.inl rfl))) (fun _ _ _ _ _ => (pts_one (pt_cmpR op_gt (pv 9) pe_int (nomark _)))) (fun _ _ _ _ _ => (pv 9))) (pe_lst pa_nil) (nomark _)) (pa_cons (pe_cmpR (op_neD hr.units) (pe_lc (own := [("_law_step", 9)]) rfl sc_law_turn.nd (pi_list (pv 5)) (blkOk_by (by rfl)) (fun _ _ _ _ _ => (pg_name (i := 9) sc_law_turn.nd rfl (Or.inl rfl))) (fun _ _ _ _ _ => (pts_one (pt_cmpR op_lt (pv 9) pe_int (nomark _)))) (fun _ _ _ _ _ => (pv 9))) (pe_lst pa_nil) (nomark _)) pa_nil)) (by rfl))
    (pss_one (ps_ret (pe_ifExp (PW.pt (pw_and (pt_val (pv 6)) (pw_and1 (pt_val (pv 7))))) pe_int (pe_ifExp (pt_val (pv 7)) (pe_un un_neg pe_int) pe_int))))))))))
theorem pd_law_words {P : Program} {w : World} {K : PySem.W.Frag} {mg : Str → Option Value} {base : Heap} {k : Nat} {f : Addr} {cdv : Value} {A : Around} {outer : List Env} {s : Shared} {H : Hp} {E : XK} (T : Tops mg) {q_law_range : Sp} {q_law_parts : Sp} {q_law_words : Sp} {q_law_turn : Sp} (c_law_range : Cal P w K mg base CX0 k "_law_range" p_law_range q_law_range) (c_law_parts : Cal P w K mg base CX0 k "_law_parts" p_law_parts q_law_parts) (c_law_words : Cal P w K mg base CX0 k "_law_words" p_law_words q_law_words) (c_law_turn : Cal P w K mg base CX0 k "_law_turn" p_law_turn q_law_turn)
    (hr : Room k (A.deeper (envOfC "_law_words" (defScope s_law_words) s.heap.objs.size f cdv))) : PSs (cxOf CX0 P w K mg base n_law_words "_law_words" (defScope s_law_words) f cdv A outer s H E).nox (defBody s_law_words) (t_law_words K w q_law_range q_law_parts q_law_words q_law_turn) :=
    (pss_cons (ps_asg (pe_c c_law_range hr (by rfl) L2.pass0 (pa_cons (pv 0) (pa_cons (pv 1) pa_nil))) (pg_tup rfl (pgs_cons (pg_name (i := 4) sc_law_words.nd rfl (Or.inl rfl)) (pgs_cons (pg_name (i := 5) sc_law_words.nd rfl (Or.inl rfl)) pgs_nil))))
    (pss_cons (ps_set (i := 2) sc_law_words.nd rfl (Or.inl rfl) (pe_or (pv 2) (pe_one (pe_cmpR op_eq (pv 4) (pv 5) (nomark _)))))
    (pss_cons (ps_if (pt_cmpR op_eq (pe_ix ix_tup (pv 1) pe_int (fun _ _ => rfl)) pe_str (nomark _)) (pss_one (ps_ret (pe_lst (pa_cons (pe_ifExp (pt_val (pv 2)) pe_str (pe_ifExp (pt_cmpR op_eq (pv 3) pe_int (nomark _)) pe_str (pe_ifExp (pt_cmpR op_lt (pv 3) pe_int (nomark _)) pe_str pe_str))) pa_nil)))) pss_nil)
    (pss_cons (ps_set (i := 6) sc_law_words.nd rfl (Or.inl rfl) (pe_lst pa_nil))
    (pss_cons (ps_for PassesOwn.never rfl (pi_list (pe_c c_law_parts hr (by rfl) L2.pass0 (pa_cons (pv 1) pa_nil))) (pg_name (i := 7) sc_law_words.nd rfl (Or.inl rfl)) (pss_one (ps_set (i := 6) sc_law_words.nd rfl (Or.inl rfl) (pe_op op_cat (pv 6) (pe_c c_law_words hr (by rfl) L2.pass0 (pa_cons (pv 0) (pa_cons (pv 7) (pa_cons (pv 2) (pa_cons (pe_op op_mul (pv 3) (pe_c c_law_turn hr (by rfl) L2.pass0 (pa_cons (pv 0) (pa_cons (pv 1) pa_nil)))) pa_nil)))))))))
    (pss_one (ps_ret (pv 6))))))))
theorem pd_law_ways {P : Program} {w : World} {K : PySem.W.Frag} {mg : Str → Option Value} {base : Heap} {k : Nat} {f : Addr} {cdv : Value} {A : Around} {outer : List Env} {s : Shared} {H : Hp} {E : XK} (T : Tops mg) {q_law_range : Sp} {q_law_words : Sp} (c_law_range : Cal P w K mg base CX0 k "_law_range" p_law_range q_law_range) (c_law_words : Cal P w K mg base CX0 k "_law_words" p_law_words q_law_words)
    (hr : Room k (A.deeper (envOfC "_law_ways" (defScope s_law_ways) s.heap.objs.size f cdv))) : PSs (cxOf CX0 P w K mg base n_law_ways "_law_ways" (defScope s_law_ways) f cdv A outer s H E).nox (defBody s_law_ways) (t_law_ways K w q_law_range q_law_words) :=
    (pss_cons (ps_asg (pe_c c_law_range hr (by rfl) L2.pass0 (pa_cons (pv 0) (pa_cons (pe_ix ix_tup (pe_ix ix_tup (pv 0) pe_int (fun _ _ => rfl)) (pv 1) (fun _ _ => rfl)) pa_nil))) (pg_tup rfl (pgs_cons (pg_name (i := 2) sc_law_ways.nd rfl (Or.inl rfl)) (pgs_cons (pg_name (i := 3) sc_law_ways.nd rfl (Or.inl rfl)) pgs_nil))))
    (pss_one (ps_ret (pe_c c_law_words hr (by rfl) L2.pass0 (pa_cons (pv 0) (pa_cons (pe_ix ix_tup (pe_ix ix_tup (pv 0) pe_int (fun _ _ => rfl)) (pv 1) (fun _ _ => rfl)) (pa_cons (pe_cmpR op_eq (pe_callB (cq_min2 rfl) (by rfl) T.min (by decide +kernel) (pa_cons (pv 2) (pa_cons (pe_ix ix_tup (pe_ix ix_tup (pv 0) pe_int (fun _ _ => rfl)) (pv 1) (fun _ _ => rfl)) pa_nil))) (pe_callB (cq_min2 rfl) (by rfl) T.min (by decide +kernel) (pa_cons (pv 3) (pa_cons (pe_ix ix_tup (pe_ix ix_tup (pv 0) pe_int (fun _ _ => rfl)) (pv 1) (fun _ _ => rfl)) pa_nil))) (nomark _)) (pa_cons pe_int pa_nil))))))))
theorem pd_law_many_rows {P : Program} {w : World} {K : PySem.W.Frag} {mg : Str → Option Value} {base : Heap} {k : Nat} {f : Addr} {cdv : Value} {A : Around} {outer : List Env} {s : Shared} {H : Hp} {E : XK} (T : Tops mg) {q_law_branches : Sp} (c_law_branches : Cal P w K mg base CX0 k "_law_branches" p_law_branches q_law_branches)
    (hr : Room k (A.deeper (envOfC "_law_many_rows" (defScope s_law_many_rows) s.heap.objs.size f cdv))) : PSs (cxOf CX0 P w K mg base n_law_many_rows "_law_many_rows" (defScope s_law_many_rows) f cdv A outer s H E).nox (defBody s_law_many_rows) (t_law_many_rows K w q_law_branches) :=
    (pss_cons (ps_set (i := 2) sc_law_many_rows.nd rfl (Or.inl rfl) pe_int)
    (pss_cons (ps_for PassesOwn.never rfl (pi_list (pe_c c_law_branches hr (by rfl) L2.pass0 (pa_cons (pe_ix ix_tup (pe_ix ix_tup (pv 0) pe_int (fun _ _ => rfl)) (pv 1) (fun _ _ => rfl)) pa_nil))) (pg_name (i := 3) sc_law_many_rows.nd rfl (Or.inl rfl)) (pss_one (ps_set (i := 2) sc_law_many_rows.nd rfl (Or.inl rfl) (pe_op op_mul (pv 2) (pe_op op_add (pe_ix ix_tup (pe_ix ix_tup (pv 0) pe_int (fun _ _ => rfl)) (pv 3) (fun _ _ => rfl)) pe_int)))))
    (pss_one (ps_ret (pv 2)))))
theorem pd_law_few {P : Program} {w : World} {K : PySem.W.Frag} {mg : Str → Option Value} {base : Heap} {k : Nat} {f : Addr} {cdv : Value} {A : Around} {outer : List Env} {s : Shared} {H : Hp} {E : XK} (T : Tops mg) {q_law_many_rows : Sp} (c_law_many_rows : Cal P w K mg base CX0 k "_law_many_rows" p_law_many_rows q_law_many_rows)
    (hr : Room k (A.deeper (envOfC "_law_few" (defScope s_law_few) s.heap.objs.size f cdv))) : PSs (cxOf CX0 P w K mg base n_law_few "_law_few" (defScope s_law_few) f cdv A outer s H E).nox (defBody s_law_few) (t_law_few K w q_law_many_rows) :=
    (pss_cons (ps_for PassesOwn.never rfl (pi_range1 (by rfl) T.range (pa_cons (pe_callB cq_len (by rfl) T.len (by decide +kernel) (pa_cons (pe_ix ix_tup (pv 0) pe_int (fun _ _ => rfl)) pa_nil)) pa_nil)) (pg_name (i := 2) sc_law_few.nd rfl (Or.inl rfl)) (pss_one (ps_if (pt_cmpR op_gt (pe_c c_law_many_rows hr (by rfl) L2.pass0 (pa_cons (pv 0) (pa_cons (pv 2) pa_nil))) (pv 1) (nomark _)) (pss_one (ps_ret pe_bl)) pss_nil)))
    (pss_one (ps_ret pe_bl)))
theorem pd_law_small_net {P : Program} {w : World} {K : PySem.W.Frag} {mg : Str → Option Value} {base : Heap} {k : Nat} {f : Addr} {cdv : Value} {A : Around} {outer : List Env} {s : Shared} {H : Hp} {E : XK} (T : Tops mg) {q_law_net : Sp} {q_law_few : Sp} (c_law_net : Cal P w K mg base CX0 k "_law_net" p_law_net q_law_net) (c_law_few : Cal P w K mg base CX0 k "_law_few" p_law_few q_law_few)
    (hr : Room k (A.deeper (envOfC "_law_small_net" (defScope s_law_small_net) s.heap.objs.size f cdv))) : PSs (cxOf CX0 P w K mg base n_law_small_net "_law_small_net" (defScope s_law_small_net) f cdv A outer s H E).nox (defBody s_law_small_net) (t_law_small_net K w q_law_net q_law_few) :=
    (pss_cons (ps_for PassesOwn.never rfl (pi_range1 (by rfl) T.range (pa_cons pe_int pa_nil)) (pg_name (i := 4) sc_law_small_net.nd rfl (Or.inl rfl)) (pss_cons (ps_set (i := 5) sc_law_small_net.nd rfl (Or.inl rfl) (pe_c c_law_net hr (by rfl) L2.pass0 (pa_cons (pv 0) (pa_cons (pv 1) (pa_cons (pv 2) (pa_cons (pv 3) pa_nil))))))
    (pss_one (ps_if (pt_val (pe_c c_law_few hr (by rfl) L2.pass0 (pa_cons (pv 5) (pa_cons pe_int pa_nil)))) (pss_one (ps_ret (pv 5))) pss_nil))))
    (pss_one (ps_ret (pe_tup (pa_cons (pe_tup (pa_cons pe_int (pa_cons pe_int pa_nil))) (pa_cons (pe_tup (pa_cons (pe_tup (pa_cons pe_str (pa_cons pe_int (pa_cons (pe_tup (pa_cons pe_str (pa_cons pe_int pa_nil))) pa_nil)))) (pa_cons (pe_tup (pa_cons pe_str (pa_cons pe_int pa_nil))) pa_nil))) pa_nil))))))
theorem pd_law_brought {P : Program} {w : World} {K : PySem.W.Frag} {mg : Str → Option Value} {base : Heap} {k : Nat} {f : Addr} {cdv : Value} {A : Around} {outer : List Env} {s : Shared} {H : Hp} {E : XK} (T : Tops mg)
    (hr : Room k (A.deeper (envOfC "_law_brought" (defScope s_law_brought) s.heap.objs.size f cdv))) : PSs (cxOf CX0 P w K mg base n_law_brought "_law_brought" (defScope s_law_brought) f cdv A outer s H E).nox (defBody s_law_brought) (t_law_brought K w) :=
    (pss_cons (ps_set (i := 2) sc_law_brought.nd rfl (Or.inl rfl) (pe_lst (pa_cons (pe_tup pa_nil) pa_nil)))
    (pss_cons (ps_for PassesOwn.never rfl (pi_list (pv 1)) (pg_name (i := 3) sc_law_brought.nd rfl (Or.inl rfl)) (pss_cons (ps_set (i := 4) sc_law_brought.nd rfl (Or.inl rfl) (pe_lst pa_nil))
    (pss_cons (ps_for PassesOwn.never rfl (pi_list (pv 2)) (pg_name (i := 5) sc_law_brought.nd rfl (Or.inr rfl)) (pss_one (ps_set (i := 4) sc_law_brought.nd rfl (Or.inl rfl) (pe_op op_cat (pv 4) (pe_lc (own := [("_law_worth", 6)]) rfl sc_law_brought.nd (pi_tup (pe_ix ix_tup (pv 0) (pv 3) (fun _ _ => rfl))) (blkOk_by (by rfl)) (fun _ _ _ _ _ => (pg_name (i := 6) sc_law_brought.nd rfl (Or.inl rfl))) (fun _ _ _ _ _ => pts_nil) (fun _ _ _ _ _ => (pe_op op_catA (pv 5) (pe_tup (pa_cons (pv 6) pa_nil)))))))))
    (pss_one (ps_set (i := 2) sc_law_brought.nd rfl (Or.inl rfl) (pv 4))))))
    (pss_one (ps_ret (pv 2)))))
theorem pd_law_lots_next {P : Program} {w : World} {K : PySem.W.Frag} {mg : Str → Option Value} {base : Heap} {k : Nat} {f : Addr} {cdv : Value} {A : Around} {outer : List Env} {s : Shared} {H : Hp} {E : XK} (T : Tops mg) {q_law_wants : Sp} {q_law_brought : Sp} {q_law_branches : Sp} (c_law_wants : Cal P w K mg base CX0 k "_law_wants" p_law_wants q_law_wants) (c_law_brought : Cal P w K mg base CX0 k "_law_brought" p_law_brought q_law_brought) (c_law_branches : Cal P w K mg base CX0 k "_law_branches" p_law_branches q_law_branches)
    (hr : Room k (A.deeper (envOfC "_law_lots_next" (defScope s_law_lots_next) s.heap.objs.size f cdv))) : PSs (cxOf CX0 P w K mg base n_law_lots_next "_law_lots_next" (defScope s_law_lots_next) f cdv A outer s H E).nox (defBody s_law_lots_next) (t_law_lots_next K w q_law_wants q_law_brought q_law_branches) :=
    (pss_cons (ps_set (i := 2) sc_law_lots_next.nd rfl (Or.inl rfl) (pe_lst pa_nil))
    (pss_cons (ps_for PassesOwn.never rfl (pi_range1 (by rfl) T.range (pa_cons (pe_callB cq_len (by rfl) T.len (by decide +kernel) (pa_cons (pe_ix ix_tup (pv 0) pe_int (fun _ _ => rfl)) pa_nil)) pa_nil)) (pg_name (i := 3) sc_law_lots_next.nd rfl (Or.inr rfl)) (pss_cons (ps_setLc (i := 4) (own := [("_law_row", 5)]) rfl sc_law_lots_next.nd rfl rfl (sw_true rfl rfl rfl (by decide +kernel)) (pi_list (pe_c c_law_brought hr (by rfl) L2.pass0 (pa_cons (pv 1) (pa_cons (pe_c c_law_branches hr (by rfl) L2.pass0 (pa_cons (pe_ix ix_tup (pe_ix ix_tup (pv 0) pe_int (fun _ _ => rfl)) (pv 3) (fun _ _ => rfl)) pa_nil)) pa_nil)))) (blkOk_by (by rfl)) (fun _ _ _ _ _ => (pg_name (i := 5) sc_law_lots_next.nd rfl (Or.inl rfl))) (fun _ _ _ _ _ => pts_nil) (fun _ _ _ _ _ => (pe_c c_law_wants hr (by rfl) L2.pass0 (pa_cons (pv 0) (pa_cons (pv 3) (pa_cons (pv 5) pa_nil))))))
    (pss_one (ps_expr (pe_bm PySem.F.plainAttrs_list PySem.F.slot_list_append PySem.F.type_list_append mt_append (pv 2) (pa_cons (pe_callTy cq_tup (by rfl) T.tuple_ (by decide +kernel) (pa_cons (pe_callB (cr_sortSet rfl) (by rfl) T.sorted (by decide +kernel) (pa_cons (pe_callTy (cr_setI rfl) (by rfl) T.set_ (by decide +kernel) (pa_cons (pv 4) pa_nil)) pa_nil)) pa_nil)) pa_nil))))))
    (pss_one (ps_ret (pe_callTy cq_tup (by rfl) T.tuple_ (by decide +kernel) (pa_cons (pv 2) pa_nil))))))
theorem pd_law_lot_rounds {P : Program} {w : World} {K : PySem.W.Frag} {mg : Str → Option Value} {base : Heap} {k : Nat} {f : Addr} {cdv : Value} {A : Around} {outer : List Env} {s : Shared} {H : Hp} {E : XK} (T : Tops mg) {q_law_lots_next : Sp} (c_law_lots_next : Cal P w K mg base CX0 k "_law_lots_next" p_law_lots_next q_law_lots_next)
    (hr : Room k (A.deeper (envOfC "_law_lot_rounds" (defScope s_law_lot_rounds) s.heap.objs.size f cdv))) : PSs (cxOf CX0 P w K mg base n_law_lot_rounds "_law_lot_rounds" (defScope s_law_lot_rounds) f cdv A outer s H E).nox (defBody s_law_lot_rounds) (t_law_lot_rounds K w q_law_lots_next) :=
    (pss_cons (ps_set (i := 1) sc_law_lot_rounds.nd rfl (Or.inl rfl) (pe_lst (pa_cons (pe_callTy cq_tup (by rfl) T.tuple_ (by decide +kernel) (pa_cons (pe_lc (own := [("_law_top", 4)]) rfl sc_law_lot_rounds.nd (pi_tup (pe_ix ix_tup (pv 0) pe_int (fun _ _ => rfl))) (blkOk_by (by rfl)) (fun _ _ _ _ _ => (pg_name (i := 4) sc_law_lot_rounds.nd rfl (Or.inl rfl))) (fun _ _ _ _ _ => pts_nil) (fun _ _ _ _ _ => (pe_tupRg rfl (by rfl) T.tuple_ (prg_1 (by rfl) T.range (pe_op op_add (pv 4) pe_int))))) pa_nil)) pa_nil)))
    (pss_cons (ps_for PassesOwn.never rfl (pi_range1 (by rfl) T.range (pa_cons (pe_op op_add (pe_callB (cr_sumT rfl) (by rfl) T.sum (by decide +kernel) (pa_cons (pe_ix ix_tup (pv 0) pe_int (fun _ _ => rfl)) pa_nil)) pe_int) pa_nil)) (pg_name (i := 2) sc_law_lot_rounds.nd rfl (Or.inl rfl)) (pss_cons (ps_set (i := 3) sc_law_lot_rounds.nd rfl (Or.inl rfl) (pe_c c_law_lots_next hr (by rfl) L2.pass0 (pa_cons (pv 0) (pa_cons (pe_ix ix_list (pv 1) (pe_un un_neg pe_int) (fun _ _ => rfl)) pa_nil))))
    (pss_cons (ps_if (pt_cmpR (op_eqD hr.units) (pv 3) (pe_ix ix_list (pv 1) (pe_un un_neg pe_int) (fun _ _ => rfl)) (nomark _)) (pss_one (ps_ret (pv 1))) pss_nil)
    (pss_one (ps_expr (pe_bm PySem.F.plainAttrs_list PySem.F.slot_list_append PySem.F.type_list_append mt_append (pv 1) (pa_cons (pv 3) pa_nil)))))))
    (pss_one (ps_ret (pv 1)))))
theorem pd_law_doubled {P : Program} {w : World} {K : PySem.W.Frag} {mg : Str → Option Value} {base : Heap} {k : Nat} {f : Addr} {cdv : Value} {A : Around} {outer : List Env} {s : Shared} {H : Hp} {E : XK} (T : Tops mg) {q_law_ways : Sp} {q_law_branches : Sp} {q_law_wants : Sp} (c_law_ways : Cal P w K mg base CX0 k "_law_ways" p_law_ways q_law_ways) (c_law_branches : Cal P w K mg base CX0 k "_law_branches" p_law_branches q_law_branches) (c_law_wants : Cal P w K mg base CX0 k "_law_wants" p_law_wants q_law_wants)
    (hr : Room k (A.deeper (envOfC "_law_doubled" (defScope s_law_doubled) s.heap.objs.size f cdv))) : PSs (cxOf CX0 P w K mg base n_law_doubled "_law_doubled" (defScope s_law_doubled) f cdv A outer s H E).nox (defBody s_law_doubled) (t_law_doubled K w q_law_ways q_law_branches q_law_wants) :=
    (pss_cons (ps_par (i := 2) (j := 3) rfl sc_law_doubled.nd rfl rfl (by decide) rfl rfl (pa_cons (pe_lst pa_nil) (pa_cons (pe_lst pa_nil) pa_nil)) (by rfl))
    (pss_cons (ps_for PassesOwn.never rfl (pi_range1 (by rfl) T.range (pa_cons (pe_callB cq_len (by rfl) T.len (by decide +kernel) (pa_cons (pe_ix ix_tup (pv 0) pe_int (fun _ _ => rfl)) pa_nil)) pa_nil)) (pg_name (i := 4) sc_law_doubled.nd rfl (Or.inl rfl)) (pss_cons (ps_par (i := 5) (j := 6) rfl sc_law_doubled.nd rfl rfl (by decide) rfl rfl (pa_cons (pe_lst pa_nil) (pa_cons (pe_lst pa_nil) pa_nil)) (by rfl))
    (pss_cons (ps_for PassesOwn.never rfl (pi_zip (by rfl) T.zip (pa_cons (pe_c c_law_ways hr (by rfl) L2.pass0 (pa_cons (pv 0) (pa_cons (pv 4) pa_nil))) (pa_cons (pe_c c_law_branches hr (by rfl) L2.pass0 (pa_cons (pe_ix ix_tup (pe_ix ix_tup (pv 0) pe_int (fun _ _ => rfl)) (pv 4) (fun _ _ => rfl)) pa_nil)) pa_nil))) (pg_tup rfl (pgs_cons (pg_name (i := 7) sc_law_doubled.nd rfl (Or.inl rfl)) (pgs_cons (pg_name (i := 8) sc_law_doubled.nd rfl (Or.inl rfl)) pgs_nil))) (pss_cons (ps_expr (pe_bm PySem.F.plainAttrs_list PySem.F.slot_list_append PySem.F.type_list_append mt_append (pv 5) (pa_cons (pe_ifExp (pt_cmpR op_eq (pv 7) pe_str (nomark _)) (pe_ix ix_tup (pe_ix ix_tup (pv 1) pe_int (fun _ _ => rfl)) (pv 8) (fun _ _ => rfl)) (pe_ix ix_tup (pe_ix ix_tup (pv 1) pe_int (fun _ _ => rfl)) (pv 8) (fun _ _ => rfl))) pa_nil)))
    (pss_one (ps_expr (pe_bm PySem.F.plainAttrs_list PySem.F.slot_list_append PySem.F.type_list_append mt_append (pv 6) (pa_cons (pe_ifExp (pt_cmpR op_eq (pv 7) pe_str (nomark _)) (pe_ix ix_tup (pe_ix ix_tup (pv 1) pe_int (fun _ _ => rfl)) (pv 8) (fun _ _ => rfl)) (pe_ix ix_tup (pe_ix ix_tup (pv 1) pe_int (fun _ _ => rfl)) (pv 8) (fun _ _ => rfl))) pa_nil))))))
    (pss_cons (ps_expr (pe_bm PySem.F.plainAttrs_list PySem.F.slot_list_append PySem.F.type_list_append mt_append (pv 2) (pa_cons (pe_c c_law_wants hr (by rfl) L2.pass0 (pa_cons (pv 0) (pa_cons (pv 4) (pa_cons (pv 5) pa_nil)))) pa_nil)))
    (pss_one (ps_expr (pe_bm PySem.F.plainAttrs_list PySem.F.slot_list_append PySem.F.type_list_append mt_append (pv 3) (pa_cons (pe_c c_law_wants hr (by rfl) L2.pass0 (pa_cons (pv 0) (pa_cons (pv 4) (pa_cons (pv 6) pa_nil)))) pa_nil))))))))
    (pss_one (ps_ret (pe_tup (pa_cons (pe_callTy cq_tup (by rfl) T.tuple_ (by decide +kernel) (pa_cons (pv 2) pa_nil)) (pa_cons (pe_callTy cq_tup (by rfl) T.tuple_ (by decide +kernel) (pa_cons (pv 3) pa_nil)) pa_nil)))))))
theorem pd_law_one_way {P : Program} {w : World} {K : PySem.W.Frag} {mg : Str → Option Value} {base : Heap} {k : Nat} {f : Addr} {cdv : Value} {A : Around} {outer : List Env} {s : Shared} {H : Hp} {E : XK} (T : Tops mg) {q_law_ways : Sp} (c_law_ways : Cal P w K mg base CX0 k "_law_ways" p_law_ways q_law_ways)
    (hr : Room k (A.deeper (envOfC "_law_one_way" (defScope s_law_one_way) s.heap.objs.size f cdv))) : PSs (cxOf CX0 P w K mg base n_law_one_way "_law_one_way" (defScope s_law_one_way) f cdv A outer s H E).nox (defBody s_law_one_way) (t_law_one_way K w q_law_ways) :=
    (pss_cons (ps_for PassesOwn.never rfl (pi_range1 (by rfl) T.range (pa_cons (pe_callB cq_len (by rfl) T.len (by decide +kernel) (pa_cons (pe_ix ix_tup (pv 0) pe_int (fun _ _ => rfl)) pa_nil)) pa_nil)) (pg_name (i := 1) sc_law_one_way.nd rfl (Or.inl rfl)) (pss_one (ps_if (pt_cmpR op_in_seq pe_str (pe_c c_law_ways hr (by rfl) L2.pass0 (pa_cons (pv 0) (pa_cons (pv 1) pa_nil))) (by rfl)) (pss_one (ps_ret pe_bl)) pss_nil)))
    (pss_one (ps_ret pe_bl)))
theorem pd_law_right {P : Program} {w : World} {K : PySem.W.Frag} {mg : Str → Option Value} {base : Heap} {k : Nat} {f : Addr} {cdv : Value} {A : Around} {outer : List Env} {s : Shared} {H : Hp} {E : XK} (T : Tops mg) {q_law_lot_rounds : Sp} {q_law_one_way : Sp} {q_law_doubled : Sp} {q_first_lots : Sp} {q_lot_rounds : Sp} {q_last_lots : Sp} {q_known_rounds : Sp} {q_is_sure : Sp} (c_law_lot_rounds : Cal P w K mg base CX0 k "_law_lot_rounds" p_law_lot_rounds q_law_lot_rounds) (c_law_one_way : Cal P w K mg base CX0 k "_law_one_way" p_law_one_way q_law_one_way) (c_law_doubled : Cal P w K mg base CX0 k "_law_doubled" p_law_doubled q_law_doubled) (k_first_lots : CalK P w K mg base CX0 k "first_lots" p_first_lots p_first_lots q_first_lots (fun ws => ws)) (c_lot_rounds : Cal P w K mg base (L2.CX P w) k "lot_rounds" p_lot_rounds q_lot_rounds) (k_lot_rounds : CalK P w K mg base (L2.CX P w) k "lot_rounds" p_lot_rounds p_lot_rounds q_lot_rounds (fun ws => ws)) (c_last_lots : Cal P w K mg base (L2.CX P w) k "last_lots" p_last_lots q_last_lots) (k_last_lots : CalK P w K mg base (L2.CX P w) k "last_lots" p_last_lots p_last_lots q_last_lots (fun ws => ws)) (c_known_rounds : Cal P w K mg base (L2.CX P w) k "known_rounds" p_known_rounds q_known_rounds) (k_known_rounds : CalK P w K mg base (L2.CX P w) k "known_rounds" p_known_rounds p_known_rounds q_known_rounds (fun ws => ws)) (c_is_sure : Cal P w K mg base (L2.CX P w) k "is_sure" p_is_sure q_is_sure) (k_is_sure : CalK P w K mg base (L2.CX P w) k "is_sure" p_is_sure p_is_sure q_is_sure (fun ws => ws))
    (hr : Room k (A.deeper (envOfC "_law_right" (defScope s_law_right) s.heap.objs.size f cdv))) (hg : A.guards = some []) : PSs (cxOf CX0 P w K mg base n_law_right "_law_right" (defScope s_law_right) f cdv A outer s H E).nox (defBody s_law_right) (t_law_right K w q_law_lot_rounds q_law_one_way q_law_doubled q_first_lots q_lot_rounds q_last_lots q_known_rounds q_is_sure) :=
    (pss_cons (ps_set (i := 1) sc_law_right.nd rfl (Or.inr rfl) (pe_c c_law_lot_rounds hr (by rfl) L2.pass0 (pa_cons (pv 0) pa_nil)))
    (pss_cons (ps_if (PW.pt (pw_or (pt_cmpR op_ne (pe_callB (cr_repr hr.units hg) (by rfl) T.repr (by decide +kernel) (pa_cons (pe_ck k_first_lots hr (by rfl) L2.pass0 (pk_cons (pv 0) pk_nil) (fun h => h) (fun _ h => h)) pa_nil)) (pe_callB (cr_repr hr.units hg) (by rfl) T.repr (by decide +kernel) (pa_cons (pe_ix ix_list (pv 1) pe_int (fun _ _ => rfl)) pa_nil)) (nomark _)) (pw_or (pt_cmpR op_ne (pe_callB (cr_repr hr.units hg) (by rfl) T.repr (by decide +kernel) (pa_cons (pe_c c_lot_rounds hr (by rfl) passL (pa_cons (pv 0) pa_nil)) pa_nil)) (pe_callB (cr_repr hr.units hg) (by rfl) T.repr (by decide +kernel) (pa_cons (pe_callTy cq_tup (by rfl) T.tuple_ (by decide +kernel) (pa_cons (pv 1) pa_nil)) pa_nil)) (nomark _)) (pw_or1 (pt_cmpR op_ne (pe_callB (cr_repr hr.units hg) (by rfl) T.repr (by decide +kernel) (pa_cons (pe_ck k_lot_rounds hr (by rfl) passL (pk_cons (pv 0) pk_nil) (fun h => h) (fun _ h => h)) pa_nil)) (pe_callB (cr_repr hr.units hg) (by rfl) T.repr (by decide +kernel) (pa_cons (pe_callTy cq_tup (by rfl) T.tuple_ (by decide +kernel) (pa_cons (pv 1) pa_nil)) pa_nil)) (nomark _)))))) (pss_one (ps_ret pe_bl)) pss_nil)
    (pss_cons (ps_if (PW.pt (pw_or (pt_cmpR op_ne (pe_callB (cr_repr hr.units hg) (by rfl) T.repr (by decide +kernel) (pa_cons (pe_ck k_last_lots hr (by rfl) passL (pk_cons (pv 0) pk_nil) (fun h => h) (fun _ h => h)) pa_nil)) (pe_callB (cr_repr hr.units hg) (by rfl) T.repr (by decide +kernel) (pa_cons (pe_ix ix_list (pv 1) (pe_un un_neg pe_int) (fun _ _ => rfl)) pa_nil)) (nomark _)) (pw_or1 (pt_cmpR op_ne (pe_callB (cr_repr hr.units hg) (by rfl) T.repr (by decide +kernel) (pa_cons (pe_c c_last_lots hr (by rfl) passL (pa_cons (pv 0) pa_nil)) pa_nil)) (pe_callB (cr_repr hr.units hg) (by rfl) T.repr (by decide +kernel) (pa_cons (pe_ix ix_list (pv 1) (pe_un un_neg pe_int) (fun _ _ => rfl)) pa_nil)) (nomark _))))) (pss_one (ps_ret pe_bl)) pss_nil)
    (pss_cons (ps_set (i := 2) sc_law_right.nd rfl (Or.inl rfl) (pe_lst pa_nil))
    (pss_cons (ps_for PassesOwn.never rfl (pi_range1 (by rfl) T.range (pa_cons (pe_callB cq_len (by rfl) T.len (by decide +kernel) (pa_cons (pe_ix ix_tup (pv 0) pe_int (fun _ _ => rfl)) pa_nil)) pa_nil)) (pg_name (i := 3) sc_law_right.nd rfl (Or.inr rfl)) (pss_cons (ps_setLc (i := 4) (own := [("_law_at", 7)]) rfl sc_law_right.nd rfl rfl (sw_true rfl rfl rfl (by decide +kernel)) (pi_range1 (by rfl) T.range (pa_cons (pe_callB cq_len (by rfl) T.len (by decide +kernel) (pa_cons (pv 1) pa_nil)) pa_nil)) (blkOk_by (by rfl)) (fun _ _ _ _ _ => (pg_name (i := 7) sc_law_right.nd rfl (Or.inl rfl))) (fun _ _ _ _ _ => (pts_one (pt_cmpR op_eq (pe_callB cq_len (by rfl) T.len (by decide +kernel) (pa_cons (pe_ix ix_tup (pe_ix ix_list (pv 1) (pv 7) (fun _ _ => rfl)) (pv 3) (fun _ _ => rfl)) pa_nil)) pe_int (nomark _)))) (fun _ _ _ _ _ => (pv 7)))
    (pss_one (ps_expr (pe_bm PySem.F.plainAttrs_list PySem.F.slot_list_append PySem.F.type_list_append mt_append (pv 2) (pa_cons (pe_ifExp (pt_cmpR (op_neD hr.units) (pv 4) (pe_lst pa_nil) (nomark _)) (pe_ix ix_list (pv 4) pe_int (fun _ _ => rfl)) pe_non) pa_nil))))))
    (pss_cons (ps_if (PW.pt (pw_or (pt_cmpR op_ne (pe_callB (cr_repr hr.units hg) (by rfl) T.repr (by decide +kernel) (pa_cons (pe_ck k_known_rounds hr (by rfl) passL (pk_cons (pv 0) pk_nil) (fun h => h) (fun _ h => h)) pa_nil)) (pe_callB (cr_repr hr.units hg) (by rfl) T.repr (by decide +kernel) (pa_cons (pe_callTy cq_tup (by rfl) T.tuple_ (by decide +kernel) (pa_cons (pv 2) pa_nil)) pa_nil)) (nomark _)) (pw_or1 (pt_cmpR op_ne (pe_callB (cr_repr hr.units hg) (by rfl) T.repr (by decide +kernel) (pa_cons (pe_ck k_is_sure hr (by rfl) passL (pk_cons (pv 0) pk_nil) (fun h => h) (fun _ h => h)) pa_nil)) (pe_callB (cr_repr hr.units hg) (by rfl) T.repr (by decide +kernel) (pa_cons (pe_cmpR op_notIn_seq pe_non (pv 2) (by rfl)) pa_nil)) (nomark _))))) (pss_one (ps_ret pe_bl)) pss_nil)
    (pss_cons (ps_if (pt_val (pe_c c_law_one_way hr (by rfl) L2.pass0 (pa_cons (pv 0) pa_nil))) (pss_cons (ps_set (i := 5) sc_law_right.nd rfl (Or.inl rfl) (pe_tup (pa_cons (pe_op op_repU (pe_tup (pa_cons pe_int pa_nil)) (pe_callB cq_len (by rfl) T.len (by decide +kernel) (pa_cons (pe_ix ix_tup (pv 0) pe_int (fun _ _ => rfl)) pa_nil))) (pa_cons (pe_ix ix_tup (pv 0) pe_int (fun _ _ => rfl)) pa_nil))))
    (pss_one (ps_for PassesOwn.never rfl (pi_list (pv 1)) (pg_name (i := 6) sc_law_right.nd rfl (Or.inl rfl)) (pss_cons (ps_if (pt_cmpR (op_neD hr.units) (pv 5) (pe_tup (pa_cons (pe_callTy cq_tup (by rfl) T.tuple_ (by decide +kernel) (pa_cons (pe_lc (own := [("_law_lot", 8)]) rfl sc_law_right.nd (pi_tup (pv 6)) (blkOk_by (by rfl)) (fun _ _ _ _ _ => (pg_name (i := 8) sc_law_right.nd rfl (Or.inl rfl))) (fun _ _ _ _ _ => pts_nil) (fun _ _ _ _ _ => (pe_ix ix_tup (pv 8) pe_int (fun _ _ => rfl)))) pa_nil)) (pa_cons (pe_callTy cq_tup (by rfl) T.tuple_ (by decide +kernel) (pa_cons (pe_lc (own := [("_law_lot", 8)]) rfl sc_law_right.nd (pi_tup (pv 6)) (blkOk_by (by rfl)) (fun _ _ _ _ _ => (pg_name (i := 8) sc_law_right.nd rfl (Or.inl rfl))) (fun _ _ _ _ _ => pts_nil) (fun _ _ _ _ _ => (pe_ix ix_tup (pv 8) (pe_un un_neg pe_int) (fun _ _ => rfl)))) pa_nil)) pa_nil))) (nomark _)) (pss_one (ps_ret pe_bl)) pss_nil)
    (pss_one (ps_set (i := 5) sc_law_right.nd rfl (Or.inl rfl) (pe_c c_law_doubled hr (by rfl) L2.pass0 (pa_cons (pv 0) (pa_cons (pv 5) pa_nil))))))))) pss_nil)
    (pss_one (ps_ret (pe_and (pe_cmpR op_eq (pe_callB (cr_repr hr.units hg) (by rfl) T.repr (by decide +kernel) (pa_cons (pe_c c_known_rounds hr (by rfl) passL (pa_cons (pv 0) pa_nil)) pa_nil)) (pe_callB (cr_repr hr.units hg) (by rfl) T.repr (by decide +kernel) (pa_cons (pe_callTy cq_tup (by rfl) T.tuple_ (by decide +kernel) (pa_cons (pv 2) pa_nil)) pa_nil)) (nomark _)) (pe_one (pe_cmpR op_eq (pe_callB (cr_repr hr.units hg) (by rfl) T.repr (by decide +kernel) (pa_cons (pe_c c_is_sure hr (by rfl) passL (pa_cons (pv 0) pa_nil)) pa_nil)) (pe_callB (cr_repr hr.units hg) (by rfl) T.repr (by decide +kernel) (pa_cons (pe_cmpR op_notIn_seq pe_non (pv 2) (by rfl)) pa_nil)) (nomark _)))))))))))))
theorem pd_law {P : Program} {w : World} {K : PySem.W.Frag} {mg : Str → Option Value} {base : Heap} {k : Nat} {f : Addr} {cdv : Value} {A : Around} {outer : List Env} {s : Shared} {H : Hp} {E : XK} (T : Tops mg) {q_law_draw : Sp} {q_law_small_net : Sp} {q_law_lots_next : Sp} {q_law_refused : Sp} {q_law_right : Sp} {q_law_any : Sp} {q_lots_next : Sp} (c_law_draw : Cal P w K mg base CX0 k "_law_draw" p_law_draw q_law_draw) (c_law_small_net : Cal P w K mg base CX0 k "_law_small_net" p_law_small_net q_law_small_net) (c_law_lots_next : Cal P w K mg base CX0 k "_law_lots_next" p_law_lots_next q_law_lots_next) (c_law_refused : Cal P w K mg base CX0 k "_law_refused" p_law_refused q_law_refused) (c_law_right : CalG P w K mg base k "_law_right" p_law_right q_law_right) (c_law_any : Cal P w K mg base CX0 k "_law_any" p_law_any q_law_any) (c_lots_next : Cal P w K mg base (L2.CX P w) k "lots_next" p_lots_next q_lots_next) (k_lots_next : CalK P w K mg base (L2.CX P w) k "lots_next" p_lots_next ["lots", "net"] q_lots_next List.reverse)
    (hr : Room k (A.deeper (envOfC "law" (defScope s_law) s.heap.objs.size f cdv))) (hg : A.guards = some []) : PSs (cxOf CX0 P w K mg base n_law "law" (defScope s_law) f cdv A outer s H E).nox (defBody s_law) (t_law K w q_law_draw q_law_small_net q_law_lots_next q_law_refused q_law_right q_law_any q_lots_next) :=
    (pss_cons (ps_set (i := 1) sc_law.nd rfl (Or.inr rfl) (pe_c c_law_draw hr (by rfl) L2.pass0 (pa_cons (pv 0) (pa_cons pe_int pa_nil))))
    (pss_cons (ps_for PassesOwn.never rfl (pi_range1 (by rfl) T.range (pa_cons pe_int pa_nil)) (pg_name (i := 2) sc_law.nd rfl (Or.inl rfl)) (pss_cons (ps_set (i := 3) sc_law.nd rfl (Or.inl rfl) (pe_c c_law_small_net hr (by rfl) L2.pass0 (pa_cons (pv 1) (pa_cons pe_int (pa_cons pe_int (pa_cons (pe_cmpR op_lt (pv 2) pe_int (nomark _)) pa_nil))))))
    (pss_cons (ps_if (pt_not (pt_val (pe_cg c_law_right hg hr (by rfl) (pa_cons (pv 3) pa_nil)))) (pss_one (ps_ret pe_bl)) pss_nil)
    (pss_cons (ps_set (i := 4) sc_law.nd rfl (Or.inl rfl) (pe_lst pa_nil))
    (pss_cons (ps_for PassesOwn.never rfl (pi_tup (pe_ix ix_tup (pv 3) pe_int (fun _ _ => rfl))) (pg_name (i := 5) sc_law.nd rfl (Or.inl rfl)) (pss_cons (ps_setLc (i := 6) (own := [("_law_worth", 12)]) rfl sc_law.nd rfl rfl (sw_true rfl rfl rfl (by decide +kernel)) (pi_range1 (by rfl) T.range (pa_cons (pe_op op_add (pv 5) pe_int) pa_nil)) (blkOk_by (by rfl)) (fun _ _ _ _ _ => (pg_name (i := 12) sc_law.nd rfl (Or.inl rfl))) (fun _ _ _ _ _ => (pts_one (pt_cmpR op_eq (pe_c c_law_any hr (by rfl) L2.pass0 (pa_cons (pv 1) (pa_cons pe_int pa_nil))) pe_int (nomark _)))) (fun _ _ _ _ _ => (pv 12)))
    (pss_one (ps_expr (pe_bm PySem.F.plainAttrs_list PySem.F.slot_list_append PySem.F.type_list_append mt_append (pv 4) (pa_cons (pe_ifExp (pt_cmpR (op_neD hr.units) (pv 6) (pe_lst pa_nil) (nomark _)) (pe_callTy cq_tup (by rfl) T.tuple_ (by decide +kernel) (pa_cons (pv 6) pa_nil)) (pe_tup (pa_cons (pe_c c_law_any hr (by rfl) L2.pass0 (pa_cons (pv 1) (pa_cons (pe_op op_add (pv 5) pe_int) pa_nil))) pa_nil))) pa_nil))))))
    (pss_cons (ps_set (i := 7) sc_law.nd rfl (Or.inl rfl) (pe_c c_law_lots_next hr (by rfl) L2.pass0 (pa_cons (pv 3) (pa_cons (pe_callTy cq_tup (by rfl) T.tuple_ (by decide +kernel) (pa_cons (pv 4) pa_nil)) pa_nil))))
    (pss_one (ps_if (PW.pt (pw_or (pt_cmpR op_ne (pe_callB (cr_repr hr.units hg) (by rfl) T.repr (by decide +kernel) (pa_cons (pe_c c_lots_next hr (by rfl) passL (pa_cons (pv 3) (pa_cons (pe_callTy cq_tup (by rfl) T.tuple_ (by decide +kernel) (pa_cons (pv 4) pa_nil)) pa_nil))) pa_nil)) (pe_callB (cr_repr hr.units hg) (by rfl) T.repr (by decide +kernel) (pa_cons (pv 7) pa_nil)) (nomark _)) (pw_or1 (pt_cmpR op_ne (pe_callB (cr_repr hr.units hg) (by rfl) T.repr (by decide +kernel) (pa_cons (pe_ck k_lots_next hr (by rfl) passL (pk_cons (pe_callTy cq_tup (by rfl) T.tuple_ (by decide +kernel) (pa_cons (pv 4) pa_nil)) (pk_cons (pv 3) pk_nil)) (fun h => vals_rev h) (fun _ h => by rw [List.length_reverse] at h; exact h)) pa_nil)) (pe_callB (cr_repr hr.units hg) (by rfl) T.repr (by decide +kernel) (pa_cons (pv 7) pa_nil)) (nomark _))))) (pss_one (ps_ret pe_bl)) pss_nil))))))))
    (pss_cons (ps_par (i := 5) (j := 8) rfl sc_law.nd rfl rfl (by decide) rfl rfl (pa_cons (pe_op op_add pe_int (pe_c c_law_any hr (by rfl) L2.pass0 (pa_cons (pv 1) (pa_cons pe_int pa_nil)))) (pa_cons (pe_op op_add pe_int (pe_c c_law_any hr (by rfl) L2.pass0 (pa_cons (pv 1) (pa_cons pe_int pa_nil)))) pa_nil)) (by rfl))
    (pss_cons (ps_set (i := 9) sc_law.nd rfl (Or.inl rfl) pe_int)
    (pss_cons (ps_for PassesOwn.never rfl (pi_range1 (by rfl) T.range (pa_cons (pv 8) pa_nil)) (pg_name (i := 10) sc_law.nd rfl (Or.inl rfl)) (pss_one (ps_set (i := 9) sc_law.nd rfl (Or.inl rfl) (pe_op op_mul (pv 9) (pe_op op_add (pv 5) pe_int)))))
    (pss_cons (ps_set (i := 11) sc_law.nd rfl (Or.inl rfl) (pe_tup (pa_cons (pe_tup (pa_cons pe_int (pa_cons (pv 5) (pa_cons pe_int pa_nil)))) (pa_cons (pe_tup (pa_cons (pe_tup (pa_cons pe_str (pa_cons pe_int pa_nil))) (pa_cons (pe_tup (pa_cons pe_str (pa_cons (pe_callTy cq_tup (by rfl) T.tuple_ (by decide +kernel) (pa_cons (pe_lc (own := [("_law_branch", 10)]) rfl sc_law.nd (pi_range1 (by rfl) T.range (pa_cons (pv 8) pa_nil)) (blkOk_by (by rfl)) (fun _ _ _ _ _ => (pg_name (i := 10) sc_law.nd rfl (Or.inl rfl))) (fun _ _ _ _ _ => pts_nil) (fun _ _ _ _ _ => (pe_tup (pa_cons pe_str (pa_cons pe_int pa_nil))))) pa_nil)) pa_nil))) (pa_cons (pe_tup (pa_cons pe_str (pa_cons (pe_tup (pa_cons (pe_tup (pa_cons pe_str (pa_cons pe_int pa_nil))) (pa_cons (pe_tup (pa_cons pe_str (pa_cons pe_int pa_nil))) (pa_cons (pe_tup (pa_cons pe_str (pa_cons pe_int pa_nil))) pa_nil)))) pa_nil))) pa_nil)))) pa_nil))))
    (pss_one (ps_ret (pe_cmpR (op_eqD hr.units) (pe_c c_law_refused hr (by rfl) L2.pass0 (pa_cons (pv 11) pa_nil)) (pe_op op_rep (pe_lst (pa_cons (pv 9) pa_nil)) pe_int) (nomark _))))))))))
end K24

set_option Elab.async false
set_option linter.all false
set_option maxRecDepth 100000
/-! K24R1: what the defs of the package tell (readings from data to data). -/
namespace K24
open PySem PySem.Spec L2
section
variable {W : Wd} {Γ : List Sl} {K : PySem.W.Frag} {t1 t2 : TS} {N : List Sl → Prop} {R : PD → Prop} {B C : List Sl → Prop} {i : Nat} {s u : Str} {ds : List PD} {x y : PD}
theorem at0 {a : PD} {l : List PD} : atI (a :: l) 0 = some a := atI_nn (by decide) rfl
theorem at1 {a b : PD} {l : List PD} : atI (a :: b :: l) 1 = some b := atI_nn (by decide) rfl
theorem at2 {a b c : PD} {l : List PD} : atI (a :: b :: c :: l) 2 = some c := atI_nn (by decide) rfl
theorem at3 {a b c d : PD} {l : List PD} : atI (a :: b :: c :: d :: l) 3 = some d := atI_nn (by decide) rfl
theorem atL {l : List PD} {a : PD} : atI (l ++ [a]) (-1) = some a := by
  have e : ixN (l ++ [a]).length (-1) = some l.length := by
    unfold ixN
    rw [if_neg (by omega), List.length_append, List.length_singleton, if_pos (by omega)]
    congr 1
    omega
  unfold atI
  rw [e]
  show (l ++ [a])[l.length]? = some a
  rw [List.getElem?_append_right (Nat.le_refl _), Nat.sub_self]
  rfl
/-- xs[j], a literal place -/
theorem dv_at {te : TE} {j : Int} (h : DV W te Γ (.tuple ds)) (e : atI ds j = some x) : DV W (tOp (rIxT K) te (tC (.int j))) Γ x := dv_op h dv_int (rd_ixT e)
theorem dv_atL {te : TE} {j : Int} (h : DV W te Γ (.list ds)) (e : atI ds j = some x) : DV W (tOp (rIxL K) te (tC (.int j))) Γ x := dv_op h dv_int (rd_ixL e)
theorem dv_last {te : TE} (h : DV W te Γ (.tuple ds)) (e : atI ds (-1) = some x) : DV W (tOp (rIxT K) te (tUn (rU fun i => .int (-i)) (tC (.int 1)))) Γ x := dv_op h (dv_un dv_int ru_neg) (rd_ixT e)
theorem dv_lastL {te : TE} (h : DV W te Γ (.list ds)) (e : atI ds (-1) = some x) : DV W (tOp (rIxL K) te (tUn (rU fun i => .int (-i)) (tC (.int 1)))) Γ x := dv_op h (dv_un dv_int ru_neg) (rd_ixL e)
theorem dv_lenT {te : TE} (h : DV W te Γ (.tuple ds)) : DV W (tCB (rLenQ K) (tCons te tNil)) Γ (.int (ds.length : Int)) := dv_cb (dav_cons h da_nil) rc_lenT
theorem dv_lenL {te : TE} (h : DV W te Γ (.list ds)) : DV W (tCB (rLenQ K) (tCons te tNil)) Γ (.int (ds.length : Int)) := dv_cb (dav_cons h da_nil) rc_lenL
/-- if x[0] == a word -/
theorem dt_name (h : Γ[i]? = some (Sl.d (.tuple (.str s :: ds)))) : DTv W (tTest (tOp rEq (tOp (rIxT K) (tVar i) (tC (.int 0))) (tC (.str u)))) Γ (decide (s = u)) := dt_test (dv_op (dv_at (dv_var h) at0) dv_str rd_eqS)
theorem ds_nF (h : Γ[i]? = some (Sl.d (.tuple (.str s :: ds)))) (ne : s ≠ u) (k : DS W t2 Γ N R B C) : DS W (tSeq (tIfS (tTest (tOp rEq (tOp (rIxT K) (tVar i) (tC (.int 0))) (tC (.str u)))) t1 tNext) t2) Γ N R B C :=
  ds_seq (ds_if (dt_name h) (fun z => absurd (of_decide_eq_true z) ne) fun _ => ds_next k)
theorem ds_nT (h : Γ[i]? = some (Sl.d (.tuple (.str s :: ds)))) (e : s = u) (k : DS W t1 Γ (fun Γ' => DS W t2 Γ' N R B C) R B C) : DS W (tSeq (tIfS (tTest (tOp rEq (tOp (rIxT K) (tVar i) (tC (.int 0))) (tC (.str u)))) t1 tNext) t2) Γ N R B C :=
  ds_seq (ds_if (dt_name h) (fun _ => k) fun z => absurd e (of_decide_eq_false z))
theorem ds_rv {te : TE} (h : DV W te Γ x) : DS W (tRet te) Γ N (fun z => z = x) B C := ds_ret h fun _ e => e
/-- the word of a kind, what follows it -/
def wd : Kd → Str
  | .least => "least"
  | .most => "most"
  | .add => "add"
  | .middle => "middle"
  | .times _ => "times"
  | .part _ => "part"
  | .clip .. => "clip"
  | .frm _ => "from"
  | .bar .. => "bar"
  | .row _ => "row"
def tl : Kd → List PD → List PD
  | .least, ps => [.tuple ps]
  | .most, ps => [.tuple ps]
  | .add, ps => [.tuple ps]
  | .middle, ps => ps
  | .times m, ps => .int m :: ps
  | .part d, ps => .int d :: ps
  | .clip lo hi, ps => .int lo :: .int hi :: ps
  | .frm w, ps => .int w :: ps
  | .bar k lo hi, ps => .int k :: .int lo :: .int hi :: ps
  | .row ws, ps => .tuple (ws.map PyData.int) :: ps
theorem encK_eq (k : Kd) (ps : List PD) : encK k ps = .tuple (.str (wd k) :: tl k ps) := by cases k <;> rfl
theorem enc_node (k : Kd) (ps : List Rl) : enc (.node k ps) = .tuple (.str (wd k) :: tl k (encs ps)) := encK_eq k _
theorem wd_is (k : Kd) : wd k ≠ "is" := by cases k <;> (simp only [wd]; decide)
theorem wd_hear (k : Kd) : wd k ≠ "hear" := by cases k <;> (simp only [wd]; decide)
end

/-! ### the plain tests -/
theorem kii : kitB "int" "int" = some true := by decide +kernel
theorem kib : kitB "int" "bool" = some false := by decide +kernel
theorem ktt : kitB "tuple" "tuple" = some true := by decide +kernel
theorem kss : kitB "str" "str" = some true := by decide +kernel
def q_is_integer (ds : List PD) (d : PD) : Prop := ∃ i : Int, ds = [.int i] ∧ d = .bool true
theorem r_is_integer {K : PySem.W.Frag} {w : World} (G H : Hp) (ds : List PD) (d : PD) (h : q_is_integer ds d) : DS (W0 K G H) (t_is_integer K w) (ds.map Sl.d ++ List.replicate (n_is_integer.length - p_is_integer.length) Sl.no) No (fun z => z = d) No No := by
  obtain ⟨i, rfl, rfl⟩ := h
  exact ds_rv (dv_andV2 (a := true) (b := true) (dv_isi (dv_var rfl) kii) (dv_notV (a := false) (dv_isi (dv_var rfl) kib)))
def q_is_number (ds : List PD) (d : PD) : Prop := ∃ i : Int, 0 ≤ i ∧ ds = [.int i] ∧ d = .bool true
theorem r_is_number {K : PySem.W.Frag} {w : World} (G H : Hp) (ds : List PD) (d : PD) (h : q_is_number ds d) : DS (W0 K G H) (t_is_number K w (spF q_is_integer)) (ds.map Sl.d ++ List.replicate (n_is_number.length - p_is_number.length) Sl.no) No (fun z => z = d) No No := by
  obtain ⟨i, h0, rfl, rfl⟩ := h
  exact ds_rv ((dv_andV2 (a := true) (dv_call (dav_cons (dv_var rfl) da_nil) ⟨i, rfl, rfl⟩) (dv_op (dv_var rfl) dv_int rd_ge)).to (by simp [h0]))
def q_is_index (ds : List PD) (d : PD) : Prop := ∃ i m : Int, 0 ≤ i ∧ i < m ∧ ds = [.int i, .int m] ∧ d = .bool true
theorem r_is_index {K : PySem.W.Frag} {w : World} (G H : Hp) (ds : List PD) (d : PD) (h : q_is_index ds d) : DS (W0 K G H) (t_is_index K w (spF q_is_number)) (ds.map Sl.d ++ List.replicate (n_is_index.length - p_is_index.length) Sl.no) No (fun z => z = d) No No := by
  obtain ⟨i, m, h0, h1, rfl, rfl⟩ := h
  exact ds_rv ((dv_andV2 (a := true) (dv_call (dav_cons (dv_var rfl) da_nil) ⟨i, h0, rfl, rfl⟩) (dv_op (dv_var rfl) (dv_var rfl) rd_lt)).to (by simp [h1]))
def q_is_worth (ds : List PD) (d : PD) : Prop := ∃ i : Int, 0 ≤ i ∧ i ≤ 1000 ∧ ds = [.int i] ∧ d = .bool true
theorem r_is_worth {K : PySem.W.Frag} {w : World} (G H : Hp) (ds : List PD) (d : PD) (h : q_is_worth ds d) : DS (W0 K G H) (t_is_worth K w (spF q_is_index)) (ds.map Sl.d ++ List.replicate (n_is_worth.length - p_is_worth.length) Sl.no) No (fun z => z = d) No No := by
  obtain ⟨i, h0, h1, rfl, rfl⟩ := h
  exact ds_rv (dv_call (dav_cons (dv_var rfl) (dav_cons dv_int da_nil)) ⟨i, 1001, h0, by omega, rfl, rfl⟩)
/-- kinds with one part behind -/
def isH : Kd → Prop
  | .least => False
  | .most => False
  | .add => False
  | .middle => False
  | _ => True
def q_is_head (ds : List PD) (d : PD) : Prop := ∃ (k : Kd) (x : PD), isH k ∧ okK k 1 ∧ ds = [encK k [x]] ∧ d = .bool true
section
variable {W : Wd} {Γ : List Sl} {K : PySem.W.Frag} {te : TE}
theorem dv_worth {i : Int} (h : DV W te Γ (.int i)) (h0 : 0 ≤ i) (h1 : i ≤ 1000) : DV W (tCall (spF q_is_worth) [] E0 (tCons te tNil)) Γ (.bool true) := dv_call (dav_cons h da_nil) ⟨i, h0, h1, rfl, rfl⟩
theorem dv_eqI {ta tb : TE} {i j : Int} (h : DV W ta Γ (.int i)) (h2 : DV W tb Γ (.int j)) (e : i = j) : DV W (tOp rEq ta tb) Γ (.bool true) := DV.to (dv_op h h2 rd_eqI) (by rw [decide_eq_true e])
theorem dv_neI {ta tb : TE} {i j : Int} (h : DV W ta Γ (.int i)) (h2 : DV W tb Γ (.int j)) (e : i = j) : DV W (tOp rNe ta tb) Γ (.bool false) := DV.to (dv_op h h2 rd_neI) (by rw [decide_eq_true e]; rfl)
end
theorem r_is_head {K : PySem.W.Frag} {w : World} (G H : Hp) (ds : List PD) (d : PD) (h : q_is_head ds d) : DS (W0 K G H) (t_is_head K w (spF q_is_worth)) (ds.map Sl.d ++ List.replicate (n_is_head.length - p_is_head.length) Sl.no) No (fun z => z = d) No No := by
  obtain ⟨k, x, hk, ho, rfl, rfl⟩ := h
  unfold t_is_head
  cases k with
  | least => exact hk.elim
  | most => exact hk.elim
  | add => exact hk.elim
  | middle => exact hk.elim
  | times m =>
    obtain ⟨_, h0, h1⟩ := ho
    exact ds_nT rfl rfl (ds_rv (dv_andV2 (a := true) (b := true) (dv_eqI (dv_lenT (dv_var rfl)) dv_int rfl) (dv_worth (dv_at (dv_var rfl) at1) h0 h1)))
  | part m =>
    obtain ⟨_, h0, h1⟩ := ho
    refine ds_nF rfl (by decide) (ds_nT rfl rfl (ds_rv ?_))
    exact dv_andV2 (a := true) (b := true) (dv_eqI (dv_lenT (dv_var rfl)) dv_int rfl) ((dv_andV2 (a := true) (dv_worth (dv_at (dv_var rfl) at1) (by omega) h1) (dv_op (dv_at (dv_var rfl) at1) dv_int rd_gt)).to (by
      have : (0 : Int) < m := by omega
      simp [this]))
  | clip lo hi =>
    obtain ⟨_, h0, h1, h2⟩ := ho
    refine ds_nF rfl (by decide) (ds_nF rfl (by decide) (ds_nT rfl rfl (ds_rv ?_)))
    exact dv_andV2 (a := true) (b := true) (dv_eqI (dv_lenT (dv_var rfl)) dv_int rfl) (dv_andV2 (a := true) (b := true) (dv_worth (dv_at (dv_var rfl) at1) h0 (by omega)) ((dv_andV2 (a := true) (dv_worth (dv_at (dv_var rfl) at2) (by omega) h2) (dv_op (dv_at (dv_var rfl) at1) (dv_at (dv_var rfl) at2) rd_le)).to (by simp [h1])))
  | frm m =>
    obtain ⟨_, h0, h1⟩ := ho
    refine ds_nF rfl (by decide) (ds_nF rfl (by decide) (ds_nF rfl (by decide) (ds_nT rfl rfl (ds_rv ?_))))
    exact dv_andV2 (a := true) (b := true) (dv_eqI (dv_lenT (dv_var rfl)) dv_int rfl) (dv_worth (dv_at (dv_var rfl) at1) h0 h1)
  | bar m lo hi =>
    obtain ⟨_, h0, h1, h2, h3, h4, h5⟩ := ho
    refine ds_nF rfl (by decide) (ds_nF rfl (by decide) (ds_nF rfl (by decide) (ds_nF rfl (by decide) (ds_nT rfl rfl (ds_rv ?_)))))
    exact dv_andV2 (a := true) (b := true) (dv_eqI (dv_lenT (dv_var rfl)) dv_int rfl) (dv_andV2 (a := true) (b := true) (dv_worth (dv_at (dv_var rfl) at1) h0 h1) (dv_andV2 (a := true) (b := true) (dv_worth (dv_at (dv_var rfl) at2) h2 h3) (dv_worth (dv_at (dv_var rfl) at3) h4 h5)))
  | row ws =>
    obtain ⟨_, h0, h1, h2⟩ := ho
    refine ds_nF rfl (by decide) (ds_nF rfl (by decide) (ds_nF rfl (by decide) (ds_nF rfl (by decide) (ds_nF rfl (by decide) ?_))))
    have v1 : ∀ Γ : List Sl, Γ[0]? = some (Sl.d (encK (.row ws) [x])) → DV (W0 K G H) (tOp (rIxT K) (tVar 0) (tC (.int 1))) Γ (.tuple (ws.map PyData.int)) := fun Γ e => dv_at (dv_var e) at1
    refine ds_seq (ds_if (b := false) (dt_or2 (a := false) (b := false) ((dt_test (dv_op (dv_at (dv_var rfl) at0) dv_str rd_neS)).to (by decide)) (dt_or2 (a := false) (b := false) (dt_test (dv_neI (dv_lenT (dv_var rfl)) dv_int rfl)) (dt_not (a := true) (dt_B (dv_isi (v1 _ rfl) ktt))))) (fun z => nomatch z) (fun _ => ds_next ?_))
    refine ds_rv ?_
    have c := dv_chain (r := qLe) (r' := qLe) (Γ := [Sl.d (encK (.row ws) [x])] ++ List.replicate 1 Sl.no) (W := W0 K G H) (dv_int (i := 1)) (dv_lenT (K := K) (v1 _ rfl)) (dv_int (i := 64)) rd_le rd_le
    have e1 : (decide ((1 : Int) ≤ ((ws.map PyData.int).length : Int)) && decide (((ws.map PyData.int).length : Int) ≤ 64)) = true := by
      rw [List.length_map, decide_eq_true (by omega), decide_eq_true (by omega)]
      rfl
    rw [e1] at c
    refine dv_andV2 (a := true) (b := true) c ?_
    have a := dv_map (W := W0 K G H) (Γ := [Sl.d (encK (.row ws) [x])] ++ List.replicate 1 Sl.no) (vs := [1]) (j := 1) (f := fun _ => .bool true) (te := tCall (spF q_is_worth) [] E0 (tCons (tVar 1) tNil)) (div_t (K := K) (v1 _ rfl)) (by rw [List.length_map]; omega) (by simp) (fun i y hy => by
      have hm := List.mem_of_getElem? hy
      obtain ⟨v, hv, rfl⟩ := List.mem_map.mp hm
      exact dv_worth (dv_var rfl) (h2 v hv).1 (h2 v hv).2)
    have e2 : (ws.map PyData.int).map (fun _ => PyData.bool true) = (ws.map fun _ => true).map PyData.bool := by
      rw [List.map_map, List.map_map]
      rfl
    rw [e2] at a
    refine DV.to (dv_cb (dav_cons a da_nil) rc_all) ?_
    congr 1
    rw [List.all_eq_true]
    intro b hb
    obtain ⟨_, _, rfl⟩ := List.mem_map.mp hb
    rfl
end K24

set_option Elab.async false
set_option linter.all false
set_option maxRecDepth 100000
/-! K24R2: parts, branches, what is made and told. -/
namespace K24
open PySem PySem.Spec L2
theorem cut1 {a : PD} {l : List PD} : cutD (a :: l) (some 1) none = l := by
  unfold cutD
  have e : HT.sIx (a :: l).length 0 (some 1) = 1 := by
    simp [HT.sIx]
  have e2 : HT.sIx (a :: l).length (a :: l).length none = (a :: l).length := rfl
  rw [e, e2, List.drop_one, List.tail_cons, List.length_cons, Nat.add_sub_cancel, List.take_length]
theorem cutL {a : PD} {l : List PD} : cutD (l ++ [a]) (some (-1)) none = [a] := by
  unfold cutD
  have e : HT.sIx (l ++ [a]).length 0 (some (-1)) = l.length := by
    simp [HT.sIx]
    omega
  have e2 : HT.sIx (l ++ [a]).length (l ++ [a]).length none = (l ++ [a]).length := rfl
  rw [e, e2, List.drop_append_of_le_length (Nat.le_refl _), List.drop_length, List.length_append, List.length_singleton]
  simp
section
variable {W : Wd} {Γ : List Sl} {K : PySem.W.Frag} {i : Nat} {s : Str} {ds xs : List PD} {te : TE}
theorem dt_in3 {a b c : Str} (h : DV W te Γ (.str s)) : DTv W (tTest (tOp (rIn K false) te (tTup (tCons (tC (.str a)) (tCons (tC (.str b)) (tCons (tC (.str c)) tNil)))))) Γ (decide (s ∈ [a, b, c])) :=
  dt_test (dv_op h (dv_tup (dav_cons dv_str (dav_cons dv_str (dav_cons dv_str da_nil))) (Nat.le_of_ble_eq_true rfl)) (rd_inT (ss := [a, b, c]) rfl))
theorem dt_inL3 {a b c : Str} (h : DV W te Γ (.str s)) : DTv W (tTest (tOp (rIn K false) te (tLst (tCons (tC (.str a)) (tCons (tC (.str b)) (tCons (tC (.str c)) tNil)))))) Γ (decide (s ∈ [a, b, c])) :=
  dt_test (dv_op h (dv_lst (dav_cons dv_str (dav_cons dv_str (dav_cons dv_str da_nil))) (Nat.le_of_ble_eq_true rfl)) (rd_inL (ss := [a, b, c]) rfl))
theorem dt_inL4 {a b c d : Str} (h : DV W te Γ (.str s)) : DTv W (tTest (tOp (rIn K false) te (tLst (tCons (tC (.str a)) (tCons (tC (.str b)) (tCons (tC (.str c)) (tCons (tC (.str d)) tNil))))))) Γ (decide (s ∈ [a, b, c, d])) :=
  dt_test (dv_op h (dv_lst (dav_cons dv_str (dav_cons dv_str (dav_cons dv_str (dav_cons dv_str da_nil)))) (Nat.le_of_ble_eq_true rfl)) (rd_inL (ss := [a, b, c, d]) rfl))
theorem dt_inL2 {a b : Str} (h : DV W te Γ (.str s)) : DTv W (tTest (tOp (rIn K false) te (tLst (tCons (tC (.str a)) (tCons (tC (.str b)) tNil))))) Γ (decide (s ∈ [a, b])) :=
  dt_test (dv_op h (dv_lst (dav_cons dv_str (dav_cons dv_str da_nil)) (Nat.le_of_ble_eq_true rfl)) (rd_inL (ss := [a, b]) rfl))
theorem dv_from1 {a : PD} (h : DV W te Γ (.tuple (a :: ds))) : DV W (tSl (rSlA K) te (tPart (tC (.int 1))) tNoPart) Γ (.tuple ds) := DV.to (dv_sl h (dov_some dv_int) dov_none rs_T) (by rw [cut1])
theorem dv_fromL {a : PD} (h : DV W te Γ (.tuple (ds ++ [a]))) : DV W (tSl (rSlA K) te (tPart (tUn (rU fun i => .int (-i)) (tC (.int 1)))) tNoPart) Γ (.tuple [a]) := DV.to (dv_sl h (dov_some (dv_un dv_int ru_neg)) dov_none rs_T) (by rw [cutL])
end
def parts : Rl → List Rl
  | .is _ => []
  | .hear _ => []
  | .node _ ps => ps
theorem len1 {α : Type} {l : List α} (h : l.length = 1) : ∃ a, l = [a] := by
  match l, h with
  | [a], _ => exact ⟨a, rfl⟩
theorem len3 {α : Type} {l : List α} (h : l.length = 3) : ∃ a b c, l = [a, b, c] := by
  match l, h with
  | [a, b, c], _ => exact ⟨a, b, c, rfl⟩
theorem isH_one {k : Kd} {n : Nat} (h : isH k) (ho : okK k n) : n = 1 := by
  cases k <;> first | exact h.elim | exact ho.1
def q_parts_of (ds : List PD) (d : PD) : Prop := ∃ (n : Nat) (r : Rl), okR n r ∧ ds = [enc r] ∧ d = .tuple (encs (parts r))
theorem enc_form {n : Nat} {r : Rl} (h : okR n r) : ∃ s a l, enc r = .tuple (.str s :: a :: l) := by
  cases r with
  | is w => exact ⟨_, _, _, rfl⟩
  | hear j => exact ⟨_, _, _, rfl⟩
  | node k ps =>
    obtain ⟨h1, _⟩ := h
    cases k with
    | middle =>
      obtain ⟨a, b, c, rfl⟩ := len3 h1
      exact ⟨_, _, _, rfl⟩
    | _ => exact ⟨_, _, _, rfl⟩
theorem r_parts_of {K : PySem.W.Frag} {w : World} (G H : Hp) (ds : List PD) (d : PD) (h : q_parts_of ds d) : DS (W0 K G H) (t_parts_of K w (spF q_is_head) (spF q_is_worth)) (ds.map Sl.d ++ List.replicate (n_parts_of.length - p_parts_of.length) Sl.no) No (fun z => z = d) No No := by
  obtain ⟨n, r, ho, rfl, rfl⟩ := h
  unfold t_parts_of
  have first : DTv (W0 K G H) (tOr (tNot (tB (tCB (rIsi K) (tCons (tVar 0) (tCons (tC (.ty "tuple")) tNil))))) (tOr (tTest (tOp qLt (tCB (rLenQ K) (tCons (tVar 0) tNil)) (tC (.int 2)))) (tNot (tB (tCB (rIsi K) (tCons (tOp (rIxT K) (tVar 0) (tC (.int 0))) (tCons (tC (.ty "str")) tNil))))))) [Sl.d (enc r)] false := by
    obtain ⟨s, a, l, e⟩ := enc_form ho
    rw [e]
    refine dt_or2 (a := false) (b := false) (dt_not (a := true) (dt_B (dv_isi (dv_var rfl) ktt))) (dt_or2 (a := false) (b := false) (dt_test (DV.to (dv_op (dv_lenT (dv_var rfl)) dv_int rd_lt) ?_)) (dt_not (a := true) (dt_B (dv_isi (dv_at (dv_var rfl) at0) kss))))
    rw [decide_eq_false]
    simp only [List.length_cons]
    omega
  refine ds_seq (ds_if first (fun z => nomatch z) fun _ => ds_next ?_)
  cases r with
  | is v =>
    obtain ⟨h0, h1⟩ := ho
    refine ds_nT rfl rfl (ds_rv (de_if (dt_and2 (a := true) (b := true) (dt_test (dv_eqI (dv_lenT (dv_var rfl)) dv_int rfl)) (dt_B (dv_worth (dv_at (dv_var rfl) at1) h0 h1))) (fun _ => dv_tup (xs := []) da_nil (Nat.zero_le _)) fun z => nomatch z))
  | hear j =>
    obtain ⟨h0, h1⟩ := ho
    refine ds_nF rfl (by decide) (ds_nT rfl rfl (ds_rv (de_if (dt_and2 (a := true) (b := true) (dt_test (dv_eqI (dv_lenT (dv_var rfl)) dv_int rfl)) (dt_B (dv_worth (dv_at (dv_var rfl) at1) (by omega) (by omega)))) (fun _ => dv_tup (xs := []) da_nil (Nat.zero_le _)) fun z => nomatch z)))
  | node k ps =>
    obtain ⟨h1, h2⟩ := ho
    cases k with
    | least =>
      refine ds_nF rfl (by decide) (ds_nF rfl (by decide) (ds_seq (ds_if (DTv.to (b := true) (dt_in3 (dv_at (dv_var rfl) at0)) (by decide)) (fun _ => ds_rv (de_if (dt_and2 (a := true) (b := true) (dt_test (dv_eqI (dv_lenT (dv_var rfl)) dv_int rfl)) (dt_and2 (a := true) (b := true) (dt_B (dv_isi (dv_at (dv_var rfl) at1) ktt)) (dt_test (DV.to (dv_op (dv_lenT (dv_at (dv_var rfl) at1)) dv_int rd_gt) ?_)))) (fun _ => dv_at (dv_var rfl) at1) (fun z => nomatch z))) (fun z => nomatch z))))
      rw [encs_len, decide_eq_true (by have := h1.1; omega)]
    | most =>
      refine ds_nF rfl (by decide) (ds_nF rfl (by decide) (ds_seq (ds_if (DTv.to (b := true) (dt_in3 (dv_at (dv_var rfl) at0)) (by decide)) (fun _ => ds_rv (de_if (dt_and2 (a := true) (b := true) (dt_test (dv_eqI (dv_lenT (dv_var rfl)) dv_int rfl)) (dt_and2 (a := true) (b := true) (dt_B (dv_isi (dv_at (dv_var rfl) at1) ktt)) (dt_test (DV.to (dv_op (dv_lenT (dv_at (dv_var rfl) at1)) dv_int rd_gt) ?_)))) (fun _ => dv_at (dv_var rfl) at1) (fun z => nomatch z))) (fun z => nomatch z))))
      rw [encs_len, decide_eq_true (by have := h1.1; omega)]
    | add =>
      refine ds_nF rfl (by decide) (ds_nF rfl (by decide) (ds_seq (ds_if (DTv.to (b := true) (dt_in3 (dv_at (dv_var rfl) at0)) (by decide)) (fun _ => ds_rv (de_if (dt_and2 (a := true) (b := true) (dt_test (dv_eqI (dv_lenT (dv_var rfl)) dv_int rfl)) (dt_and2 (a := true) (b := true) (dt_B (dv_isi (dv_at (dv_var rfl) at1) ktt)) (dt_test (DV.to (dv_op (dv_lenT (dv_at (dv_var rfl) at1)) dv_int rd_gt) ?_)))) (fun _ => dv_at (dv_var rfl) at1) (fun z => nomatch z))) (fun z => nomatch z))))
      rw [encs_len, decide_eq_true (by have := h1.1; omega)]
    | middle =>
      refine ds_nF rfl (by decide) (ds_nF rfl (by decide) (ds_seq (ds_if (DTv.to (b := false) (dt_in3 (dv_at (dv_var rfl) at0)) (by decide)) (fun z => nomatch z) (fun _ => ds_next (ds_nT rfl rfl (ds_rv (de_if (b := true) (dt_test (dv_eqI (dv_lenT (dv_var rfl)) dv_int ?_)) (fun _ => dv_from1 (dv_var rfl)) (fun z => nomatch z))))))))
      have h3 : ps.length = 3 := h1
      rw [List.length_cons, encs_len, h3]
      rfl
    | times m =>
      obtain ⟨p, rfl⟩ := len1 h1.1
      exact ds_nF rfl (by decide) (ds_nF rfl (by decide) (ds_seq (ds_if (DTv.to (b := false) (dt_in3 (dv_at (dv_var rfl) at0)) (by decide)) (fun z => nomatch z) (fun _ => ds_next (ds_nF rfl (by decide) (ds_rv (de_if (b := true) (dt_B (dv_call (dav_cons (dv_var rfl) da_nil) ⟨.times m, enc p, trivial, h1, rfl, rfl⟩)) (fun _ => dv_fromL (ds := [.str "times", .int m]) (dv_var rfl)) (fun z => nomatch z))))))))
    | part m =>
      obtain ⟨p, rfl⟩ := len1 h1.1
      exact ds_nF rfl (by decide) (ds_nF rfl (by decide) (ds_seq (ds_if (DTv.to (b := false) (dt_in3 (dv_at (dv_var rfl) at0)) (by decide)) (fun z => nomatch z) (fun _ => ds_next (ds_nF rfl (by decide) (ds_rv (de_if (b := true) (dt_B (dv_call (dav_cons (dv_var rfl) da_nil) ⟨.part m, enc p, trivial, h1, rfl, rfl⟩)) (fun _ => dv_fromL (ds := [.str "part", .int m]) (dv_var rfl)) (fun z => nomatch z))))))))
    | clip lo hi =>
      obtain ⟨p, rfl⟩ := len1 h1.1
      exact ds_nF rfl (by decide) (ds_nF rfl (by decide) (ds_seq (ds_if (DTv.to (b := false) (dt_in3 (dv_at (dv_var rfl) at0)) (by decide)) (fun z => nomatch z) (fun _ => ds_next (ds_nF rfl (by decide) (ds_rv (de_if (b := true) (dt_B (dv_call (dav_cons (dv_var rfl) da_nil) ⟨.clip lo hi, enc p, trivial, h1, rfl, rfl⟩)) (fun _ => dv_fromL (ds := [.str "clip", .int lo, .int hi]) (dv_var rfl)) (fun z => nomatch z))))))))
    | frm m =>
      obtain ⟨p, rfl⟩ := len1 h1.1
      exact ds_nF rfl (by decide) (ds_nF rfl (by decide) (ds_seq (ds_if (DTv.to (b := false) (dt_in3 (dv_at (dv_var rfl) at0)) (by decide)) (fun z => nomatch z) (fun _ => ds_next (ds_nF rfl (by decide) (ds_rv (de_if (b := true) (dt_B (dv_call (dav_cons (dv_var rfl) da_nil) ⟨.frm m, enc p, trivial, h1, rfl, rfl⟩)) (fun _ => dv_fromL (ds := [.str "from", .int m]) (dv_var rfl)) (fun z => nomatch z))))))))
    | bar m lo hi =>
      obtain ⟨p, rfl⟩ := len1 h1.1
      exact ds_nF rfl (by decide) (ds_nF rfl (by decide) (ds_seq (ds_if (DTv.to (b := false) (dt_in3 (dv_at (dv_var rfl) at0)) (by decide)) (fun z => nomatch z) (fun _ => ds_next (ds_nF rfl (by decide) (ds_rv (de_if (b := true) (dt_B (dv_call (dav_cons (dv_var rfl) da_nil) ⟨.bar m lo hi, enc p, trivial, h1, rfl, rfl⟩)) (fun _ => dv_fromL (ds := [.str "bar", .int m, .int lo, .int hi]) (dv_var rfl)) (fun z => nomatch z))))))))
    | row ws =>
      obtain ⟨p, rfl⟩ := len1 h1.1
      exact ds_nF rfl (by decide) (ds_nF rfl (by decide) (ds_seq (ds_if (DTv.to (b := false) (dt_in3 (dv_at (dv_var rfl) at0)) (by decide)) (fun z => nomatch z) (fun _ => ds_next (ds_nF rfl (by decide) (ds_rv (de_if (b := true) (dt_B (dv_call (dav_cons (dv_var rfl) da_nil) ⟨.row ws, enc p, trivial, h1, rfl, rfl⟩)) (fun _ => dv_fromL (ds := [.str "row", .tuple (ws.map PyData.int)]) (dv_var rfl)) (fun z => nomatch z))))))))
end K24

set_option Elab.async false
set_option linter.all false
set_option maxRecDepth 100000
/-! K24R3: branches, what is made and told. -/
namespace K24
open PySem PySem.Spec L2
theorem parts_ok {n : Nat} {r : Rl} (h : okR n r) : okRs n (parts r) := by
  cases r with
  | is w => trivial
  | hear j => trivial
  | node k ps => exact h.2
theorem parts_dep {r p : Rl} (h : p ∈ parts r) : dep p + 1 ≤ dep r := by
  cases r with
  | is w => exact absurd h (by simp [parts])
  | hear j => exact absurd h (by simp [parts])
  | node k ps => exact Nat.succ_le_succ (deps_mem h)
theorem brss_take {ps : List Rl} {i : Nat} {p : Rl} (h : ps[i]? = some p) : brss (ps.take (i + 1)) = brss (ps.take i) ++ brs p := by
  induction ps generalizing i with
  | nil => simp at h
  | cons q ps ih =>
    cases i with
    | zero =>
      have e : q = p := Option.some.inj h
      subst e
      simp [brss]
    | succ i =>
      have e : ps[i]? = some p := h
      rw [List.take_succ_cons, List.take_succ_cons]
      show brs q ++ brss (ps.take (i + 1)) = (brs q ++ brss (ps.take i)) ++ brs p
      rw [ih e, List.append_assoc]
theorem brss_len_le {ps : List Rl} (i : Nat) : (brss (ps.take i)).length ≤ (brss ps).length := by
  induction ps generalizing i with
  | nil => simp [brss]
  | cons q ps ih =>
    cases i with
    | zero => simp [brss]
    | succ i =>
      rw [List.take_succ_cons]
      show (brs q ++ brss (ps.take i)).length ≤ (brs q ++ brss ps).length
      rw [List.length_append, List.length_append]
      have := ih i
      omega
theorem brs_parts {k : Kd} {ps : List Rl} : brs (.node k ps) = brss ps := rfl
theorem brs_mem_le {ps : List Rl} {p : Rl} (h : p ∈ ps) : (brs p).length ≤ (brss ps).length := by
  obtain ⟨i, hi⟩ := List.mem_iff_getElem?.mp h
  have := brss_len_le (ps := ps) (i + 1)
  rw [brss_take hi, List.length_append] at this
  omega
/-! ### branches -/
def q_branches (m : Nat) (ds : List PD) (d : PD) : Prop := ∃ (n : Nat) (r : Rl), okR n r ∧ dep r ≤ m ∧ (brs r).length ≤ 1000 ∧ ds = [enc r] ∧ d = .tuple (Ns (brs r))
theorem Ns_app (a b : List Nat) : Ns (a ++ b) = Ns a ++ Ns b := List.map_append
theorem Ns_len (a : List Nat) : (Ns a).length = a.length := List.length_map _
theorem r_branches {K : PySem.W.Frag} {w : World} (m : Nat) (G H : Hp) (ds : List PD) (d : PD) (h : q_branches (m + 1) ds d) : DS (W0 K G H) (t_branches K w (spF q_parts_of) (spF (q_branches m))) (ds.map Sl.d ++ List.replicate (n_branches.length - p_branches.length) Sl.no) No (fun z => z = d) No No := by
  obtain ⟨n, r, ho, hd, hl, rfl, rfl⟩ := h
  unfold t_branches
  have rest : ∀ s l, enc r = .tuple (.str s :: l) → s ≠ "hear" → brs r = brss (parts r) → DS (W0 K G H) (t_branches K w (spF q_parts_of) (spF (q_branches m))) [Sl.d (enc r), .no, .no] No (fun z => z = .tuple (Ns (brs r))) No No := by
    intro s l e ne eb
    have e1 : ([Sl.d (enc r), .no, .no] : List Sl)[0]? = some (Sl.d (.tuple (.str s :: l))) := by rw [e]; rfl
    refine ds_nF e1 ne (ds_seq (ds_own0 ?_))
    refine ds_seq (ds_forv (div_t (dv_call (x := .tuple (encs (parts r))) (dav_cons (dv_var rfl) da_nil) ⟨n, r, ho, rfl, rfl⟩)) (fun i Γ => ∃ a, Γ = [Sl.d (enc r), .l (Ns (brss ((parts r).take i))), a]) ⟨Sl.no, by rw [List.take_zero]; rfl⟩ ?_ ?_)
    · rintro i x Γ' hx ⟨a, rfl⟩
      obtain ⟨p, hp, rfl⟩ := encs_get hx
      have hm := List.mem_of_getElem? hp
      have hb := brs_mem_le hm
      have h2 := brss_len_le (ps := parts r) i
      have h3 : (brss (parts r)).length ≤ 1000 := by rw [← eb]; exact hl
      refine dg_name (ds_extT (i := 1) rfl (dv_call (x := .tuple (Ns (brs p))) (dav_cons (dv_var rfl) da_nil) ⟨n, p, okRs_mem (parts_ok ho) hm, by have := parts_dep hm; omega, by omega, rfl, rfl⟩) (by rw [Ns_len, Ns_len]; omega) ?_)
      refine ⟨Sl.d (enc p), ?_⟩
      rw [brss_take hp, Ns_app]
      rfl
    · rintro Γ' ⟨a, rfl⟩
      have e2 : (parts r).take (encs (parts r)).length = parts r := by rw [encs_len, List.take_length]
      rw [e2, ← eb]
      exact ds_freeze 1 rfl (ds_rv (dv_cb (dav_cons (dv_var rfl) da_nil) rc_tupL))
  cases r with
  | is v => exact rest _ _ rfl (by decide) rfl
  | hear j => exact ds_nT rfl rfl (ds_rv (dv_tup (dav_cons (dv_at (dv_var rfl) at1) da_nil) (Nat.le_of_ble_eq_true rfl)))
  | node k ps => exact rest _ _ (enc_node k ps) (wd_hear k) rfl
/-! ### made -/
def q_made (ds : List PD) (d : PD) : Prop := ∃ (k : Kd) (ns : List Int) (xs : List PD), okK k ns.length ∧ (∀ z ∈ ns, 0 ≤ z) ∧ ds = [encK k xs, .list (Ls ns)] ∧ d = .int (made k ns)
section
variable {W : Wd} {Γ : List Sl} {K : PySem.W.Frag} {t1 t2 : TS} {N : List Sl → Prop} {R : PD → Prop} {B C : List Sl → Prop} {i : Nat}
theorem ds_wF {k : Kd} {xs : List PD} {u : Str} (h : Γ[i]? = some (Sl.d (encK k xs))) (ne : wd k ≠ u) (kk : DS W t2 Γ N R B C) : DS W (tSeq (tIfS (tTest (tOp rEq (tOp (rIxT K) (tVar i) (tC (.int 0))) (tC (.str u)))) t1 tNext) t2) Γ N R B C := by
  rw [encK_eq] at h
  exact ds_nF h ne kk
theorem ds_wT {k : Kd} {xs : List PD} {u : Str} (h : Γ[i]? = some (Sl.d (encK k xs))) (e : wd k = u) (kk : DS W t1 Γ (fun Γ' => DS W t2 Γ' N R B C) R B C) : DS W (tSeq (tIfS (tTest (tOp rEq (tOp (rIxT K) (tVar i) (tC (.int 0))) (tC (.str u)))) t1 tNext) t2) Γ N R B C := by
  rw [encK_eq] at h
  exact ds_nT h e kk
end
theorem head_at {ns : List Int} (h : 0 < ns.length) : atI (Ls ns) 0 = some (.int (ns.headD 0)) := by
  cases ns with
  | nil => simp at h
  | cons a l => exact at0
theorem row_at {ws : List Int} {j : Int} (h0 : 0 ≤ j) (h1 : j < ws.length) : atI (Ls ws) j = some (.int (ws.getD j.toNat 0)) := by
  refine atI_nn h0 ?_
  unfold Ls
  have hj : j.toNat < ws.length := by omega
  rw [List.getElem?_map, List.getElem?_eq_getElem hj, List.getD_eq_getElem?_getD, List.getElem?_eq_getElem hj]
  rfl
theorem Ls_len (l : List Int) : (Ls l).length = l.length := List.length_map _
theorem headD_nn {ns : List Int} (h : ∀ z ∈ ns, 0 ≤ z) : 0 ≤ ns.headD 0 := by
  cases ns with
  | nil => exact Int.le_refl 0
  | cons a l => exact h a List.mem_cons_self
theorem r_made {K : PySem.W.Frag} {w : World} (G H : Hp) (ds : List PD) (d : PD) (h : q_made ds d) : DS (W0 K G H) (t_made K w) (ds.map Sl.d ++ List.replicate (n_made.length - p_made.length) Sl.no) No (fun z => z = d) No No := by
  obtain ⟨k, ns, xs, ho, hz, rfl, rfl⟩ := h
  unfold t_made
  have v1 : ∀ Γ : List Sl, Γ[1]? = some (Sl.d (.list (Ls ns))) → 0 < ns.length → DV (W0 K G H) (tOp (rIxL K) (tVar 1) (tC (.int 0))) Γ (.int (ns.headD 0)) := fun Γ e hn => dv_atL (dv_var e) (head_at hn)
  have h0 := headD_nn hz
  cases k with
  | least =>
    have hn : ns ≠ [] := fun e => by rw [e] at ho; exact absurd ho.1 (by simp)
    exact ds_nT rfl rfl (ds_rv (dv_cb (dav_cons (dv_var rfl) da_nil) (rc_min hn)))
  | most =>
    have hn : ns ≠ [] := fun e => by rw [e] at ho; exact absurd ho.1 (by simp)
    exact ds_nF rfl (by decide) (ds_nT rfl rfl (ds_rv (dv_cb (dav_cons (dv_var rfl) da_nil) (rc_max hn))))
  | middle =>
    have h3 : (srt ns).length = 3 := (srt_len ns).trans ho
    refine ds_nF rfl (by decide) (ds_nF rfl (by decide) (ds_nT rfl rfl (ds_rv (dv_atL (dv_cb (dav_cons (dv_var rfl) da_nil) (rc_sorted (srt_perm ns) (srt_asc ns))) ?_))))
    exact row_at (ws := srt ns) (by decide) (by rw [h3]; decide)
  | add => exact ds_nF rfl (by decide) (ds_nF rfl (by decide) (ds_nF rfl (by decide) (ds_nT rfl rfl (ds_rv (dv_cb (dav_cons (dv_var rfl) da_nil) rc_sum)))))
  | times m =>
    obtain ⟨hl, a, b⟩ := ho
    exact ds_nF rfl (by decide) (ds_nF rfl (by decide) (ds_nF rfl (by decide) (ds_nF rfl (by decide) (ds_nT rfl rfl (ds_rv (dv_op (dv_at (dv_var rfl) at1) (v1 _ rfl (by omega)) (rd_mul (.inl ⟨by omega, by omega⟩))))))))
  | part m =>
    obtain ⟨hl, a, b⟩ := ho
    exact ds_nF rfl (by decide) (ds_nF rfl (by decide) (ds_nF rfl (by decide) (ds_nF rfl (by decide) (ds_nF rfl (by decide) (ds_nT rfl rfl (ds_rv (dv_op (v1 _ rfl (by omega)) (dv_at (dv_var rfl) at1) (rd_fdiv ⟨by omega, by omega⟩))))))))
  | clip lo hi =>
    obtain ⟨hl, a, b, c⟩ := ho
    exact ds_nF rfl (by decide) (ds_nF rfl (by decide) (ds_nF rfl (by decide) (ds_nF rfl (by decide) (ds_nF rfl (by decide) (ds_nF rfl (by decide) (ds_nT rfl rfl (ds_rv (dv_cb (dav_cons (dv_cb (dav_cons (v1 _ rfl (by omega)) (dav_cons (dv_at (dv_var rfl) at1) da_nil)) rc_max2) (dav_cons (dv_at (dv_var rfl) at2) da_nil)) rc_min2))))))))
  | frm m =>
    obtain ⟨hl, a, b⟩ := ho
    exact ds_nF rfl (by decide) (ds_nF rfl (by decide) (ds_nF rfl (by decide) (ds_nF rfl (by decide) (ds_nF rfl (by decide) (ds_nF rfl (by decide) (ds_nF rfl (by decide) (ds_nT rfl rfl (ds_rv (dv_cb (dav_cons dv_int (dav_cons (dv_op (dv_at (dv_var rfl) at1) (v1 _ rfl (by omega)) rd_sub) da_nil)) rc_max2)))))))))
  | bar m lo hi =>
    obtain ⟨hl, a⟩ := ho
    refine ds_nF rfl (by decide) (ds_nF rfl (by decide) (ds_nF rfl (by decide) (ds_nF rfl (by decide) (ds_nF rfl (by decide) (ds_nF rfl (by decide) (ds_nF rfl (by decide) (ds_nF rfl (by decide) (ds_nT rfl rfl (ds_rv (DV.to (dv_if2 (dt_test (dv_op (v1 _ rfl (by omega)) (dv_at (dv_var rfl) at1) rd_ge)) (dv_at (dv_var rfl) at3) (dv_at (dv_var rfl) at2)) ?_))))))))))
    show _ = PyData.int (if m ≤ ns.headD 0 then hi else lo)
    by_cases q : m ≤ ns.headD 0
    · rw [if_pos (by simpa using q), if_pos q]
    · rw [if_neg (by simpa using q), if_neg q]
  | row ws =>
    obtain ⟨hl, a, b, c⟩ := ho
    refine ds_nF rfl (by decide) (ds_nF rfl (by decide) (ds_nF rfl (by decide) (ds_nF rfl (by decide) (ds_nF rfl (by decide) (ds_nF rfl (by decide) (ds_nF rfl (by decide) (ds_nF rfl (by decide) (ds_nF rfl (by decide) (ds_rv (dv_op (dv_at (dv_var rfl) at1) (dv_cb (dav_cons (v1 _ rfl (by omega)) (dav_cons (dv_op (dv_lenT (dv_at (dv_var rfl) at1)) dv_int rd_sub) da_nil)) rc_min2) (rd_ixT ?_)))))))))))
    rw [show ((ws.map PyData.int).length : Int) = (ws.length : Int) by rw [List.length_map]]
    exact row_at (ws := ws) (by omega) (by omega)
/-! ### told -/
theorem tolds_take {ps : List Rl} {h : List Int} {i : Nat} {p : Rl} (e : ps[i]? = some p) : tolds (ps.take (i + 1)) h = tolds (ps.take i) h ++ [told p (h.drop (brss (ps.take i)).length)] := by
  induction ps generalizing h i with
  | nil => simp at e
  | cons q ps ih =>
    cases i with
    | zero =>
      have e2 : q = p := Option.some.inj e
      subst e2
      simp [tolds, brss]
    | succ i =>
      have e2 : ps[i]? = some p := e
      rw [List.take_succ_cons, List.take_succ_cons]
      show told q h :: tolds (ps.take (i + 1)) (h.drop (brs q).length) = _
      rw [ih e2]
      show _ = (told q h :: tolds (ps.take i) (h.drop (brs q).length)) ++ _
      rw [List.drop_drop]
      show _ = _ :: (_ ++ [told p (h.drop (brs q ++ brss (ps.take i)).length)])
      rw [List.length_append]
theorem tolds_len {ps : List Rl} {h : List Int} : (tolds ps h).length = ps.length := by
  induction ps generalizing h with
  | nil => rfl
  | cons q ps ih => exact congrArg (· + 1) ih
theorem lmin_nn {l : List Int} (h : ∀ z ∈ l, 0 ≤ z) : 0 ≤ lmin l := by
  cases l with
  | nil => exact Int.le_refl 0
  | cons a r => exact h _ (lmin_mem (List.cons_ne_nil _ _))
theorem lmax_nn {l : List Int} (h : ∀ z ∈ l, 0 ≤ z) : 0 ≤ lmax l := by
  cases l with
  | nil => exact Int.le_refl 0
  | cons a r => exact h _ (lmax_mem (List.cons_ne_nil _ _))
theorem getD_nn {l : List Int} (h : ∀ z ∈ l, 0 ≤ z) (i : Nat) : 0 ≤ l.getD i 0 := by
  rw [List.getD_eq_getElem?_getD]
  cases e : l[i]? with
  | none => exact Int.le_refl 0
  | some a => exact h a (List.mem_of_getElem? e)
theorem sum_nn : ∀ {l : List Int}, (∀ z ∈ l, 0 ≤ z) → 0 ≤ l.sum
  | [], _ => Int.le_refl 0
  | a :: r, h => by
    rw [List.sum_cons]
    have := h a List.mem_cons_self
    have := sum_nn (l := r) fun z hz => h z (List.mem_cons_of_mem _ hz)
    omega
theorem made_nn {k : Kd} {ns : List Int} (ho : okK k ns.length) (h : ∀ z ∈ ns, 0 ≤ z) : 0 ≤ made k ns := by
  have h0 := headD_nn h
  cases k with
  | least => exact lmin_nn h
  | most => exact lmax_nn h
  | middle => exact getD_nn (fun z hz => h z ((srt_perm ns).mem_iff.mp hz)) 1
  | add => exact sum_nn h
  | times m => exact Int.mul_nonneg ho.2.1 h0
  | part m => exact Int.ediv_nonneg h0 (by have := ho.2.1; omega)
  | clip lo hi =>
    obtain ⟨_, a, b, c⟩ := ho
    show 0 ≤ min (max (ns.headD 0) lo) hi
    omega
  | frm m =>
    show 0 ≤ max 0 (m - ns.headD 0)
    omega
  | bar m lo hi =>
    obtain ⟨_, a, b, c, d, e, f⟩ := ho
    show 0 ≤ if m ≤ ns.headD 0 then hi else lo
    split <;> omega
  | row ws => exact getD_nn (fun z hz => (ho.2.2.2 z hz).1) _
mutual
theorem told_nn {n : Nat} : ∀ (r : Rl) (h : List Int), okR n r → (∀ z ∈ h, 0 ≤ z) → 0 ≤ told r h
  | .is v, h, ho, _ => ho.1
  | .hear j, h, ho, hh => headD_nn hh
  | .node k ps, h, ho, hh => made_nn (by rw [tolds_len]; exact ho.1) (tolds_nn ps h ho.2 hh)
theorem tolds_nn {n : Nat} : ∀ (ps : List Rl) (h : List Int), okRs n ps → (∀ z ∈ h, 0 ≤ z) → ∀ z ∈ tolds ps h, 0 ≤ z
  | [], _, _, _ => fun z hz => absurd hz (by simp [tolds])
  | p :: ps, h, ho, hh => fun z hz => by
    rcases List.mem_cons.mp hz with e | e
    · rw [e]; exact told_nn p h ho.1 hh
    · exact tolds_nn ps _ ho.2 (fun y hy => hh y (List.mem_of_mem_drop hy)) z e
end
def q_told_by (m : Nat) (ds : List PD) (d : PD) : Prop := ∃ (n : Nat) (r : Rl) (hs : List Int) (at' : Nat), okR n r ∧ dep r ≤ m ∧ at' + (brs r).length ≤ hs.length ∧ hs.length ≤ 1000 ∧ (∀ z ∈ hs, 0 ≤ z) ∧
  ds = [enc r, .tuple (Ls hs), .int (at' : Int)] ∧ d = .tuple [.int (told r (hs.drop at')), .int ((at' + (brs r).length : Nat) : Int)]
theorem r_told_by {K : PySem.W.Frag} {w : World} (m : Nat) (G H : Hp) (ds : List PD) (d : PD) (h : q_told_by (m + 1) ds d) : DS (W0 K G H) (t_told_by K w (spF q_parts_of) (spF (q_told_by m)) (spF q_made)) (ds.map Sl.d ++ List.replicate (n_told_by.length - p_told_by.length) Sl.no) No (fun z => z = d) No No := by
  obtain ⟨n, r, hs, at', ho, hd, hl, hb, hz, rfl, rfl⟩ := h
  unfold t_told_by
  cases r with
  | is v => exact ds_nT rfl rfl (ds_rv (dv_tup (dav_cons (dv_at (dv_var rfl) at1) (dav_cons (dv_var rfl) da_nil)) (Nat.le_of_ble_eq_true rfl)))
  | hear j =>
    have hlt : at' < hs.length := by
      have : (brs (.hear j)).length = 1 := rfl
      omega
    refine ds_nF rfl (by decide) (ds_nT rfl rfl (ds_rv (dv_tup (dav_cons (dv_op (dv_var rfl) (dv_var rfl) (rd_ixT (d := .int (told (.hear j) (hs.drop at'))) ?_)) (dav_cons (dv_op (dv_var rfl) dv_int rd_add) da_nil)) (Nat.le_of_ble_eq_true rfl))))
    rw [row_at (by omega) (by omega)]
    congr 2
    show hs.getD (at' : Int).toNat 0 = (hs.drop at').headD 0
    rw [List.getD_eq_getElem?_getD, List.headD_eq_head?_getD, List.head?_drop]
    rfl
  | node k ps =>
    have e0 : ∀ x y z : Sl, ([Sl.d (enc (.node k ps)), .d (.tuple (Ls hs)), .d (.int (at' : Int)), x, y, z] : List Sl)[0]? = some (Sl.d (.tuple (.str (wd k) :: tl k (encs ps)))) := fun x y z => by rw [enc_node]; rfl
    refine ds_nF (e0 _ _ _) (wd_is k) (ds_nF (e0 _ _ _) (wd_hear k) (ds_seq (ds_own0 ?_)))
    refine ds_seq (ds_forv (div_t (dv_call (x := .tuple (encs ps)) (dav_cons (dv_var rfl) da_nil) ⟨n, _, ho, rfl, rfl⟩)) (fun i Γ => ∃ a b, Γ = [Sl.d (enc (.node k ps)), .d (.tuple (Ls hs)), .d (.int ((at' + (brss (ps.take i)).length : Nat) : Int)), .l (Ls (tolds (ps.take i) (hs.drop at'))), a, b]) ⟨_, _, rfl⟩ ?_ ?_)
    · rintro i x Γ' hx ⟨a, b, rfl⟩
      obtain ⟨p, hp, rfl⟩ := encs_get hx
      have hm := List.mem_of_getElem? hp
      have hb2 : (brss (ps.take (i + 1))).length ≤ (brss ps).length := brss_len_le (i + 1)
      rw [brss_take hp, List.length_append] at hb2
      have hl2 : at' + (brss ps).length ≤ hs.length := hl
      have hi : i < ps.length := (List.getElem?_eq_some_iff.mp hp).1
      have hk : ps.length ≤ 60 := by
        have := ho.1
        cases k <;> simp only [okK] at this <;> omega
      refine dg_name (ds_seq (ds_asgG (P := fun z => z = _) (dv_call (x := .tuple [.int (told p (hs.drop (at' + (brss (ps.take i)).length))), .int ((at' + (brss (ps.take i)).length + (brs p).length : Nat) : Int)]) (dav_cons (dv_var rfl) (dav_cons (dv_var rfl) (dav_cons (dv_var rfl) da_nil))) ⟨n, p, hs, at' + (brss (ps.take i)).length, okRs_mem ho.2 hm, ?_, by omega, hb, hz, rfl, rfl⟩) (fun z e => e ▸ dg_tup2 ?_)))
      · have := parts_dep (r := .node k ps) hm
        omega
      · refine ds_append (i := 3) rfl (dv_var (x := .int (told p (hs.drop (at' + (brss (ps.take i)).length)))) rfl) (by rw [Ls_len, tolds_len, List.length_take]; omega) (fun z e => ?_)
        subst e
        refine ⟨.d (enc p), .d (.int (told p (hs.drop (at' + (brss (ps.take i)).length)))), ?_⟩
        rw [brss_take hp, tolds_take hp, List.drop_drop, List.length_append, ← Nat.add_assoc]
        unfold Ls
        rw [List.map_append]
        rfl
    · rintro Γ' ⟨a, b, rfl⟩
      have e2 : ps.take (encs ps).length = ps := by rw [encs_len, List.take_length]
      rw [e2]
      refine ds_freeze 3 rfl (ds_rv (dv_tup (dav_cons (dv_call (x := .int (made k (tolds ps (hs.drop at')))) (dav_cons (dv_var rfl) (dav_cons (dv_var rfl) da_nil)) ⟨k, tolds ps (hs.drop at'), encs ps, ?_, ?_, rfl, rfl⟩) (dav_cons (dv_var rfl) da_nil)) (Nat.le_of_ble_eq_true rfl)))
      · rw [tolds_len]
        exact ho.1
      · exact tolds_nn ps _ ho.2 fun y hy => hz y (List.mem_of_mem_drop hy)
def q_told (ds : List PD) (d : PD) : Prop := ∃ (n : Nat) (r : Rl) (hs : List Int), okR n r ∧ dep r ≤ 4 ∧ (brs r).length ≤ hs.length ∧ hs.length ≤ 1000 ∧ (∀ z ∈ hs, 0 ≤ z) ∧ ds = [enc r, .tuple (Ls hs)] ∧ d = .int (told r hs)
theorem r_told {K : PySem.W.Frag} {w : World} (G H : Hp) (ds : List PD) (d : PD) (h : q_told ds d) : DS (W0 K G H) (t_told K w (spF (q_told_by 4))) (ds.map Sl.d ++ List.replicate (n_told.length - p_told.length) Sl.no) No (fun z => z = d) No No := by
  obtain ⟨n, r, hs, ho, hd, hl, hb, hz, rfl, rfl⟩ := h
  exact ds_rv (dv_at (dv_call (x := .tuple [.int (told r hs), .int ((0 + (brs r).length : Nat) : Int)]) (dav_cons (dv_var rfl) (dav_cons (dv_var rfl) (dav_cons dv_int da_nil))) ⟨n, r, hs, 0, ho, hd, by omega, hb, hz, rfl, rfl⟩) at0)
end K24

set_option Elab.async false
set_option linter.all false
set_option maxRecDepth 100000
/-! K24R4: nets and lots; promises of what may refuse. -/
namespace K24
open PySem PySem.Spec L2
/-! ### promises of defs that may refuse -/
def XT (C : Addr) (n : Int) (H : Hp) (E : XK) : Prop := ∀ (d : Addr) (H' : Hp), Same H H' → H' d = some (.xd [(("at" : Str), .int n)]) → E (.ref C) (some d) H'
def spX (C : Addr) (rel : List PD → PD → Prop) (bad : List PD → Int → Prop) : Sp := fun vs H Q E => spF rel vs H Q E ∨ ∃ (ds : List PD) (G : Hp) (n : Int), DqAll G vs ds ∧ Same G H ∧ bad ds n ∧ XT C n H E
theorem spX_len {C : Addr} {rel : List PD → PD → Prop} {bad : List PD → Int → Prop} {ps : List Str} (h : ∀ ds d, rel ds d → ds.length = ps.length) (hb : ∀ ds n, bad ds n → ds.length = ps.length) : ∀ vs H Q E, spX C rel bad vs H Q E → vs.length = ps.length := fun vs H Q E z => by
  rcases z with z | ⟨ds, G, n, hv, _, b, _⟩
  · exact spF_len h vs H Q E z
  · rw [hv.length]
    exact hb ds n b
theorem dv_callX {W : Wd} {Γ : List Sl} {t : TA} {C : Addr} {rel : List PD → PD → Prop} {bad : List PD → Int → Prop} {E : XK} {ds : List PD} {x : PD} (h : DAv W t Γ ds) (hr : rel ds x) : DV W (tCall (spX C rel bad) [] E t) Γ x := fun σ G H s Q q => h σ G H s _ fun vs G1 H1 ys s1 f1 p hv => by
  cases p
  refine .inl ⟨ds, G1, x, by rw [List.append_nil]; exact hv, s1.sub, hr, fun v G2 H2 f2 dv => ?_⟩
  exact q v G2 H2 x (s1.step0 f2) (f1.trans f2.any) rfl dv
theorem dv_callK {W : Wd} {Γ : List Sl} {t : TA} {rel : List PD → PD → Prop} {E : XK} {gV : List V → List V} {gD : List PD → List PD} {ds : List PD} {x : PD} (h : DAv W t Γ ds) (hg : ∀ {G : Hp} {vs : List V}, DqAll G vs ds → DqAll G (gV vs) (gD ds)) (hr : rel (gD ds) x) : DV W (tCallK0 (spF rel) gV E t) Γ x := fun σ G H s Q q => h σ G H s _ fun vs G1 H1 ys s1 f1 p hv => by
  cases p
  refine ⟨gD ds, G1, x, hg hv, s1.sub, hr, fun v G2 H2 f2 dv => ?_⟩
  exact q v G2 H2 x (s1.step0 f2) (f1.trans f2.any) rfl dv
theorem dv_callKX {W : Wd} {Γ : List Sl} {t : TA} {C : Addr} {rel : List PD → PD → Prop} {bad : List PD → Int → Prop} {E : XK} {gV : List V → List V} {gD : List PD → List PD} {ds : List PD} {x : PD} (h : DAv W t Γ ds) (hg : ∀ {G : Hp} {vs : List V}, DqAll G vs ds → DqAll G (gV vs) (gD ds)) (hr : rel (gD ds) x) : DV W (tCallK0 (spX C rel bad) gV E t) Γ x := fun σ G H s Q q => h σ G H s _ fun vs G1 H1 ys s1 f1 p hv => by
  cases p
  refine .inl ⟨gD ds, G1, x, hg hv, s1.sub, hr, fun v G2 H2 f2 dv => ?_⟩
  exact q v G2 H2 x (s1.step0 f2) (f1.trans f2.any) rfl dv
/-- where a call refuses -/
def DXe (W : Wd) (te : TE) (Γ : List Sl) : Prop := ∀ (σ : L2.St) (G H : Hp), SR W G H σ Γ → ∀ Q : VK, te σ H Q
def DXs (W : Wd) (ts : TS) (Γ : List Sl) : Prop := ∀ (σ : L2.St) (G H : Hp) (D : Ends), SR W G H σ Γ → ts D σ H
section
variable {K : PySem.W.Frag} {G0 H0 : Hp} {Γ : List Sl} {C : Addr} {rel : List PD → PD → Prop} {bad : List PD → Int → Prop} {E : XK} {n : Int} {t : TA} {te : TE} {ts tu : TS} {ds : List PD}
theorem dx_call (h : DAv (W0 K G0 H0) t Γ ds) (b : bad ds n) (x : XT C n H0 E) : DXe (W0 K G0 H0) (tCall (spX C rel bad) [] E t) Γ := fun σ G H s Q => h σ G H s _ fun vs G1 H1 ys s1 f1 p hv => by
  cases p
  refine .inr ⟨ds, G1, n, by rw [List.append_nil]; exact hv, s1.sub, b, fun d H' sm hd => x d H' (fun a o e => sm a o (s1.fw.all a o e)) hd⟩
theorem dx_drop (h : DXe (W0 K G0 H0) te Γ) : DXs (W0 K G0 H0) (tDrop te) Γ := fun σ G H D s => h σ G H s _
theorem dx_asg {g : TG} (h : DXe (W0 K G0 H0) te Γ) : DXs (W0 K G0 H0) (tAsg te g) Γ := fun σ G H D s => h σ G H s _
theorem dx_ret (h : DXe (W0 K G0 H0) te Γ) : DXs (W0 K G0 H0) (tRet te) Γ := fun σ G H D s => h σ G H s _
theorem dx_seq (h : DXs (W0 K G0 H0) ts Γ) : DXs (W0 K G0 H0) (tSeq ts tu) Γ := fun σ G H D s => h σ G H _ s
theorem dx_par {i j : Nat} {tr : TA} (h : DXe (W0 K G0 H0) te Γ) : DXs (W0 K G0 H0) (tPar i j (tCons te tr)) Γ := fun σ G H D s => h σ G H s _
theorem dx_op1 {r : R2} {tb : TE} (h : DXe (W0 K G0 H0) te Γ) : DXe (W0 K G0 H0) (tOp r te tb) Γ := fun σ G H s Q => h σ G H s _
theorem dx_then {N : List Sl → Prop} (h : DS (W0 K G0 H0) ts Γ N (fun _ => False) No No) (k : ∀ Γ', N Γ' → DXs (W0 K G0 H0) tu Γ') : DXs (W0 K G0 H0) (tSeq ts tu) Γ := fun σ G H D s =>
  h σ G H { D with nx := tu D } s (fun σ' G' H' Γ' s' g' m => k Γ' m σ' G' H' D s') (fun _ _ _ _ _ _ z _ => z.elim) (fun _ _ _ _ _ _ z => z.elim) (fun _ _ _ _ _ _ z => z.elim)
theorem bodyX {ts : TS} {N : List Str} {m : Nat} {vs : List V} {H : Hp} {Q : VK} (h : spX C rel bad vs H Q E) (hm : ∀ ds d, rel ds d → ds.length = m) (hmb : ∀ ds n, bad ds n → ds.length = m)
    (hb : ∀ (G : Hp) (ds : List PD) (d : PD), rel ds d → DS (W0 K G H) ts (ds.map Sl.d ++ List.replicate (N.length - m) Sl.no) No (fun z => z = d) No No)
    (hx : ∀ (G : Hp) (ds : List PD) (n : Int), bad ds n → XT C n H E → DXs (W0 K G H) ts (ds.map Sl.d ++ List.replicate (N.length - m) Sl.no)) : ts { nx := fun _ H' => Q .non H', rt := Q } (L2.start N vs) H := by
  rcases h with h | ⟨ds, G, n, hv, s, b, x⟩
  · exact body0 (E := E) h hm K hb
  · have e : L2.start N vs = vs.map some ++ List.replicate (N.length - m) none := by
      unfold L2.start
      rw [hv.length, hmb ds n b]
    rw [e]
    exact hx G ds n b x _ G H _ (sr0 s hv _)
end

/-! ### nets -/
theorem encs_at {ps : List Rl} {i : Nat} (h : i < ps.length) : (encs ps)[i]? = some (enc (ps.getD i (.is 0))) := by
  induction ps generalizing i with
  | nil => simp at h
  | cons p ps ih =>
    cases i with
    | zero => rfl
    | succ i =>
      have h2 : i < ps.length := by simpa using h
      show (encs ps)[i]? = _
      rw [ih h2]
      rfl
theorem nth_nat {l : List PD} {i : Nat} {x : PD} (h : l[i]? = some x) : atI l (i : Int) = some x := atI_nat h
section
variable {W : Wd} {Γ : List Sl} {K : PySem.W.Frag} {te ti : TE} {net : Net} {i : Nat} {ls : Lots}
theorem dv_rule (h : DV W te Γ (encN net)) (hi : DV W ti Γ (.int (i : Int))) (hl : i < net.2.length) : DV W (tOp (rIxT K) (tOp (rIxT K) te (tC (.int 1))) ti) Γ (enc (rl net i)) := dv_op (dv_at h at1) hi (rd_ixT (nth_nat (encs_at hl)))
theorem dv_top (h : DV W te Γ (encN net)) (hi : DV W ti Γ (.int (i : Int))) (hl : i < net.1.length) : DV W (tOp (rIxT K) (tOp (rIxT K) te (tC (.int 0))) ti) Γ (.int (tp net i)) := dv_op (dv_at h at0) hi (rd_ixT (row_at (by omega) (by omega)))
theorem dv_lot (h : DV W te Γ (encLs ls)) (hi : DV W ti Γ (.int (i : Int))) (hl : i < ls.length) : DV W (tOp (rIxT K) te ti) Γ (encT (ls.getD i [])) := dv_op h hi (rd_ixT (nth_nat (by
  rw [List.getElem?_map, List.getElem?_eq_getElem hl, List.getD_eq_getElem?_getD, List.getElem?_eq_getElem hl]
  rfl)))
end
theorem okN_rl {net : Net} {most : Int} (o : okN net most) {i : Nat} (hi : i < net.2.length) : okR net.1.length (rl net i) ∧ dep (rl net i) ≤ 4 := by
  have hm : rl net i ∈ net.2 := by
    unfold rl
    rw [List.getD_eq_getElem?_getD, List.getElem?_eq_getElem hi]
    exact List.getElem_mem hi
  exact ⟨okRs_mem o.rules hm, Nat.le_trans (deps_mem hm) o.deep⟩
/-- a row that a house can hear -/
structure okRow (net : Net) (i : Nat) (row : List Int) : Prop where
  len : row.length = (brs (rl net i)).length
  few : row.length ≤ 1000
  nn : ∀ z ∈ row, 0 ≤ z
def q_wanted (ds : List PD) (d : PD) : Prop := ∃ (net : Net) (most : Int) (i : Nat) (row : List Int), okN net most ∧ i < net.1.length ∧ okRow net i row ∧ ds = [encN net, .int (i : Int), encT row] ∧ d = .int (want net i row)
theorem r_wanted {K : PySem.W.Frag} {w : World} (G H : Hp) (ds : List PD) (d : PD) (h : q_wanted ds d) : DS (W0 K G H) (t_wanted K w (spF q_told)) (ds.map Sl.d ++ List.replicate (n_wanted.length - p_wanted.length) Sl.no) No (fun z => z = d) No No := by
  obtain ⟨net, most, i, row, o, hi, ho, rfl, rfl⟩ := h
  have hi2 : i < net.2.length := by rw [o.len]; exact hi
  obtain ⟨r1, r2⟩ := okN_rl o hi2
  exact ds_rv (dv_cb (dav_cons (dv_top (dv_var rfl) (dv_var rfl) hi) (dav_cons (dv_call (x := .int (told (rl net i) row)) (dav_cons (dv_rule (dv_var rfl) (dv_var rfl) hi2) (dav_cons (dv_var rfl) da_nil)) ⟨_, rl net i, row, r1, r2, Nat.le_of_eq ho.len.symm, ho.few, ho.nn, rfl, rfl⟩) da_nil)) rc_min2)
theorem upto_D (t : Int) (h : 0 ≤ t) : (.tuple (rng 0 (t + 1).toNat) : PD) = encT (upto t) := by
  unfold rng encT Ls upto
  rw [List.map_map]
  congr 1
  apply List.map_congr_left
  intro k _
  show PyData.int (0 + (k : Int)) = PyData.int (k : Int)
  rw [Int.zero_add]
def q_first_lots (ds : List PD) (d : PD) : Prop := ∃ (net : Net) (most : Int), okN net most ∧ ds = [encN net] ∧ d = encLs (firstL net)
theorem firstD {W : Wd} {Γ : List Sl} {K : PySem.W.Frag} {net : Net} {most : Int} {te : TE} {j : Nat} (hj : j < Γ.length) (o : okN net most) (h : DV W te Γ (encN net)) :
    DV W (tLc (iTup K (tOp (rIxT K) te (tC (.int 0)))) (gName j) tYes (tTupRg (tRg1 (tOp qAdd (tVar j) (tC (.int 1))))) [j]) Γ (.list ((firstL net).map encT)) := by
  have hf := o.few
  have a := dv_map (W := W) (Γ := Γ) (vs := [j]) (j := j) (f := fun d => match d with | .int t => encT (upto t) | _ => .none) (te := tTupRg (tRg1 (tOp qAdd (tVar j) (tC (.int 1))))) (div_t (K := K) (te := tOp (rIxT K) te (tC (.int 0))) (dv_at (K := K) h at0)) (by rw [Ls_len]; omega) (by simp) (fun i y hy => by
    obtain ⟨t, ht, rfl⟩ := List.mem_map.mp (List.mem_of_getElem? hy)
    obtain ⟨h0, h1⟩ := o.tops t ht
    have hm := o.most1
    have v : DV W (tTupRg (tRg1 (tOp qAdd (tVar j) (tC (.int 1))))) ((wipeS Γ [j]).set j (Sl.d (.int t))) (.tuple (rng 0 (t + 1).toNat)) := dv_tupRg (dv_op (dv_var (by rw [List.getElem?_set_self (by rw [wipeS_len]; exact hj)])) dv_int rd_add) (by omega) (by omega)
    rw [upto_D t h0] at v
    exact v)
  refine DV.to a ?_
  unfold firstL Ls
  rw [List.map_map, List.map_map]
  rfl
theorem r_first_lots {K : PySem.W.Frag} {w : World} (G H : Hp) (ds : List PD) (d : PD) (h : q_first_lots ds d) : DS (W0 K G H) (t_first_lots K w) (ds.map Sl.d ++ List.replicate (n_first_lots.length - p_first_lots.length) Sl.no) No (fun z => z = d) No No := by
  obtain ⟨net, most, o, rfl, rfl⟩ := h
  exact ds_rv (dv_cb (dav_cons (firstD (show 1 < 2 from Nat.lt_succ_self 1) o (dv_var rfl)) da_nil) rc_tupL)
/-! ### rows -/
/-- lots that may stand in a net's place: one for each house, none empty -/
structure okL (net : Net) (ls : Lots) : Prop where
  len : ls.length = net.1.length
  ne : ∀ l ∈ ls, l ≠ []
  asc : ∀ l ∈ ls, l.Pairwise (· < ·)
  nn : ∀ i, i < ls.length → ∀ z ∈ ls.getD i [], 0 ≤ z ∧ z ≤ tp net i
theorem flat_len {found : List (List Int)} {l : List Int} : (found.flatMap fun row => l.map fun w => row ++ [w]).length = found.length * l.length := by
  induction found with
  | nil => simp
  | cons a f ih => rw [List.flatMap_cons, List.length_append, ih, List.length_map, List.length_cons, Nat.succ_mul, Nat.add_comm]
def q_rows_from (ds : List PD) (d : PD) : Prop := ∃ (ls : Lots) (bs : List Nat), (∀ b ∈ bs, b < ls.length) ∧ (∀ i, i ≤ bs.length → (rowsOf ls (bs.take i) [[]]).length ≤ 4096) ∧ bs.length ≤ 900 ∧ ds = [encLs ls, .tuple (Ns bs)] ∧ d = .list ((rowsOf ls bs [[]]).map encT)
theorem rows_take {ls : Lots} {bs : List Nat} {i : Nat} {b : Nat} {f : List (List Int)} (h : bs[i]? = some b) : rowsOf ls (bs.take (i + 1)) f = (rowsOf ls (bs.take i) f).flatMap fun row => (ls.getD b []).map fun w => row ++ [w] := by
  induction bs generalizing i f with
  | nil => simp at h
  | cons c bs ih =>
    cases i with
    | zero =>
      have e : c = b := Option.some.inj h
      subst e
      rfl
    | succ i =>
      have e : bs[i]? = some b := h
      rw [List.take_succ_cons, List.take_succ_cons]
      exact ih e
theorem row_len {ls : Lots} : ∀ (bs : List Nat) (f : List (List Int)) (m : Nat), (∀ r ∈ f, r.length = m) → ∀ r ∈ rowsOf ls bs f, r.length = m + bs.length
  | [], f, m, h => fun r hr => h r hr
  | b :: bs, f, m, h => fun r hr => by
    have := row_len bs (f.flatMap fun row => (ls.getD b []).map fun w => row ++ [w]) (m + 1) (fun q hq => by
      obtain ⟨row, h1, h2⟩ := List.mem_flatMap.mp hq
      obtain ⟨v, _, rfl⟩ := List.mem_map.mp h2
      rw [List.length_append, h row h1]
      rfl) r hr
    rw [this, List.length_cons]
    omega
theorem r_rows_from {K : PySem.W.Frag} {w : World} (G H : Hp) (ds : List PD) (d : PD) (h : q_rows_from ds d) : DS (W0 K G H) (t_rows_from K w) (ds.map Sl.d ++ List.replicate (n_rows_from.length - p_rows_from.length) Sl.no) No (fun z => z = d) No No := by
  obtain ⟨ls, bs, hb, hf, hl, rfl, rfl⟩ := h
  unfold t_rows_from
  refine ds_seq (ds_asg (P := fun z => z = .list [.tuple []]) (dv_lst (dav_cons (dv_tup (xs := []) da_nil (Nat.zero_le _)) da_nil) (Nat.le_of_ble_eq_true rfl)) fun z e => ?_)
  subst e
  refine ds_seq (ds_forv (div_t (dv_var rfl)) (fun i Γ => ∃ a b c, Γ = [Sl.d (encLs ls), .d (.tuple (Ns bs)), .d (.list ((rowsOf ls (bs.take i) [[]]).map encT)), a, b, c]) ⟨_, _, _, rfl⟩ ?_ ?_)
  · rintro i x Γ' hx ⟨a, b, c, rfl⟩
    unfold Ns at hx
    rw [List.getElem?_map] at hx
    cases hi : bs[i]? with
    | none => rw [hi] at hx; cases hx
    | some o =>
      rw [hi] at hx
      cases hx
      have hil : i < bs.length := (List.getElem?_eq_some_iff.mp hi).1
      have hob := hb o (List.mem_of_getElem? hi)
      have h1 := hf (i + 1) hil
      have hrl := row_len (ls := ls) (bs.take i) [[]] 0 (fun r hr => by rw [List.mem_singleton.mp hr]; rfl)
      rw [rows_take hi, flat_len] at h1
      refine dg_name (ds_asg (P := fun z => z = .list ((rowsOf ls (bs.take (i + 1)) [[]]).map encT)) (DV.to (dv_map2 (W := W0 K G H) (vs := [4, 5]) (vs1 := [5]) (j := 4) (j1 := 5) (xs := (rowsOf ls (bs.take i) [[]]).map encT) (ys := fun _ => Ls (ls.getD o [])) (f := fun x y => match x, y with | .tuple l, y => .tuple (l ++ [y]) | _, _ => .none)
        (div_l (dv_var rfl)) (by simp) (by simp) (by simp) (ls.getD o []).length (by rw [List.length_map]; omega) (fun _ _ => by rw [Ls_len]; exact Nat.le_refl _)
        (fun x _ => div_t (dv_lot (dv_var rfl) (dv_var rfl) hob)) (fun x hx y hy => ?_)) ?_) fun z e => ?_)
      · obtain ⟨row, hr, rfl⟩ := List.mem_map.mp hx
        have hr2 := hrl row hr
        rw [List.length_take] at hr2
        exact dv_star1 (dv_var rfl) (dv_var rfl) (by rw [Ls_len]; omega)
      · rw [rows_take hi, List.map_flatMap, List.flatMap_map]
        have e3 : ∀ row : List Int, (Ls (ls.getD o [])).map (fun y => (.tuple (Ls row ++ [y]) : PD)) = ((ls.getD o []).map fun w => row ++ [w]).map encT := fun row => by
          unfold Ls encT
          rw [List.map_map, List.map_map]
          apply List.map_congr_left
          intro v _
          show PyData.tuple (row.map PyData.int ++ [PyData.int v]) = PyData.tuple ((row ++ [v]).map PyData.int)
          rw [List.map_append]
          rfl
        exact congrArg (fun g => PyData.list (List.flatMap g (rowsOf ls (bs.take i) [[]]))) (funext e3)
      · subst e
        exact ⟨_, _, _, rfl⟩
  · rintro Γ' ⟨a, b, c, rfl⟩
    rw [Ns_len, List.take_length]
    exact ds_rv (dv_var rfl)
end K24

set_option Elab.async false
set_option linter.all false
set_option maxRecDepth 100000
/-! K24N: data that can be compared and shown; == of nets' lots; how many rows. -/
namespace K24
open PySem PySem.Spec L2
/-! ### data that can be laid, compared, shown -/
def Nice0 : PD → Prop
  | .none => True
  | .bool _ => True
  | .int i => 0 ≤ i ∧ i < 64
  | _ => False
/-- tuples to depth k, each of at most 40 -/
def Nice : Nat → PD → Prop
  | 0, d => Nice0 d
  | k + 1, d => Nice0 d ∨ ∃ l : List PD, d = .tuple l ∧ l.length ≤ 40 ∧ ∀ x ∈ l, Nice k x
def bnd : Nat → Nat
  | 0 => 8
  | k + 1 => 40 * (bnd k + 2) + 8
theorem bnd_ge (k : Nat) : 8 ≤ bnd k := by
  cases k with
  | zero => exact Nat.le_refl 8
  | succ k => show 8 ≤ 40 * (bnd k + 2) + 8; omega
theorem nice0 {d : PD} (h : Nice0 d) : d.canLay0 = true ∧ d.depth = 0 ∧ d.showable = true ∧ d.hasDict = false ∧ d.shown.length ≤ 8 := by
  cases d with
  | none => exact ⟨by simp only [PyData.canLay0], by simp only [PyData.depth], by simp only [PyData.showable], by simp only [PyData.hasDict], by simp only [PyData.shown]; decide⟩
  | bool b => exact ⟨by simp only [PyData.canLay0], by simp only [PyData.depth], by simp only [PyData.showable], by simp only [PyData.hasDict], by simp only [PyData.shown]; cases b <;> decide⟩
  | int i =>
    obtain ⟨h0, h1⟩ := h
    have key : ∀ j : Fin 64, ((toString ((j.val : Nat) : Int) : String) : Str).length ≤ 8 ∧ ((j.val : Nat) : Int).natAbs.log2 < 1920 := by decide +kernel
    have e : i = ((i.toNat : Nat) : Int) := by omega
    obtain ⟨k1, k2⟩ := key ⟨i.toNat, by omega⟩
    refine ⟨by simp only [PyData.canLay0], by simp only [PyData.depth], ?_, by simp only [PyData.hasDict], ?_⟩
    · simp only [PyData.showable]
      rw [e]
      exact decide_eq_true k2
    · simp only [PyData.shown]
      rw [e]
      exact k1
  | str x => exact h.elim
  | list l => exact h.elim
  | tuple l => exact h.elim
  | dict l => exact h.elim
theorem lay_all {l : List PD} (h : ∀ x ∈ l, x.canLay0 = true) : PyData.canLayAll0 l = true := by
  induction l with
  | nil => simp only [PyData.canLayAll0]
  | cons a l ih => simp only [PyData.canLayAll0, h a List.mem_cons_self, ih fun x hx => h x (List.mem_cons_of_mem _ hx), Bool.and_true]
theorem show_all {l : List PD} (h : ∀ x ∈ l, x.showable = true) : PyData.showableAll l = true := by
  induction l with
  | nil => simp only [PyData.showableAll]
  | cons a l ih => simp only [PyData.showableAll, h a List.mem_cons_self, ih fun x hx => h x (List.mem_cons_of_mem _ hx), Bool.and_true]
theorem dict_all {l : List PD} (h : ∀ x ∈ l, x.hasDict = false) : PyData.hasDictAll l = false := by
  induction l with
  | nil => simp only [PyData.hasDictAll]
  | cons a l ih => simp only [PyData.hasDictAll, h a List.mem_cons_self, ih fun x hx => h x (List.mem_cons_of_mem _ hx), Bool.or_false]
theorem depth_all {l : List PD} {k : Nat} (h : ∀ x ∈ l, x.depth ≤ k) : PyData.depthAll l ≤ k := by
  induction l with
  | nil => simp only [PyData.depthAll]; exact Nat.zero_le _
  | cons a l ih =>
    simp only [PyData.depthAll]
    have h1 := h a List.mem_cons_self
    have h2 := ih fun x hx => h x (List.mem_cons_of_mem _ hx)
    omega
theorem piled_all {l : List PD} {b : Nat} (h : ∀ x ∈ l, x.shown.length ≤ b) : piled (PyData.shownAll l) ≤ l.length * (b + 2) := by
  induction l with
  | nil => simp [PyData.shownAll, piled]
  | cons a l ih =>
    simp only [PyData.shownAll]
    rw [piled_cons, List.length_cons, Nat.succ_mul]
    have h1 := h a List.mem_cons_self
    have h2 := ih fun x hx => h x (List.mem_cons_of_mem _ hx)
    omega
theorem tupleText_le (ts : List Str) : (tupleText ts).length ≤ piled ts + 3 := by
  unfold tupleText
  rw [strLen_append, strLen_append]
  have e1 : (("(" : String) : Str).length = 1 := rfl
  have e3 : (((if ts.length == 1 then ",)" else ")" : String) : Str)).length ≤ 2 := by split <;> decide
  by_cases q : ts = []
  · subst q
    decide
  · have e2 := join_length_add ts q
    have e1' : ("(" : Str).length = 1 := rfl
    omega
theorem nice {d : PD} : ∀ {k : Nat}, Nice k d → d.canLay0 = true ∧ d.depth ≤ k ∧ d.showable = true ∧ d.hasDict = false ∧ d.shown.length ≤ bnd k := by
  intro k
  induction k generalizing d with
  | zero =>
    intro h
    obtain ⟨a, b, c, e, f⟩ := nice0 h
    exact ⟨a, Nat.le_of_eq b, c, e, f⟩
  | succ k ih =>
    rintro (h | ⟨l, rfl, hl, h⟩)
    · obtain ⟨a, b, c, e, f⟩ := nice0 h
      exact ⟨a, by omega, c, e, Nat.le_trans f (bnd_ge _)⟩
    · have hh : ∀ x ∈ l, _ := fun x hx => ih (h x hx)
      refine ⟨?_, ?_, ?_, ?_, ?_⟩
      · simp only [PyData.canLay0]
        exact lay_all fun x hx => (hh x hx).1
      · simp only [PyData.depth]
        have := depth_all fun x hx => (hh x hx).2.1
        omega
      · simp only [PyData.showable]
        exact show_all fun x hx => (hh x hx).2.2.1
      · simp only [PyData.hasDict]
        exact dict_all fun x hx => (hh x hx).2.2.2.1
      · simp only [PyData.shown]
        have h1 := tupleText_le (PyData.shownAll l)
        have h2 := piled_all fun x hx => (hh x hx).2.2.2.2
        have h3 : l.length * (bnd k + 2) ≤ 40 * (bnd k + 2) := Nat.mul_le_mul_right _ hl
        show _ ≤ 40 * (bnd k + 2) + 8
        omega
theorem nice_mono {d : PD} : ∀ {k : Nat}, Nice k d → Nice (k + 1) d
  | 0, h => .inl h
  | k + 1, h => by
    rcases h with h | ⟨l, e, hl, hx⟩
    · exact .inl h
    · exact .inr ⟨l, e, hl, fun x hm => nice_mono (hx x hm)⟩
theorem nice_tup {k : Nat} {l : List PD} (hl : l.length ≤ 40) (h : ∀ x ∈ l, Nice k x) : Nice (k + 1) (.tuple l) := .inr ⟨l, rfl, hl, h⟩
theorem nice_shaped {d : PD} {k : Nat} (h : Nice k d) (hk : k ≤ 64) : SeqAt.shaped d = true := by
  obtain ⟨a, b, _⟩ := nice h
  unfold SeqAt.shaped
  rw [a, decide_eq_true (by omega)]
  rfl
theorem rc_reprN {K : PySem.W.Frag} {d : PD} {k : Nat} (h : Nice k d) (hk : k ≤ 3) (h5 : (∃ l, d = .list l) ∨ (∃ l, d = .tuple l) ∨ ∃ b, d = .bool b) : RC (rRepr K) [d] (fun z => z = .str d.shown) := by
  obtain ⟨_, b, c, e, f⟩ := nice h
  refine rc_repr c e (by omega) (Nat.le_trans f ?_) h5
  have hm : ∀ j, j ≤ 3 → bnd j ≤ sizeLine := fun j hj => by
    match j, hj with
    | 0, _ => decide
    | 1, _ => decide
    | 2, _ => decide
    | 3, _ => decide
  exact hm k hk
/-! ### == of data -/
theorem eqv_int {a b : Int} : PyData.eqv (.int a) (.int b) = decide (a = b) := by
  simp only [PyData.eqv]
  exact Bool.beq_eq_decide_eq a b
theorem eqv_Ls : ∀ {a b : List Int}, PyData.eqvAll (Ls a) (Ls b) = decide (a = b)
  | [], [] => by simp [Ls, PyData.eqvAll]
  | [], b :: bs => by simp [Ls, PyData.eqvAll]
  | a :: as, [] => by simp [Ls, PyData.eqvAll]
  | a :: as, b :: bs => by
    have ih := eqv_Ls (a := as) (b := bs)
    unfold Ls at ih ⊢
    simp only [List.map_cons, PyData.eqvAll, ih, eqv_int]
    by_cases h : a = b <;> by_cases h2 : as = bs <;> simp [h, h2]
theorem eqv_encT {a b : List Int} : PyData.eqv (encT a) (encT b) = decide (a = b) := by
  unfold encT
  simp only [PyData.eqv]
  exact eqv_Ls
theorem eqv_lots : ∀ {a b : Lots}, PyData.eqvAll (a.map encT) (b.map encT) = decide (a = b)
  | [], [] => by simp [PyData.eqvAll]
  | [], b :: bs => by simp [PyData.eqvAll]
  | a :: as, [] => by simp [PyData.eqvAll]
  | a :: as, b :: bs => by
    have ih := eqv_lots (a := as) (b := bs)
    simp only [List.map_cons, PyData.eqvAll, ih, eqv_encT]
    by_cases h : a = b <;> by_cases h2 : as = bs <;> simp [h, h2]
theorem eqv_encLs {a b : Lots} : PyData.eqv (encLs a) (encLs b) = decide (a = b) := by
  unfold encLs
  simp only [PyData.eqv]
  exact eqv_lots
/-! ### lots of a net -/
theorem asc_len : ∀ {l : List Int} {lo t : Int}, l.Pairwise (· < ·) → (∀ z ∈ l, lo ≤ z ∧ z ≤ t) → (l.length : Int) ≤ max 0 (t - lo + 1)
  | [], lo, t, _, _ => by
    show ((0 : Nat) : Int) ≤ _
    omega
  | a :: l, lo, t, h, hz => by
    obtain ⟨h1, h2⟩ := List.pairwise_cons.mp h
    have ha := hz a List.mem_cons_self
    have ih := asc_len (l := l) (lo := a + 1) (t := t) h2 fun z hm => ⟨by have := h1 z hm; omega, (hz z (List.mem_cons_of_mem _ hm)).2⟩
    rw [List.length_cons]
    omega
theorem okL_lot {net : Net} {ls : Lots} (o : okL net ls) {i : Nat} (h : i < ls.length) : ls.getD i [] ∈ ls := by
  rw [List.getD_eq_getElem?_getD, List.getElem?_eq_getElem h]
  exact List.getElem_mem h
theorem okL_len {net : Net} {ls : Lots} (o : okL net ls) {i : Nat} (h : i < ls.length) : 1 ≤ (ls.getD i []).length ∧ ((ls.getD i []).length : Int) ≤ tp net i + 1 := by
  have hm := okL_lot o h
  have h1 := o.ne _ hm
  have h2 := asc_len (lo := 0) (t := tp net i) (o.asc _ hm) (o.nn i h)
  have h3 : 1 ≤ (ls.getD i []).length := List.length_pos_iff.mpr h1
  refine ⟨h3, ?_⟩
  omega
theorem fold_ge {net : Net} : ∀ (bs : List Nat) (a : Int), 0 ≤ a → (∀ b ∈ bs, 0 ≤ tp net b) → a ≤ bs.foldl (fun a b => a * (tp net b + 1)) a
  | [], a, _, _ => Int.le_refl a
  | b :: bs, a, h, hb => by
    have h0 := hb b List.mem_cons_self
    have h1 : a ≤ a * (tp net b + 1) := by
      have := Int.mul_le_mul_of_nonneg_left (show (1 : Int) ≤ tp net b + 1 by omega) h
      omega
    exact Int.le_trans h1 (fold_ge bs _ (Int.le_trans h h1) fun c hc => hb c (List.mem_cons_of_mem _ hc))
theorem fold_take {net : Net} {bs : List Nat} {a : Int} (i : Nat) (h : 0 ≤ a) (hb : ∀ b ∈ bs, 0 ≤ tp net b) : (bs.take i).foldl (fun a b => a * (tp net b + 1)) a ≤ bs.foldl (fun a b => a * (tp net b + 1)) a := by
  have e : bs.foldl (fun a b => a * (tp net b + 1)) a = (bs.drop i).foldl (fun a b => a * (tp net b + 1)) ((bs.take i).foldl (fun a b => a * (tp net b + 1)) a) := by
    rw [← List.foldl_append, List.take_append_drop]
  rw [e]
  exact fold_ge _ _ (Int.le_trans h (fold_ge _ _ h fun b hm => hb b (List.mem_of_mem_take hm))) fun b hm => hb b (List.mem_of_mem_drop hm)
theorem rows_le {net : Net} {ls : Lots} (o : okL net ls) : ∀ (bs : List Nat) (f : List (List Int)) (a : Int), (f.length : Int) ≤ a → (∀ b ∈ bs, b < ls.length) → ((rowsOf ls bs f).length : Int) ≤ bs.foldl (fun a b => a * (tp net b + 1)) a
  | [], f, a, h, _ => h
  | b :: bs, f, a, h, hb => by
    refine rows_le o bs _ _ ?_ fun c hc => hb c (List.mem_cons_of_mem _ hc)
    rw [flat_len]
    have h1 := (okL_len o (hb b List.mem_cons_self)).2
    have h2 : ((f.length * (ls.getD b []).length : Nat) : Int) = (f.length : Int) * ((ls.getD b []).length : Int) := by simp
    rw [h2]
    exact Int.mul_le_mul h h1 (by omega) (by omega)
theorem rows_ne {net : Net} {ls : Lots} (o : okL net ls) : ∀ (bs : List Nat) (f : List (List Int)), f ≠ [] → (∀ b ∈ bs, b < ls.length) → rowsOf ls bs f ≠ []
  | [], f, h, _ => h
  | b :: bs, f, h, hb => by
    refine rows_ne o bs _ ?_ fun c hc => hb c (List.mem_cons_of_mem _ hc)
    intro e
    have := congrArg List.length e
    rw [flat_len] at this
    have h1 := (okL_len o (hb b List.mem_cons_self)).1
    have h2 : 1 ≤ f.length := List.length_pos_iff.mpr h
    have h3 : 1 * 1 ≤ f.length * (ls.getD b []).length := Nat.mul_le_mul h2 h1
    simp only [List.length_nil] at this
    omega
theorem rows_nn {net : Net} {ls : Lots} (o : okL net ls) : ∀ (bs : List Nat) (f : List (List Int)), (∀ r ∈ f, ∀ z ∈ r, 0 ≤ z) → (∀ b ∈ bs, b < ls.length) → ∀ r ∈ rowsOf ls bs f, ∀ z ∈ r, 0 ≤ z
  | [], f, h, _ => h
  | b :: bs, f, h, hb => by
    refine rows_nn o bs _ (fun r hr z hz => ?_) fun c hc => hb c (List.mem_cons_of_mem _ hc)
    obtain ⟨row, h1, h2⟩ := List.mem_flatMap.mp hr
    obtain ⟨v, hv, rfl⟩ := List.mem_map.mp h2
    rcases List.mem_append.mp hz with e | e
    · exact h row h1 z e
    · rw [List.mem_singleton.mp e]
      exact (o.nn b (hb b List.mem_cons_self) v hv).1
mutual
theorem brs_ok {n : Nat} : ∀ (r : Rl), okR n r → ∀ b ∈ brs r, b < n
  | .is v, _ => fun b hb => absurd hb (by simp [brs])
  | .hear j, h => fun b hb => by rw [List.mem_singleton.mp hb]; exact h.1
  | .node k ps, h => brss_ok ps h.2
theorem brss_ok {n : Nat} : ∀ (ps : List Rl), okRs n ps → ∀ b ∈ brss ps, b < n
  | [], _ => fun b hb => absurd hb (by simp [brss])
  | p :: ps, h => fun b hb => by
    rcases List.mem_append.mp hb with e | e
    · exact brs_ok p h.1 b e
    · exact brss_ok ps h.2 b e
end
theorem tp_ok {net : Net} {most : Int} (o : okN net most) {i : Nat} (h : i < net.1.length) : 0 ≤ tp net i ∧ tp net i ≤ most := by
  have hm : tp net i ∈ net.1 := by
    unfold tp
    rw [List.getD_eq_getElem?_getD, List.getElem?_eq_getElem h]
    exact List.getElem_mem h
  exact o.tops _ hm
/-- a net of few rows -/
structure okS (net : Net) : Prop where
  ok : okN net 60
  few : ∀ i, i < net.1.length → manyR net i ≤ 90
  brs : ∀ i, i < net.1.length → (brs (rl net i)).length ≤ 900
section
variable {net : Net} {ls : Lots} (S : okS net) (o : okL net ls)
include S
theorem okS_brs {i : Nat} (hi : i < net.1.length) : ∀ b ∈ brs (rl net i), b < net.1.length := fun b hb => by
  have hi2 : i < net.2.length := by rw [S.ok.len]; exact hi
  exact brs_ok _ (okN_rl S.ok hi2).1 b hb
include o
theorem rows_few {i : Nat} (hi : i < net.1.length) (j : Nat) : (rowsOf ls ((brs (rl net i)).take j) [[]]).length ≤ 90 := by
  have hb := okS_brs S hi
  have h1 := rows_le o ((brs (rl net i)).take j) [[]] 1 (by simp) fun b hm => by rw [o.len]; exact hb b (List.mem_of_mem_take hm)
  have h2 := fold_take (net := net) (a := 1) (bs := brs (rl net i)) j (by omega) fun b hm => (tp_ok S.ok (hb b hm)).1
  have h3 := S.few i hi
  unfold manyR at h3
  omega
theorem row_ok {i : Nat} (hi : i < net.1.length) {row : List Int} (hr : row ∈ rowsOf ls (brs (rl net i)) [[]]) : okRow net i row := by
  have hb := okS_brs S hi
  have h1 := row_len (ls := ls) (brs (rl net i)) [[]] 0 (fun r hr => by rw [List.mem_singleton.mp hr]; rfl) row hr
  refine ⟨by omega, by have := S.brs i hi; omega, rows_nn o _ [[]] (fun r hr z hz => ?_) (fun b hm => by rw [o.len]; exact hb b hm) row hr⟩
  rw [List.mem_singleton.mp hr] at hz
  exact absurd hz (by simp)
theorem want_ok {i : Nat} (hi : i < net.1.length) {row : List Int} (hr : okRow net i row) : 0 ≤ want net i row ∧ want net i row ≤ tp net i := by
  have hi2 : i < net.2.length := by rw [S.ok.len]; exact hi
  have h1 := told_nn (rl net i) row (okN_rl S.ok hi2).1 hr.nn
  have h2 := tp_ok S.ok hi
  unfold want
  omega
theorem nextL_get {i : Nat} (hi : i < net.1.length) : (nextL net ls).getD i [] = uset ((rowsOf ls (brs (rl net i)) [[]]).map (want net i)) := by
  unfold nextL
  rw [List.getD_eq_getElem?_getD, List.getElem?_map, List.getElem?_range (by rw [S.ok.len]; exact hi)]
  rfl
omit o in
omit S in
theorem nextL_len : (nextL net ls).length = net.2.length := by
  unfold nextL
  rw [List.length_map, List.length_range]
theorem next_ok : okL net (nextL net ls) := by
  have mem : ∀ l ∈ nextL net ls, ∃ i, i < net.1.length ∧ l = uset ((rowsOf ls (brs (rl net i)) [[]]).map (want net i)) := fun l hl => by
    obtain ⟨i, hi, rfl⟩ := List.mem_map.mp hl
    exact ⟨i, by rw [← S.ok.len]; exact List.mem_range.mp hi, rfl⟩
  refine ⟨by rw [nextL_len]; exact S.ok.len, fun l hl => ?_, fun l hl => ?_, fun i hi z hz => ?_⟩
  · obtain ⟨i, hi, rfl⟩ := mem l hl
    intro e
    have hne := rows_ne o (brs (rl net i)) [[]] (by simp) fun b hm => by rw [o.len]; exact okS_brs S hi b hm
    obtain ⟨r, hr⟩ := List.exists_mem_of_ne_nil _ hne
    have : want net i r ∈ uset ((rowsOf ls (brs (rl net i)) [[]]).map (want net i)) := uset_mem.mpr (List.mem_map_of_mem hr)
    rw [e] at this
    exact absurd this (by simp)
  · obtain ⟨i, hi, rfl⟩ := mem l hl
    exact uset_asc _
  · rw [nextL_len, S.ok.len] at hi
    rw [nextL_get S o hi] at hz
    obtain ⟨r, hr, rfl⟩ := List.mem_map.mp (uset_mem.mp hz)
    exact want_ok S o hi (row_ok S o hi hr)
end
theorem upto_mem {t z : Int} (h : 0 ≤ t) : z ∈ upto t ↔ 0 ≤ z ∧ z ≤ t := by
  unfold upto
  rw [List.mem_map]
  constructor
  · rintro ⟨k, hk, rfl⟩
    have := List.mem_range.mp hk
    omega
  · rintro ⟨h0, h1⟩
    exact ⟨z.toNat, List.mem_range.mpr (by omega), by omega⟩
theorem upto_asc (t : Int) : (upto t).Pairwise (· < ·) := by
  unfold upto
  rw [List.pairwise_map]
  exact (List.pairwise_lt_range).imp fun h => by omega
theorem first_get {net : Net} {i : Nat} (h : i < net.1.length) : (firstL net).getD i [] = upto (tp net i) := by
  unfold firstL tp
  rw [List.getD_eq_getElem?_getD, List.getElem?_map, List.getD_eq_getElem?_getD, List.getElem?_eq_getElem h]
  rfl
theorem first_ok {net : Net} {most : Int} (o : okN net most) : okL net (firstL net) := by
  refine ⟨List.length_map _, fun l hl => ?_, fun l hl => ?_, fun i hi z hz => ?_⟩
  · obtain ⟨t, ht, rfl⟩ := List.mem_map.mp hl
    have h0 := (o.tops t ht).1
    intro e
    have : (0 : Int) ∈ upto t := (upto_mem h0).mpr ⟨Int.le_refl 0, h0⟩
    rw [e] at this
    exact absurd this (by simp)
  · obtain ⟨t, ht, rfl⟩ := List.mem_map.mp hl
    exact upto_asc t
  · have hi2 : i < net.1.length := by
      have e : (firstL net).length = net.1.length := List.length_map _
      rw [e] at hi
      exact hi
    rw [first_get hi2] at hz
    exact (upto_mem (tp_ok o hi2).1).mp hz
theorem it_ok {net : Net} (S : okS net) : ∀ m, okL net (itL net m)
  | 0 => first_ok S.ok
  | m + 1 => next_ok S (it_ok S m)
theorem lot_nice {l : List Int} (h : l.length ≤ 40) (hz : ∀ z ∈ l, 0 ≤ z ∧ z < 64) : Nice 1 (encT l) := nice_tup (by rw [Ls_len]; exact h) fun x hx => by
  obtain ⟨z, hm, rfl⟩ := List.mem_map.mp hx
  exact hz z hm
/-- a net whose lots can be shown -/
structure okT (net : Net) : Prop where
  s : okS net
  tops : ∀ t ∈ net.1, t ≤ 30
theorem lots_nice {net : Net} (T : okT net) {ls : Lots} (o : okL net ls) : Nice 2 (encLs ls) := nice_tup (by rw [List.length_map, o.len]; have := T.s.ok.few; omega) fun x hx => by
  obtain ⟨l, hl, rfl⟩ := List.mem_map.mp hx
  obtain ⟨i, hi⟩ := List.mem_iff_getElem?.mp hl
  have hlt : i < ls.length := (List.getElem?_eq_some_iff.mp hi).1
  have e : ls.getD i [] = l := by rw [List.getD_eq_getElem?_getD, hi]; rfl
  have h1 := okL_len o hlt
  have h2 := o.nn i hlt
  rw [e] at h1 h2
  have ht : tp net i ≤ 30 := by
    have hi2 : i < net.1.length := by rw [← o.len]; exact hlt
    have hm : tp net i ∈ net.1 := by
      unfold tp
      rw [List.getD_eq_getElem?_getD, List.getElem?_eq_getElem hi2]
      exact List.getElem_mem hi2
    exact T.tops _ hm
  exact lot_nice (by omega) fun z hz => by have := h2 z hz; omega
end K24

set_option Elab.async false
set_option linter.all false
set_option maxRecDepth 100000
/-! K24R5: rounds of lots; what refuses. -/
namespace K24
open PySem PySem.Spec L2
def unT : PD → List Int
  | .tuple l => l.map fun d => match d with | .int i => i | _ => 0
  | _ => []
theorem unT_enc (l : List Int) : unT (encT l) = l := by
  show ((l.map PyData.int).map fun d => match d with | .int i => i | _ => 0) = l
  rw [List.map_map]
  exact List.map_id' l
theorem setD_get {Γ : List Sl} {i : Nat} {x : Sl} (h : i < Γ.length) : (Γ.set i x)[i]? = some x := List.getElem?_set_self h
/-- what one house's round comes to -/
theorem sorted_lot {W : Wd} {Γ : List Sl} {K : PySem.W.Frag} {w : World} {te : TE} {net : Net} {ls : Lots} (S : okS net) (o : okL net ls) {i : Nat} (hi : i < net.1.length)
    (h : DV W te Γ (.list (Ls ((rowsOf ls (brs (rl net i)) [[]]).map (want net i))))) : DV W (tCB (rTupQ K) (tCons (tCB (rSortSet w) (tCons (tCB (rSetI K w) (tCons te tNil)) tNil)) tNil)) Γ (encT ((nextL net ls).getD i [])) := by
  rw [nextL_get S o hi]
  have hf := rows_few S o hi (brs (rl net i)).length
  rw [List.take_length] at hf
  refine dv_cb (dav_cons (dv_sortset h (by rw [List.length_map]; omega) ?_) da_nil) rc_tupL
  have h2 := tp_ok S.ok hi
  have := asc_len (lo := 0) (t := tp net i) (uset_asc ((rowsOf ls (brs (rl net i)) [[]]).map (want net i))) fun z hz => by
    obtain ⟨r, hr, rfl⟩ := List.mem_map.mp (uset_mem.mp hz)
    exact want_ok S o hi (row_ok S o hi hr)
  omega
/-! ### check_few -/
def t_check_few (K : PySem.W.Frag) (w : World) (C : Addr) (E : XK) (q_branches sI : Sp) : TS :=
  tFor (iTup K (tOp (rIxT K) (tVar 0) (tC (.int 1)))) (gName 1) (tSeq (tAsg (tC (.int 1)) (gName 2)) (tSeq (tFor (iTup K (tCall q_branches [] E0 (tCons (tVar 1) tNil))) (gName 3) (tAsg (tOp qMul (tVar 2) (tOp qAdd (tOp (rIxT K) (tOp (rIxT K) (tVar 0) (tC (.int 0))) (tVar 3)) (tC (.int 1)))) (gName 2)))
    (tIfS (tTest (tOp qGt (tVar 2) (tC (.int 4096)))) (fun _ σ H => tMkO C sI [] (tCons (tVar 2) tNil) σ H fun cls d H' => E cls d H') tNext)))
def spI (C : Addr) : Sp := fun vs H Q _ => ∃ (a : Addr) (n : Int), vs = [.ref a, .int n] ∧ H a = some (exo a C none) ∧ ∀ dx, H dx = none → dx ≠ a → Q .non (upd (upd H dx (exd dx [(("at" : Str), .int n)])) a (exo a C (some dx)))
/-- a net of defs' own size -/
structure okB (net : Net) : Prop where
  ok : okN net 60
  brs : ∀ i, i < net.1.length → (brs (rl net i)).length ≤ 900
theorem ds_refuse {K : PySem.W.Frag} {G0 H0 : Hp} {Γ : List Sl} {C : Addr} {E : XK} {i : Nat} {n : Int} {N : List Sl → Prop} {R : PD → Prop} {B C' : List Sl → Prop} (hi : Γ[i]? = some (Sl.d (.int n))) (x : XT C n H0 E) :
    DS (W0 K G0 H0) (fun _ σ H => tMkO C (spI C) [] (tCons (tVar i) tNil) σ H fun cls d H' => E cls d H') Γ N R B C' := fun σ G H D s _ _ _ _ => dav_cons (dv_var hi) da_nil σ G H s _ fun vs G1 H1 ys s1 f1 p hv => by
  cases p
  cases hv with
  | cons a rr =>
    cases rr
    cases a
    refine ⟨Nat.le_of_ble_eq_true rfl, fun a ha => ⟨a, n, rfl, upd_same, fun dx hdx ne => ?_⟩⟩
    rw [upd_ne ne] at hdx
    refine ⟨rfl, dx, [(("at" : Str), .int n)], upd_same, ?_, hdx, x dx _ (fun b o e => ?_) upd_same⟩
    · rw [upd_ne ne, upd_same]
    · have e1 := s1.fw.all b o e
      have n1 : b ≠ a := ne_of_none e1 ha
      have n2 : b ≠ dx := ne_of_none e1 hdx
      rw [upd_ne n2, del_ne n1, upd_ne n1, upd_ne n2, upd_ne n1]
      exact e1
theorem fold_brs {net : Net} {i : Nat} {bs : List Nat} {b : Nat} (h : bs[i]? = some b) (a : Int) : (bs.take (i + 1)).foldl (fun a b => a * (tp net b + 1)) a = (bs.take i).foldl (fun a b => a * (tp net b + 1)) a * (tp net b + 1) := by
  rw [List.take_add_one, h, List.foldl_append]
  rfl
theorem check_row {K : PySem.W.Frag} {G0 H0 : Hp} {C : Addr} {E : XK} {net : Net} (B : okB net) {i : Nat} (hi : i < net.1.length) (a b : Sl) {N Bk : List Sl → Prop} {R : PD → Prop} {w : World}
    (k : manyR net i ≤ 4096 → ∀ c, N [Sl.d (encN net), .d (enc (rl net i)), .d (.int (manyR net i)), c]) (x : manyR net i > 4096 → XT C (manyR net i) H0 E) :
    DS (W0 K G0 H0) (tSeq (tAsg (tC (.int 1)) (gName 2)) (tSeq (tFor (iTup K (tCall (spF (q_branches 4)) [] E0 (tCons (tVar 1) tNil))) (gName 3) (tAsg (tOp qMul (tVar 2) (tOp qAdd (tOp (rIxT K) (tOp (rIxT K) (tVar 0) (tC (.int 0))) (tVar 3)) (tC (.int 1)))) (gName 2)))
    (tIfS (tTest (tOp qGt (tVar 2) (tC (.int 4096)))) (fun _ σ H => tMkO C (spI C) [] (tCons (tVar 2) tNil) σ H fun cls d H' => E cls d H') tNext))) [Sl.d (encN net), .d (enc (rl net i)), a, b] N R Bk N := by
  have hi2 : i < net.2.length := by rw [B.ok.len]; exact hi
  obtain ⟨r1, r2⟩ := okN_rl B.ok hi2
  have hb := brs_ok _ r1
  refine ds_seq (ds_asg (P := fun z => z = .int 1) dv_int fun z e => ?_)
  subst e
  refine ds_seq (ds_forv (div_t (dv_call (x := .tuple (Ns (brs (rl net i)))) (dav_cons (dv_var rfl) da_nil) ⟨_, rl net i, r1, r2, by have := B.brs i hi; omega, rfl, rfl⟩)) (fun j Γ => ∃ c, Γ = [Sl.d (encN net), .d (enc (rl net i)), .d (.int (((brs (rl net i)).take j).foldl (fun a b => a * (tp net b + 1)) 1)), c]) ⟨_, rfl⟩ ?_ ?_)
  · rintro j y Γ' hy ⟨c, rfl⟩
    unfold Ns at hy
    rw [List.getElem?_map] at hy
    cases ho : (brs (rl net i))[j]? with
    | none => rw [ho] at hy; cases hy
    | some o =>
      rw [ho] at hy
      cases hy
      have hob := hb o (List.mem_of_getElem? ho)
      have ht := tp_ok B.ok hob
      refine dg_name (ds_asg (P := fun z => z = _) (dv_op (dv_var rfl) (dv_op (dv_top (dv_var rfl) (dv_var rfl) hob) dv_int rd_add) (rd_mul (.inr ⟨by omega, by omega⟩))) fun z e => ?_)
      subst e
      refine ⟨.d (.int (o : Int)), ?_⟩
      rw [fold_brs ho]
      rfl
  · rintro Γ' ⟨c, rfl⟩
    rw [Ns_len, List.take_length]
    show DS _ _ [Sl.d (encN net), .d (enc (rl net i)), .d (.int (manyR net i)), c] N R Bk N
    refine ds_if (dt_test (dv_op (dv_var rfl) dv_int rd_gt)) (fun e => ds_refuse (i := 2) rfl (x (of_decide_eq_true e))) (fun e => ds_next (k (by have := of_decide_eq_false e; omega) c))
def few (net : Net) : Prop := ∀ i, i < net.1.length → manyR net i ≤ 4096
/-- a net that is refused, with what -/
def great (net : Net) (n : Int) : Prop := okB net ∧ ∃ i, i < net.1.length ∧ (∀ j, j < i → manyR net j ≤ 4096) ∧ manyR net i = n ∧ n > 4096
def q_check_few (ds : List PD) (d : PD) : Prop := ∃ net : Net, okB net ∧ few net ∧ ds = [encN net] ∧ d = .none
def b_check_few (ds : List PD) (n : Int) : Prop := ∃ net : Net, great net n ∧ ds = [encN net]
theorem r_check_few {K : PySem.W.Frag} {w : World} {C : Addr} {E : XK} {Q : VK} {vs : List V} {H : Hp} (h : spX C q_check_few b_check_few vs H Q E) :
    t_check_few K w C E (spF (q_branches 4)) (spI C) { nx := fun _ H' => Q .non H', rt := Q } (L2.start ["net", "rule", "many", "one"] vs) H := by
  have key : ∀ (net : Net) (G : Hp) (i0 : Nat), okB net → Same G H → i0 ≤ net.1.length → (∀ j, j < i0 → manyR net j ≤ 4096) → (i0 < net.1.length → manyR net i0 > 4096 ∧ XT C (manyR net i0) H E) →
      DS (W0 K G H) (t_check_few K w C E (spF (q_branches 4)) (spI C)) [Sl.d (encN net), .no, .no, .no] (fun _ => i0 = net.1.length) (fun _ => False) No No := by
    intro net G i0 B sm hle hs hx
    unfold t_check_few
    refine ds_forv (div_t (dv_at (dv_var rfl) at1)) (fun j Γ => j ≤ i0 ∧ ∃ a b c, Γ = [Sl.d (encN net), a, b, c]) ⟨Nat.zero_le _, _, _, _, rfl⟩ ?_ ?_
    · rintro j y Γ' hy ⟨hj, a, b, c, rfl⟩
      obtain ⟨p, hp, rfl⟩ := encs_get hy
      have hj2 : j < net.2.length := (List.getElem?_eq_some_iff.mp hp).1
      have hj1 : j < net.1.length := by rw [← B.ok.len]; exact hj2
      have e : rl net j = p := by
        unfold rl
        rw [List.getD_eq_getElem?_getD, hp]
        rfl
      subst e
      refine dg_name (check_row (w := w) B hj1 b c (fun hm c2 => ?_) (fun hm => ?_))
      · refine ⟨?_, _, _, _, rfl⟩
        by_cases q : j = i0
        · subst q
          have := (hx hj1).1
          omega
        · omega
      · by_cases q : j = i0
        · subst q
          exact (hx hj1).2
        · have := hs j (by omega)
          omega
    · rintro Γ' ⟨hj, _⟩
      rw [encs_len, B.ok.len] at hj
      omega
  rcases h with ⟨ds, G, d, hv, s, ⟨net, B, fw, rfl, rfl⟩, q⟩ | ⟨ds, G, n, hv, s, ⟨net, ⟨B, i, hi, hs, hm, hn⟩, rfl⟩, x⟩
  · have e : L2.start ["net", "rule", "many", "one"] vs = vs.map some ++ List.replicate 3 none := by
      unfold L2.start
      rw [hv.length]
      rfl
    rw [e]
    refine key net G net.1.length B s (Nat.le_refl _) fw (fun z => absurd z (Nat.lt_irrefl _)) _ G H _ (sr0 s hv 3) (fun σ' G' H' Γ' s' g' _ => ?_) (fun _ _ _ _ _ _ z => z.elim) (fun _ _ _ _ _ _ z => z.elim) (fun _ _ _ _ _ _ z => z.elim)
    exact q .non G' H' s'.fw .non
  · have e : L2.start ["net", "rule", "many", "one"] vs = vs.map some ++ List.replicate 3 none := by
      unfold L2.start
      rw [hv.length]
      rfl
    rw [e]
    refine key net G i B s (Nat.le_of_lt hi) hs (fun _ => ⟨by rw [hm]; exact hn, by rw [hm]; exact x⟩) _ G H _ (sr0 s hv 3) (fun σ' G' H' Γ' s' g' z => ?_) (fun _ _ _ _ _ _ z => z.elim) (fun _ _ _ _ _ _ z => z.elim) (fun _ _ _ _ _ _ z => z.elim)
    exact absurd hi (by rw [z]; exact Nat.lt_irrefl _)
/-! ### lots_next -/
theorem okS_B {net : Net} (S : okS net) : okB net := ⟨S.ok, S.brs⟩
theorem okS_few {net : Net} (S : okS net) : few net := fun i hi => by have := S.few i hi; omega
def q_lots_next (ds : List PD) (d : PD) : Prop := ∃ (net : Net) (ls : Lots), okS net ∧ okL net ls ∧ ds = [encN net, encLs ls] ∧ d = encLs (nextL net ls)
def b_lots_next (ds : List PD) (n : Int) : Prop := ∃ (net : Net) (x : PD), great net n ∧ ds = [encN net, x]
theorem take_get {ls : Lots} {i : Nat} (h : i < ls.length) : ls.take (i + 1) = ls.take i ++ [ls.getD i []] := by
  rw [List.take_add_one, List.getElem?_eq_getElem h, List.getD_eq_getElem?_getD, List.getElem?_eq_getElem h]
  rfl
theorem r_lots_next {K : PySem.W.Frag} {w : World} {C : Addr} {E : XK} (G H : Hp) (ds : List PD) (d : PD) (h : q_lots_next ds d) : DS (W0 K G H) (t_lots_next K w E (spX C q_check_few b_check_few) (spF q_wanted) (spF q_rows_from) (spF (q_branches 4))) (ds.map Sl.d ++ List.replicate (n_lots_next.length - p_lots_next.length) Sl.no) No (fun z => z = d) No No := by
  obtain ⟨net, ls, S, o, rfl, rfl⟩ := h
  unfold t_lots_next
  refine ds_seq (ds_drop (P := fun z => z = .none) (dv_callX (dav_cons (dv_var rfl) da_nil) ⟨net, okS_B S, okS_few S, rfl, rfl⟩) ?_)
  refine ds_seq (ds_own0 ?_)
  refine ds_seq (ds_forv (div_en (dv_at (dv_var rfl) at1)) (fun i Γ => ∃ a b c, Γ = [Sl.d (encN net), .d (encLs ls), .l (((nextL net ls).take i).map encT), a, b, c]) ⟨_, _, _, rfl⟩ ?_ ?_)
  · rintro i x Γ' hx ⟨a, b, c, rfl⟩
    obtain ⟨y, hy, rfl⟩ := enumD_get hx
    obtain ⟨p, hp, rfl⟩ := encs_get hy
    have hi2 : i < net.2.length := (List.getElem?_eq_some_iff.mp hp).1
    have hi : i < net.1.length := by rw [← S.ok.len]; exact hi2
    have e : rl net i = p := by
      unfold rl
      rw [List.getD_eq_getElem?_getD, hp]
      rfl
    subst e
    obtain ⟨r1, r2⟩ := okN_rl S.ok hi2
    have hbr := S.brs i hi
    refine dg_tup2 (ds_append (i := 2) (P := fun z => z = encT ((nextL net ls).getD i [])) rfl (sorted_lot S o hi ?_) ?_ fun z e => ?_)
    · have m := dv_map (W := W0 K G H) (Γ := [Sl.d (encN net), .d (encLs ls), .l (((nextL net ls).take i).map encT), .d (.int (i : Int)), .d (enc (rl net i)), c]) (vs := [5]) (j := 5) (xs := (rowsOf ls (brs (rl net i)) [[]]).map encT) (f := fun d => .int (want net i (unT d)))
        (te := tCall (spF q_wanted) [] E0 (tCons (tVar 0) (tCons (tVar 3) (tCons (tVar 5) tNil)))) (div_l (K := K) (te := tCall (spF q_rows_from) [] E0 (tCons (tVar 1) (tCons (tCall (spF (q_branches 4)) [] E0 (tCons (tVar 4) tNil)) tNil))) (dv_call (dav_cons (dv_var rfl) (dav_cons (dv_call (x := .tuple (Ns (brs (rl net i)))) (dav_cons (dv_var rfl) da_nil) ⟨_, rl net i, r1, r2, by omega, rfl, rfl⟩) da_nil)) ⟨ls, brs (rl net i), fun b hb => by rw [o.len]; exact okS_brs S hi b hb, fun j _ => by have := rows_few S o hi j; omega, hbr, rfl, rfl⟩))
        (by rw [List.length_map]; have := rows_few S o hi (brs (rl net i)).length; rw [List.take_length] at this; omega) (by simp) (fun j y hy => by
          obtain ⟨row, hr, rfl⟩ := List.mem_map.mp (List.mem_of_getElem? hy)
          rw [unT_enc]
          exact dv_call (dav_cons (dv_var rfl) (dav_cons (dv_var rfl) (dav_cons (dv_var rfl) da_nil))) ⟨net, 60, i, row, S.ok, hi, row_ok S o hi hr, rfl, rfl⟩)
      refine DV.to m ?_
      unfold Ls
      rw [List.map_map, List.map_map]
      congr 1
      apply List.map_congr_left
      intro row _
      show PyData.int (want net i (unT (encT row))) = _
      rw [unT_enc]
      rfl
    · rw [List.length_map, List.length_take]
      have := S.ok.few
      omega
    · subst e
      refine ⟨.d (.int (i : Int)), .d (enc (rl net i)), c, ?_⟩
      rw [take_get (by rw [nextL_len]; exact hi2), List.map_append]
      rfl
  · rintro Γ' ⟨a, b, c, rfl⟩
    have e : (enumD (encs net.2)).length = (nextL net ls).length := by rw [enumD_len, encs_len, nextL_len]
    rw [e, List.take_length]
    exact ds_freeze 2 rfl (ds_rv (dv_cb (dav_cons (dv_var rfl) da_nil) rc_tupL))
theorem x_lots_next {K : PySem.W.Frag} {w : World} {C : Addr} {E : XK} (G H : Hp) (ds : List PD) (n : Int) (h : b_lots_next ds n) (x : XT C n H E) : DXs (W0 K G H) (t_lots_next K w E (spX C q_check_few b_check_few) (spF q_wanted) (spF q_rows_from) (spF (q_branches 4))) (ds.map Sl.d ++ List.replicate (n_lots_next.length - p_lots_next.length) Sl.no) := by
  obtain ⟨net, y, g, rfl⟩ := h
  exact dx_seq (dx_drop (dx_call (dav_cons (dv_var rfl) da_nil) ⟨net, g, rfl⟩ x))
/-! ### lot_rounds -/
def rounds (net : Net) (m : Nat) : List PD := (List.range (m + 1)).map fun i => encLs (itL net i)
theorem rounds_len (net : Net) (m : Nat) : (rounds net m).length = m + 1 := by
  unfold rounds
  rw [List.length_map, List.length_range]
theorem rounds_succ (net : Net) (m : Nat) : rounds net (m + 1) = rounds net m ++ [encLs (itL net (m + 1))] := by
  unfold rounds
  rw [List.range_succ, List.map_append]
  rfl
theorem rounds_last (net : Net) (m : Nat) : atI (rounds net m) (-1) = some (encLs (itL net m)) := by
  cases m with
  | zero => exact atL (l := [])
  | succ m =>
    rw [rounds_succ]
    exact atL
def q_lot_rounds (ds : List PD) (d : PD) : Prop := ∃ (net : Net) (m : Nat), okT net ∧ Stop net m ∧ m ≤ 1000 ∧ ds = [encN net] ∧ d = .tuple (rounds net m)
def b_net (ds : List PD) (n : Int) : Prop := ∃ net : Net, great net n ∧ ds = [encN net]
theorem r_lot_rounds {K : PySem.W.Frag} {w : World} {C : Addr} {E : XK} (G H : Hp) (ds : List PD) (d : PD) (h : q_lot_rounds ds d) : DS (W0 K G H) (t_lot_rounds K w E (spX C q_lots_next b_lots_next) (spF q_first_lots)) (ds.map Sl.d ++ List.replicate (n_lot_rounds.length - p_lot_rounds.length) Sl.no) No (fun z => z = d) No No := by
  obtain ⟨net, m, T, st, hm, rfl, rfl⟩ := h
  have S := T.s
  have shp : ∀ j, SeqAt.shaped (encLs (itL net j)) = true := fun j => nice_shaped (lots_nice T (it_ok S j)) (by decide)
  have lastv : ∀ (Γ : List Sl) (j : Nat), Γ[1]? = some (Sl.l (rounds net j)) → DV (W0 K G H) (tOp (rIxL K) (tVar 1) (tUn (rU fun i => .int (-i)) (tC (.int 1)))) Γ (encLs (itL net j)) := fun Γ j e => dv_ixOwn e (dv_un dv_int ru_neg) (rounds_last net j)
  unfold t_lot_rounds
  refine ds_seq (ds_own1 (P := fun z => z = encLs (firstL net)) (dv_call (dav_cons (dv_var rfl) da_nil) ⟨net, 60, S.ok, rfl, rfl⟩) fun z e => ?_)
  subst e
  refine ds_seq (ds_asg (P := fun z => z = encLs (itL net 1)) (dv_callX (dav_cons (dv_var rfl) (dav_cons (lastv _ 0 rfl) da_nil)) ⟨net, itL net 0, S, it_ok S 0, rfl, rfl⟩) fun z e => ?_)
  subst e
  refine ds_seq (ds_while (fun k Γ => ∃ j, k = m - j ∧ j ≤ m ∧ Γ = [Sl.d (encN net), .l (rounds net j), .d (encLs (itL net (j + 1)))]) m ⟨0, rfl, Nat.zero_le _, rfl⟩ ?_)
  rintro k Γ' ⟨j, rfl, hj, rfl⟩
  refine (dt_test (DV.to (dv_op (dv_var rfl) (lastv _ j rfl) (rd_neD (shp _) (shp _))) (by rw [eqv_encLs]))).imp fun b e => ?_
  subst e
  by_cases q : itL net (j + 1) = itL net j
  · rw [decide_eq_true q]
    rw [if_neg (by simp)]
    have ej : j = m := by
      by_cases e : j = m
      · exact e
      · exact absurd q (st.2 j (by omega))
    subst ej
    exact ds_freeze 1 rfl (ds_rv (dv_cb (dav_cons (dv_var rfl) da_nil) rc_tupL))
  · rw [decide_eq_false q]
    rw [if_pos (by rfl)]
    have hlt : j < m := by
      by_cases e : j = m
      · subst e
        exact absurd st.1 q
      · omega
    refine ds_seq (ds_append (i := 1) (P := fun z => z = encLs (itL net (j + 1))) rfl (dv_var rfl) (by rw [rounds_len]; omega) fun z e => ?_)
    subst e
    refine ds_asg (P := fun z => z = encLs (itL net (j + 1 + 1))) (dv_callX (dav_cons (dv_var rfl) (dav_cons (dv_var rfl) da_nil)) ⟨net, itL net (j + 1), S, it_ok S _, rfl, rfl⟩) fun z e => ?_
    subst e
    refine ⟨m - (j + 1), by omega, j + 1, rfl, hlt, ?_⟩
    rw [rounds_succ]
    rfl
theorem x_lot_rounds {K : PySem.W.Frag} {w : World} {C : Addr} {E : XK} (G H : Hp) (ds : List PD) (n : Int) (h : b_net ds n) (x : XT C n H E) : DXs (W0 K G H) (t_lot_rounds K w E (spX C q_lots_next b_lots_next) (spF q_first_lots)) (ds.map Sl.d ++ List.replicate (n_lot_rounds.length - p_lot_rounds.length) Sl.no) := by
  obtain ⟨net, g, rfl⟩ := h
  refine dx_then (N := fun Γ => Γ = [Sl.d (encN net), .l [encLs (firstL net)], .no]) (ds_own1 (P := fun z => z = encLs (firstL net)) (dv_call (dav_cons (dv_var rfl) da_nil) ⟨net, 60, g.1.ok, rfl, rfl⟩) fun z e => by subst e; rfl) fun Γ e => ?_
  subst e
  exact dx_seq (dx_asg (dx_call (ds := [encN net, encLs (firstL net)]) (dav_cons (dv_var rfl) (dav_cons (dv_ixOwn (xs := [encLs (firstL net)]) rfl (dv_un dv_int ru_neg) (atL (l := []))) da_nil)) ⟨net, _, g, rfl⟩ x))
end K24

set_option Elab.async false
set_option linter.all false
set_option maxRecDepth 100000
/-! K24R6: the last lots, the known rounds, what is sure; the law's own tellers. -/
namespace K24
open PySem PySem.Spec L2
section
variable {W : Wd} {Γ : List Sl} {wi : TI} {g : TG} {tt : TT} {te : TE} {vs : List Nat}
/-- [f for .. if c] over n things told by their number -/
theorem dv_filtR {n : Nat} {X : Nat → PD} {Γx : Nat → List Sl} {c : Nat → Bool} {f : Nat → PD} (h : DI W wi Γ (fun ys => ys = (List.range n).map X)) (hz : n < 100000) (hg : ∀ i, i < n → ∀ N : List Sl → Prop, N (Γx i) → DGw g W vs Γ (X i) N)
    (ht : ∀ i, i < n → DTv W tt (Γx i) (c i)) (he : ∀ i, i < n → c i = true → DV W te (Γx i) (f i)) : DV W (tLc wi g tt te vs) Γ (.list (((List.range n).filter c).map f)) :=
  de_lc h fun ys e => by
    subst e
    refine ⟨by rw [List.length_map, List.length_range]; exact hz, fun i acc => acc = ((List.range i).filter c).map f, rfl, fun i x acc hx ha _ => ?_, fun acc ha => by rw [ha, List.length_map, List.length_range]⟩
    have hi : i < n := by
      have := (List.getElem?_eq_some_iff.mp hx).1
      rwa [List.length_map, List.length_range] at this
    rw [List.getElem?_map, List.getElem?_range hi] at hx
    cases hx
    refine hg i hi _ ((ht i hi).imp fun b hb => ?_)
    subst hb
    cases hc : c i with
    | true =>
      rw [if_pos rfl]
      refine (he i hi hc).imp fun d hd => ?_
      subst hd
      rw [ha, List.range_succ, List.filter_append, List.map_append]
      simp [hc]
    | false =>
      rw [if_neg Bool.false_ne_true]
      show acc = ((List.range (i + 1)).filter c).map f
      rw [ha, List.range_succ, List.filter_append]
      simp [hc]
end
theorem rng0 (n : Nat) : rng 0 n = (List.range n).map fun k : Nat => PyData.int (k : Int) := by
  unfold rng
  apply List.map_congr_left
  intro k _
  show PyData.int (0 + (k : Int)) = _
  rw [Int.zero_add]
theorem enum_rounds (net : Net) (m : Nat) : enumD (rounds net m) = (List.range (m + 1)).map fun j : Nat => PyData.tuple [.int (j : Int), encLs (itL net j)] := by
  apply List.ext_getElem?
  intro i
  by_cases hi : i < m + 1
  · rw [List.getElem?_map, List.getElem?_range hi]
    unfold enumD rounds
    rw [List.getElem?_map, List.getElem?_zipIdx, List.getElem?_map, List.getElem?_range hi]
    simp
  · rw [List.getElem?_eq_none (by rw [enumD_len, rounds_len]; omega), List.getElem?_eq_none (by rw [List.length_map, List.length_range]; omega)]
/-- house i's lot is one worth at round j -/
def oneAt (net : Net) (i j : Nat) : Bool := decide (((itL net j).getD i []).length = 1)
def knownAt (net : Net) (m i : Nat) : Option Int := ((List.range (m + 1)).filter (oneAt net i)).head?.map fun j : Nat => (j : Int)
def knowns (net : Net) (m : Nat) : List (Option Int) := (List.range net.1.length).map (knownAt net m)
def q_last_lots (ds : List PD) (d : PD) : Prop := ∃ (net : Net) (m : Nat), okT net ∧ Stop net m ∧ m ≤ 1000 ∧ ds = [encN net] ∧ d = encLs (itL net m)
theorem r_last_lots {K : PySem.W.Frag} {w : World} {C : Addr} {E : XK} (G H : Hp) (ds : List PD) (d : PD) (h : q_last_lots ds d) : DS (W0 K G H) (t_last_lots K w E (spX C q_lot_rounds b_net)) (ds.map Sl.d ++ List.replicate (n_last_lots.length - p_last_lots.length) Sl.no) No (fun z => z = d) No No := by
  obtain ⟨net, m, T, st, hm, rfl, rfl⟩ := h
  exact ds_rv (dv_last (dv_callX (dav_cons (dv_var rfl) da_nil) ⟨net, m, T, st, hm, rfl, rfl⟩) (rounds_last net m))
theorem x_last_lots {K : PySem.W.Frag} {w : World} {C : Addr} {E : XK} (G H : Hp) (ds : List PD) (n : Int) (h : b_net ds n) (x : XT C n H E) : DXs (W0 K G H) (t_last_lots K w E (spX C q_lot_rounds b_net)) (ds.map Sl.d ++ List.replicate (n_last_lots.length - p_last_lots.length) Sl.no) := by
  obtain ⟨net, g, rfl⟩ := h
  exact dx_ret (dx_op1 (dx_call (dav_cons (dv_var rfl) da_nil) ⟨net, g, rfl⟩ x))
theorem dv_len1 {W : Wd} {Γ : List Sl} {K : PySem.W.Frag} {te : TE} {l : List Int} (h : DV W te Γ (encT l)) : DV W (tOp rEq (tCB (rLenQ K) (tCons te tNil)) (tC (.int 1))) Γ (.bool (decide (l.length = 1))) := DV.to (dv_op (dv_lenT h) dv_int rd_eqI) (by
  rw [Ls_len]
  congr 1
  by_cases q : l.length = 1
  · rw [decide_eq_true q, decide_eq_true (by omega)]
  · rw [decide_eq_false q, decide_eq_false (by omega)])
def sure (ls : Lots) : Bool := ls.all fun l => decide (l.length = 1)
def q_is_sure (ds : List PD) (d : PD) : Prop := ∃ (net : Net) (m : Nat), okT net ∧ Stop net m ∧ m ≤ 1000 ∧ ds = [encN net] ∧ d = .bool (sure (itL net m))
theorem r_is_sure {K : PySem.W.Frag} {w : World} {C : Addr} {E : XK} (G H : Hp) (ds : List PD) (d : PD) (h : q_is_sure ds d) : DS (W0 K G H) (t_is_sure K w E (spX C q_last_lots b_net)) (ds.map Sl.d ++ List.replicate (n_is_sure.length - p_is_sure.length) Sl.no) No (fun z => z = d) No No := by
  obtain ⟨net, m, T, st, hm, rfl, rfl⟩ := h
  have o := it_ok T.s m
  have hf := T.s.ok.few
  have a := dv_map (W := W0 K G H) (Γ := [Sl.d (encN net), .no]) (vs := [1]) (j := 1) (xs := (itL net m).map encT) (f := fun d => .bool (decide ((unT d).length = 1))) (te := tOp rEq (tCB (rLenQ K) (tCons (tVar 1) tNil)) (tC (.int 1)))
    (div_t (K := K) (te := tCall (spX C q_last_lots b_net) [] E (tCons (tVar 0) tNil)) (dv_callX (dav_cons (dv_var rfl) da_nil) ⟨net, m, T, st, hm, rfl, rfl⟩)) (by rw [List.length_map, o.len]; omega) (by simp) (fun i y hy => by
      obtain ⟨l, hl, rfl⟩ := List.mem_map.mp (List.mem_of_getElem? hy)
      rw [unT_enc]
      exact dv_len1 (dv_var rfl))
  have e : ((itL net m).map encT).map (fun d => PyData.bool (decide ((unT d).length = 1))) = ((itL net m).map fun l => decide (l.length = 1)).map PyData.bool := by
    rw [List.map_map, List.map_map]
    apply List.map_congr_left
    intro l _
    show PyData.bool (decide ((unT (encT l)).length = 1)) = _
    rw [unT_enc]
    rfl
  rw [e] at a
  refine ds_rv (DV.to (dv_cb (dav_cons a da_nil) rc_all) ?_)
  unfold sure
  rw [List.all_map]
  rfl
theorem x_is_sure {K : PySem.W.Frag} {w : World} {C : Addr} {E : XK} (G H : Hp) (ds : List PD) (n : Int) (h : b_net ds n) (x : XT C n H E) : DXs (W0 K G H) (t_is_sure K w E (spX C q_last_lots b_net)) (ds.map Sl.d ++ List.replicate (n_is_sure.length - p_is_sure.length) Sl.no) := by
  obtain ⟨net, g, rfl⟩ := h
  exact dx_ret fun σ G H s Q => dx_call (dav_cons (dv_var rfl) da_nil) ⟨net, g, rfl⟩ x σ G H s _
def q_known_rounds (ds : List PD) (d : PD) : Prop := ∃ (net : Net) (m : Nat), okT net ∧ Stop net m ∧ m ≤ 1000 ∧ ds = [encN net] ∧ d = .tuple ((knowns net m).map optD)
theorem dv_headIf {W : Wd} {Γ : List Sl} {K : PySem.W.Frag} {tv : TE} {l : List Nat} (h : DV W tv Γ (.list (l.map fun j : Nat => PyData.int (j : Int)))) : DV W (tIf (tTest (tOp qGt (tCB (rLenQ K) (tCons tv tNil)) (tC (.int 0)))) (tOp (rIxL K) tv (tC (.int 0))) (tC .non)) Γ (optD (l.head?.map fun j : Nat => (j : Int))) := by
  cases l with
  | nil => exact de_if (b := false) (DTv.to (dt_test (dv_op (dv_lenL h) dv_int rd_gt)) (by decide)) (fun z => nomatch z) fun _ => dv_non
  | cons a l => exact de_if (b := true) (DTv.to (dt_test (dv_op (dv_lenL h) dv_int rd_gt)) (by
      rw [List.map_cons, List.length_cons]
      exact decide_eq_true (by omega))) (fun _ => dv_atL h at0) fun z => nomatch z
theorem knowns_len (net : Net) (m : Nat) : (knowns net m).length = net.1.length := by
  unfold knowns
  rw [List.length_map, List.length_range]
theorem knowns_take (net : Net) (m i : Nat) (h : i < net.1.length) : (knowns net m).take (i + 1) = (knowns net m).take i ++ [knownAt net m i] := by
  rw [List.take_add_one]
  congr 1
  unfold knowns
  rw [List.getElem?_map, List.getElem?_range h]
  rfl
theorem r_known_rounds {K : PySem.W.Frag} {w : World} {C : Addr} {E : XK} (G H : Hp) (ds : List PD) (d : PD) (h : q_known_rounds ds d) : DS (W0 K G H) (t_known_rounds K w E (spX C q_lot_rounds b_net)) (ds.map Sl.d ++ List.replicate (n_known_rounds.length - p_known_rounds.length) Sl.no) No (fun z => z = d) No No := by
  obtain ⟨net, m, T, st, hm, rfl, rfl⟩ := h
  have hf := T.s.ok.few
  unfold t_known_rounds
  refine ds_seq (ds_parDO (P := fun z => z = .tuple (rounds net m)) (dv_callX (dav_cons (dv_var rfl) da_nil) ⟨net, m, T, st, hm, rfl, rfl⟩) fun z e => ?_)
  subst e
  have e1 : (((Ls net.1).length : Nat) : Int).toNat = net.1.length := by rw [Ls_len]; simp
  refine ds_seq (ds_forv (xs := rng 0 net.1.length) (e1 ▸ div_r1 (dv_lenT (dv_at (dv_var rfl) at0)) (by omega) (by rw [Ls_len]; omega)) (fun i Γ => ∃ a b c e, Γ = [Sl.d (encN net), .d (.tuple (rounds net m)), .l (((knowns net m).take i).map optD), a, b, c, e]) ⟨_, _, _, _, rfl⟩ ?_ ?_)
  · rintro i x Γ' hx ⟨a, b, c, e, rfl⟩
    obtain ⟨hi, rfl⟩ := rng_get hx
    rw [Int.zero_add]
    refine dg_name ?_
    have fl := dv_filtR (W := W0 K G H) (Γ := [Sl.d (encN net), .d (.tuple (rounds net m)), .l (((knowns net m).take i).map optD), .d (.int (i : Int)), b, c, e]) (wi := iEnT K (tCons (tVar 1) tNil)) (n := m + 1) (X := fun j : Nat => PyData.tuple [.int (j : Int), encLs (itL net j)])
      (Γx := fun j : Nat => [Sl.d (encN net), .d (.tuple (rounds net m)), .l (((knowns net m).take i).map optD), .d (.int (i : Int)), b, .d (.int (j : Int)), .d (encLs (itL net j))]) (c := oneAt net i) (f := fun j : Nat => .int (j : Int)) (vs := [5, 6]) (g := gTup K 2 (gCons (gName 5) (gCons (gName 6) gNil))) (tt := tTest (tOp rEq (tCB (rLenQ K) (tCons (tOp (rIxT K) (tVar 6) (tVar 3)) tNil)) (tC (.int 1)))) (te := tVar 5)
      (by rw [← enum_rounds]; exact div_en (dv_var rfl)) (by omega) (fun j _ N k => dgw_tup2 (by simp) (by simp) k) (fun j _ => dt_test (dv_len1 (dv_lot (dv_var rfl) (dv_var rfl) (by rw [(it_ok T.s j).len]; exact hi)))) (fun j _ _ => dv_var rfl)
    refine ds_seq (ds_asg (P := fun z => z = _) fl fun z ez => ?_)
    subst ez
    refine ds_append (i := 2) (P := fun z => z = optD (knownAt net m i)) rfl (dv_headIf (dv_var rfl)) (by rw [List.length_map, List.length_take, knowns_len]; omega) fun z ez => ?_
    subst ez
    rw [knowns_take net m i hi, List.map_append]
    exact ⟨_, _, _, _, rfl⟩
  · rintro Γ' ⟨a, b, c, e, rfl⟩
    have e2 : (knowns net m).take (rng 0 net.1.length).length = knowns net m := by rw [rng_len, ← knowns_len net m, List.take_length]
    rw [e2]
    exact ds_freeze 2 rfl (ds_rv (dv_cb (dav_cons (dv_var rfl) da_nil) rc_tupL))
theorem x_known_rounds {K : PySem.W.Frag} {w : World} {C : Addr} {E : XK} (G H : Hp) (ds : List PD) (n : Int) (h : b_net ds n) (x : XT C n H E) : DXs (W0 K G H) (t_known_rounds K w E (spX C q_lot_rounds b_net)) (ds.map Sl.d ++ List.replicate (n_known_rounds.length - p_known_rounds.length) Sl.no) := by
  obtain ⟨net, g, rfl⟩ := h
  exact dx_seq (dx_par (dx_call (dav_cons (dv_var rfl) da_nil) ⟨net, g, rfl⟩ x))
end K24

set_option Elab.async false
set_option linter.all false
set_option maxRecDepth 100000
/-! K24R7: the law's own parts, branches, made, told, lots. -/
namespace K24
open PySem PySem.Spec L2
def q_law_parts (ds : List PD) (d : PD) : Prop := ∃ (n : Nat) (r : Rl), okR n r ∧ ds = [enc r] ∧ d = .list (encs (parts r))
theorem r_law_parts {K : PySem.W.Frag} {w : World} (G H : Hp) (ds : List PD) (d : PD) (h : q_law_parts ds d) : DS (W0 K G H) (t_law_parts K w) (ds.map Sl.d ++ List.replicate (n_law_parts.length - p_law_parts.length) Sl.no) No (fun z => z = d) No No := by
  obtain ⟨n, r, ho, rfl, rfl⟩ := h
  unfold t_law_parts
  cases r with
  | is v => exact ds_seq (ds_if (DTv.to (b := true) (dt_inL2 (dv_at (dv_var rfl) at0)) (by decide)) (fun _ => ds_rv (dv_lst (xs := []) da_nil (Nat.zero_le _))) fun z => nomatch z)
  | hear j => exact ds_seq (ds_if (DTv.to (b := true) (dt_inL2 (dv_at (dv_var rfl) at0)) (by decide)) (fun _ => ds_rv (dv_lst (xs := []) da_nil (Nat.zero_le _))) fun z => nomatch z)
  | node k ps =>
    obtain ⟨h1, h2⟩ := ho
    cases k with
    | least => exact ds_seq (ds_if (DTv.to (b := false) (dt_inL2 (dv_at (dv_var rfl) at0)) (by decide)) (fun z => nomatch z) fun _ => ds_next (ds_seq (ds_if (DTv.to (b := true) (dt_inL3 (dv_at (dv_var rfl) at0)) (by decide)) (fun _ => ds_rv (dv_cb (dav_cons (dv_at (dv_var rfl) at1) da_nil) rc_listT)) fun z => nomatch z)))
    | most => exact ds_seq (ds_if (DTv.to (b := false) (dt_inL2 (dv_at (dv_var rfl) at0)) (by decide)) (fun z => nomatch z) fun _ => ds_next (ds_seq (ds_if (DTv.to (b := true) (dt_inL3 (dv_at (dv_var rfl) at0)) (by decide)) (fun _ => ds_rv (dv_cb (dav_cons (dv_at (dv_var rfl) at1) da_nil) rc_listT)) fun z => nomatch z)))
    | add => exact ds_seq (ds_if (DTv.to (b := false) (dt_inL2 (dv_at (dv_var rfl) at0)) (by decide)) (fun z => nomatch z) fun _ => ds_next (ds_seq (ds_if (DTv.to (b := true) (dt_inL3 (dv_at (dv_var rfl) at0)) (by decide)) (fun _ => ds_rv (dv_cb (dav_cons (dv_at (dv_var rfl) at1) da_nil) rc_listT)) fun z => nomatch z)))
    | middle => exact ds_seq (ds_if (DTv.to (b := false) (dt_inL2 (dv_at (dv_var rfl) at0)) (by decide)) (fun z => nomatch z) fun _ => ds_next (ds_seq (ds_if (DTv.to (b := false) (dt_inL3 (dv_at (dv_var rfl) at0)) (by decide)) (fun z => nomatch z) fun _ => ds_next (ds_rv (de_if (DTv.to (b := true) (dt_name rfl) (by decide)) (fun _ => dv_cb (dav_cons (dv_from1 (dv_var rfl)) da_nil) rc_listT) fun z => nomatch z)))))
    | times m =>
      obtain ⟨p, rfl⟩ := len1 h1.1
      exact ds_seq (ds_if (DTv.to (b := false) (dt_inL2 (dv_at (dv_var rfl) at0)) (by decide)) (fun z => nomatch z) fun _ => ds_next (ds_seq (ds_if (DTv.to (b := false) (dt_inL3 (dv_at (dv_var rfl) at0)) (by decide)) (fun z => nomatch z) fun _ => ds_next (ds_rv (de_if (DTv.to (b := false) (dt_name rfl) (by decide)) (fun z => nomatch z) fun _ => dv_lst (dav_cons (dv_last (dv_var rfl) (atL (l := [.str "times", .int m]))) da_nil) (Nat.le_of_ble_eq_true rfl))))))
    | part m =>
      obtain ⟨p, rfl⟩ := len1 h1.1
      exact ds_seq (ds_if (DTv.to (b := false) (dt_inL2 (dv_at (dv_var rfl) at0)) (by decide)) (fun z => nomatch z) fun _ => ds_next (ds_seq (ds_if (DTv.to (b := false) (dt_inL3 (dv_at (dv_var rfl) at0)) (by decide)) (fun z => nomatch z) fun _ => ds_next (ds_rv (de_if (DTv.to (b := false) (dt_name rfl) (by decide)) (fun z => nomatch z) fun _ => dv_lst (dav_cons (dv_last (dv_var rfl) (atL (l := [.str "part", .int m]))) da_nil) (Nat.le_of_ble_eq_true rfl))))))
    | clip lo hi =>
      obtain ⟨p, rfl⟩ := len1 h1.1
      exact ds_seq (ds_if (DTv.to (b := false) (dt_inL2 (dv_at (dv_var rfl) at0)) (by decide)) (fun z => nomatch z) fun _ => ds_next (ds_seq (ds_if (DTv.to (b := false) (dt_inL3 (dv_at (dv_var rfl) at0)) (by decide)) (fun z => nomatch z) fun _ => ds_next (ds_rv (de_if (DTv.to (b := false) (dt_name rfl) (by decide)) (fun z => nomatch z) fun _ => dv_lst (dav_cons (dv_last (dv_var rfl) (atL (l := [.str "clip", .int lo, .int hi]))) da_nil) (Nat.le_of_ble_eq_true rfl))))))
    | frm m =>
      obtain ⟨p, rfl⟩ := len1 h1.1
      exact ds_seq (ds_if (DTv.to (b := false) (dt_inL2 (dv_at (dv_var rfl) at0)) (by decide)) (fun z => nomatch z) fun _ => ds_next (ds_seq (ds_if (DTv.to (b := false) (dt_inL3 (dv_at (dv_var rfl) at0)) (by decide)) (fun z => nomatch z) fun _ => ds_next (ds_rv (de_if (DTv.to (b := false) (dt_name rfl) (by decide)) (fun z => nomatch z) fun _ => dv_lst (dav_cons (dv_last (dv_var rfl) (atL (l := [.str "from", .int m]))) da_nil) (Nat.le_of_ble_eq_true rfl))))))
    | bar m lo hi =>
      obtain ⟨p, rfl⟩ := len1 h1.1
      exact ds_seq (ds_if (DTv.to (b := false) (dt_inL2 (dv_at (dv_var rfl) at0)) (by decide)) (fun z => nomatch z) fun _ => ds_next (ds_seq (ds_if (DTv.to (b := false) (dt_inL3 (dv_at (dv_var rfl) at0)) (by decide)) (fun z => nomatch z) fun _ => ds_next (ds_rv (de_if (DTv.to (b := false) (dt_name rfl) (by decide)) (fun z => nomatch z) fun _ => dv_lst (dav_cons (dv_last (dv_var rfl) (atL (l := [.str "bar", .int m, .int lo, .int hi]))) da_nil) (Nat.le_of_ble_eq_true rfl))))))
    | row ws =>
      obtain ⟨p, rfl⟩ := len1 h1.1
      exact ds_seq (ds_if (DTv.to (b := false) (dt_inL2 (dv_at (dv_var rfl) at0)) (by decide)) (fun z => nomatch z) fun _ => ds_next (ds_seq (ds_if (DTv.to (b := false) (dt_inL3 (dv_at (dv_var rfl) at0)) (by decide)) (fun z => nomatch z) fun _ => ds_next (ds_rv (de_if (DTv.to (b := false) (dt_name rfl) (by decide)) (fun z => nomatch z) fun _ => dv_lst (dav_cons (dv_last (dv_var rfl) (atL (l := [.str "row", .tuple (ws.map PyData.int)]))) da_nil) (Nat.le_of_ble_eq_true rfl))))))
def q_law_branches (m : Nat) (ds : List PD) (d : PD) : Prop := ∃ (n : Nat) (r : Rl), okR n r ∧ dep r ≤ m ∧ (brs r).length ≤ 1000 ∧ ds = [enc r] ∧ d = .list (Ns (brs r))
theorem r_law_branches {K : PySem.W.Frag} {w : World} (m : Nat) (G H : Hp) (ds : List PD) (d : PD) (h : q_law_branches (m + 1) ds d) : DS (W0 K G H) (t_law_branches K w (spF q_law_parts) (spF (q_law_branches m))) (ds.map Sl.d ++ List.replicate (n_law_branches.length - p_law_branches.length) Sl.no) No (fun z => z = d) No No := by
  obtain ⟨n, r, ho, hd, hl, rfl, rfl⟩ := h
  unfold t_law_branches
  have start : ∃ fst : List Nat, brs r = fst ++ brss (parts r) ∧ DV (W0 K G H) (tIf (tTest (tOp rEq (tOp (rIxT K) (tVar 0) (tC (.int 0))) (tC (.str "hear")))) (tLst (tCons (tOp (rIxT K) (tVar 0) (tC (.int 1))) tNil)) (tLst tNil)) [Sl.d (enc r), .no, .no] (.list (Ns fst)) := by
    cases r with
    | is v => exact ⟨[], rfl, de_if (DTv.to (b := false) (dt_name rfl) (by decide)) (fun z => nomatch z) fun _ => dv_lst (xs := []) da_nil (Nat.zero_le _)⟩
    | hear j => exact ⟨[j], rfl, de_if (DTv.to (b := true) (dt_name rfl) (by decide)) (fun _ => dv_lst (dav_cons (dv_at (dv_var rfl) at1) da_nil) (Nat.le_of_ble_eq_true rfl)) fun z => nomatch z⟩
    | node k ps =>
      refine ⟨[], rfl, ?_⟩
      have e1 : ([Sl.d (enc (.node k ps)), .no, .no] : List Sl)[0]? = some (Sl.d (.tuple (.str (wd k) :: tl k (encs ps)))) := by rw [enc_node]; rfl
      exact de_if (DTv.to (b := false) (dt_name e1) (decide_eq_false (wd_hear k))) (fun z => nomatch z) fun _ => dv_lst (xs := []) da_nil (Nat.zero_le _)
  obtain ⟨fst, eb, dv⟩ := start
  refine ds_seq (ds_asg (P := fun z => z = .list (Ns fst)) dv fun z e => ?_)
  subst e
  refine ds_seq (ds_forv (div_l (dv_call (x := .list (encs (parts r))) (dav_cons (dv_var rfl) da_nil) ⟨n, r, ho, rfl, rfl⟩)) (fun i Γ => ∃ a, Γ = [Sl.d (enc r), .d (.list (Ns (fst ++ brss ((parts r).take i)))), a]) ⟨_, by rw [List.take_zero]; simp only [brss, List.append_nil]; rfl⟩ ?_ ?_)
  · rintro i x Γ' hx ⟨a, rfl⟩
    obtain ⟨p, hp, rfl⟩ := encs_get hx
    have hm := List.mem_of_getElem? hp
    have hb := brs_mem_le hm
    have h2 := brss_len_le (ps := parts r) i
    have h3 : fst.length + (brss (parts r)).length ≤ 1000 := by rw [← List.length_append, ← eb]; exact hl
    refine dg_name (ds_asg (P := fun z => z = _) (dv_op (dv_var rfl) (dv_call (x := .list (Ns (brs p))) (dav_cons (dv_var rfl) da_nil) ⟨n, p, okRs_mem (parts_ok ho) hm, by have := parts_dep hm; omega, by omega, rfl, rfl⟩) (rd_cat (by rw [Ns_len, Ns_len, List.length_append]; omega))) fun z e => ?_)
    subst e
    refine ⟨.d (enc p), ?_⟩
    rw [brss_take hp, ← List.append_assoc, Ns_app (fst ++ brss ((parts r).take i)) (brs p)]
    rfl
  · rintro Γ' ⟨a, rfl⟩
    have e2 : (parts r).take (encs (parts r)).length = parts r := by rw [encs_len, List.take_length]
    rw [e2, ← eb]
    exact ds_rv (dv_var rfl)
section
variable {W : Wd} {Γ : List Sl} {K : PySem.W.Frag} {i : Nat} {s u : Str}
theorem dt_word (h : Γ[i]? = some (Sl.d (.str s))) : DTv W (tTest (tOp rEq (tVar i) (tC (.str u)))) Γ (decide (s = u)) := dt_test (dv_op (dv_var h) dv_str rd_eqS)
end
theorem r_law_made {K : PySem.W.Frag} {w : World} (G H : Hp) (ds : List PD) (d : PD) (h : q_made ds d) : DS (W0 K G H) (t_law_made K w) (ds.map Sl.d ++ List.replicate (n_law_made.length - p_law_made.length) Sl.no) No (fun z => z = d) No No := by
  obtain ⟨k, ns, xs, ho, hz, rfl, rfl⟩ := h
  have hn : 0 < ns.length := by cases k <;> simp only [okK] at ho <;> omega
  have hne : ns ≠ [] := fun e => by rw [e] at hn; exact absurd hn (by simp)
  have h0 := headD_nn hz
  unfold t_law_made
  refine ds_seq (ds_par (P1 := fun l => l = [.str (wd k), .int (ns.headD 0)]) (dav_cons (dv_at (ds := .str (wd k) :: tl k xs) (by rw [← encK_eq]; exact dv_var rfl) at0) (dav_cons (dv_atL (dv_var rfl) (head_at hn)) da_nil)) fun l e => ⟨_, _, e, ?_⟩)
  show DS _ _ [Sl.d (encK k xs), .d (.list (Ls ns)), .d (.str (wd k)), .d (.int (ns.headD 0))] _ _ _ _
  cases k with
  | least => exact ds_seq (ds_if (DTv.to (b := true) (dt_inL4 (dv_var (x := .str "least") rfl)) (by decide)) (fun _ => ds_rv (de_if (DTv.to (b := true) (dt_word (s := "least") rfl) (by decide)) (fun _ => dv_cb (dav_cons (dv_var rfl) da_nil) (rc_min hne)) fun z => nomatch z)) fun z => nomatch z)
  | most => exact ds_seq (ds_if (DTv.to (b := true) (dt_inL4 (dv_var (x := .str "most") rfl)) (by decide)) (fun _ => ds_rv (de_if (DTv.to (b := false) (dt_word (s := "most") rfl) (by decide)) (fun z => nomatch z) fun _ => de_if (DTv.to (b := true) (dt_word (s := "most") rfl) (by decide)) (fun _ => dv_cb (dav_cons (dv_var rfl) da_nil) (rc_max hne)) fun z => nomatch z)) fun z => nomatch z)
  | add => exact ds_seq (ds_if (DTv.to (b := true) (dt_inL4 (dv_var (x := .str "add") rfl)) (by decide)) (fun _ => ds_rv (de_if (DTv.to (b := false) (dt_word (s := "add") rfl) (by decide)) (fun z => nomatch z) fun _ => de_if (DTv.to (b := false) (dt_word (s := "add") rfl) (by decide)) (fun z => nomatch z) fun _ => de_if (DTv.to (b := true) (dt_word (s := "add") rfl) (by decide)) (fun _ => dv_cb (dav_cons (dv_var rfl) da_nil) rc_sum) fun z => nomatch z)) fun z => nomatch z)
  | middle =>
    have h3 : (srt ns).length = 3 := (srt_len ns).trans ho
    exact ds_seq (ds_if (DTv.to (b := true) (dt_inL4 (dv_var (x := .str "middle") rfl)) (by decide)) (fun _ => ds_rv (de_if (DTv.to (b := false) (dt_word (s := "middle") rfl) (by decide)) (fun z => nomatch z) fun _ => de_if (DTv.to (b := false) (dt_word (s := "middle") rfl) (by decide)) (fun z => nomatch z) fun _ => de_if (DTv.to (b := false) (dt_word (s := "middle") rfl) (by decide)) (fun z => nomatch z) fun _ => dv_atL (dv_cb (dav_cons (dv_var rfl) da_nil) (rc_sorted (srt_perm ns) (srt_asc ns))) (row_at (ws := srt ns) (by decide) (by rw [h3]; decide)))) fun z => nomatch z)
  | times m =>
    obtain ⟨hl, a, b⟩ := ho
    exact ds_seq (ds_if (DTv.to (b := false) (dt_inL4 (dv_var (x := .str "times") rfl)) (by decide)) (fun z => nomatch z) fun _ => ds_next (ds_seq (ds_if (DTv.to (b := true) (dt_inL2 (dv_var (x := .str "times") rfl)) (by decide)) (fun _ => ds_rv (de_if (DTv.to (b := true) (dt_word (s := "times") rfl) (by decide)) (fun _ => dv_op (dv_at (dv_var rfl) at1) (dv_var rfl) (rd_mul (.inl ⟨by omega, by omega⟩))) fun z => nomatch z)) fun z => nomatch z)))
  | part m =>
    obtain ⟨hl, a, b⟩ := ho
    exact ds_seq (ds_if (DTv.to (b := false) (dt_inL4 (dv_var (x := .str "part") rfl)) (by decide)) (fun z => nomatch z) fun _ => ds_next (ds_seq (ds_if (DTv.to (b := true) (dt_inL2 (dv_var (x := .str "part") rfl)) (by decide)) (fun _ => ds_rv (de_if (DTv.to (b := false) (dt_word (s := "part") rfl) (by decide)) (fun z => nomatch z) fun _ => dv_op (dv_var rfl) (dv_at (dv_var rfl) at1) (rd_fdiv ⟨by omega, by omega⟩))) fun z => nomatch z)))
  | clip lo hi =>
    obtain ⟨hl, a, b, c⟩ := ho
    refine ds_seq (ds_if (DTv.to (b := false) (dt_inL4 (dv_var (x := .str "clip") rfl)) (by decide)) (fun z => nomatch z) fun _ => ds_next (ds_seq (ds_if (DTv.to (b := false) (dt_inL2 (dv_var (x := .str "clip") rfl)) (by decide)) (fun z => nomatch z) fun _ => ds_next (ds_seq (ds_if (DTv.to (b := true) (dt_word (s := "clip") rfl) (by decide)) (fun _ => ds_rv (DV.to (dv_if2 (dt_test (dv_op (dv_var rfl) (dv_at (dv_var rfl) at1) rd_lt)) (dv_at (dv_var rfl) at1) (dv_if2 (dt_test (dv_op (dv_var rfl) (dv_at (dv_var rfl) at2) rd_gt)) (dv_at (dv_var rfl) at2) (dv_var rfl))) ?_)) fun z => nomatch z)))))
    show _ = PyData.int (min (max (ns.headD 0) lo) hi)
    simp only [decide_eq_true_eq]
    split
    · congr 1; omega
    · split
      · congr 1; omega
      · congr 1; omega
  | frm m =>
    obtain ⟨hl, a, b⟩ := ho
    refine ds_seq (ds_if (DTv.to (b := false) (dt_inL4 (dv_var (x := .str "from") rfl)) (by decide)) (fun z => nomatch z) fun _ => ds_next (ds_seq (ds_if (DTv.to (b := false) (dt_inL2 (dv_var (x := .str "from") rfl)) (by decide)) (fun z => nomatch z) fun _ => ds_next (ds_seq (ds_if (DTv.to (b := false) (dt_word (s := "from") rfl) (by decide)) (fun z => nomatch z) fun _ => ds_next (ds_seq (ds_if (DTv.to (b := true) (dt_word (s := "from") rfl) (by decide)) (fun _ => ds_rv (DV.to (dv_if2 (dt_test (dv_op (dv_var rfl) (dv_at (dv_var rfl) at1) rd_lt)) (dv_op (dv_at (dv_var rfl) at1) (dv_var rfl) rd_sub) dv_int) ?_)) fun z => nomatch z)))))))
    show _ = PyData.int (max 0 (m - ns.headD 0))
    simp only [decide_eq_true_eq]
    split
    · congr 1; omega
    · congr 1; omega
  | bar m lo hi =>
    obtain ⟨hl, a⟩ := ho
    refine ds_seq (ds_if (DTv.to (b := false) (dt_inL4 (dv_var (x := .str "bar") rfl)) (by decide)) (fun z => nomatch z) fun _ => ds_next (ds_seq (ds_if (DTv.to (b := false) (dt_inL2 (dv_var (x := .str "bar") rfl)) (by decide)) (fun z => nomatch z) fun _ => ds_next (ds_seq (ds_if (DTv.to (b := false) (dt_word (s := "bar") rfl) (by decide)) (fun z => nomatch z) fun _ => ds_next (ds_seq (ds_if (DTv.to (b := false) (dt_word (s := "bar") rfl) (by decide)) (fun z => nomatch z) fun _ => ds_next (ds_seq (ds_if (DTv.to (b := true) (dt_word (s := "bar") rfl) (by decide)) (fun _ => ds_rv (DV.to (dv_if2 (dt_test (dv_op (dv_var rfl) (dv_at (dv_var rfl) at1) rd_ge)) (dv_at (dv_var rfl) at3) (dv_at (dv_var rfl) at2)) ?_)) fun z => nomatch z)))))))))
    show _ = PyData.int (if m ≤ ns.headD 0 then hi else lo)
    simp only [decide_eq_true_eq]
    split <;> rfl
  | row ws =>
    obtain ⟨hl, a, b, c⟩ := ho
    refine ds_seq (ds_if (DTv.to (b := false) (dt_inL4 (dv_var (x := .str "row") rfl)) (by decide)) (fun z => nomatch z) fun _ => ds_next (ds_seq (ds_if (DTv.to (b := false) (dt_inL2 (dv_var (x := .str "row") rfl)) (by decide)) (fun z => nomatch z) fun _ => ds_next (ds_seq (ds_if (DTv.to (b := false) (dt_word (s := "row") rfl) (by decide)) (fun z => nomatch z) fun _ => ds_next (ds_seq (ds_if (DTv.to (b := false) (dt_word (s := "row") rfl) (by decide)) (fun z => nomatch z) fun _ => ds_next (ds_seq (ds_if (DTv.to (b := false) (dt_word (s := "row") rfl) (by decide)) (fun z => nomatch z) fun _ => ds_next (ds_rv ?_))))))))))
    have el : ((ws.map PyData.int).length : Int) = (ws.length : Int) := by rw [List.length_map]
    refine de_if (dt_test (dv_op (dv_var rfl) (dv_lenT (dv_at (dv_var rfl) at1)) rd_lt)) (fun e => ?_) (fun e => ?_)
    · have e2 := of_decide_eq_true e
      rw [el] at e2
      refine dv_op (dv_at (dv_var rfl) at1) (dv_var rfl) (rd_ixT ?_)
      show atI (Ls ws) _ = some (.int (ws.getD (min (ns.headD 0) ((ws.length : Int) - 1)).toNat 0))
      rw [row_at h0 e2]
      have e3 : min (ns.headD 0) ((ws.length : Int) - 1) = ns.headD 0 := by omega
      rw [e3]
    · have e2 := of_decide_eq_false e
      rw [el] at e2
      have e3 : min (ns.headD 0) ((ws.length : Int) - 1) = (ws.length : Int) - 1 := by omega
      show DV _ _ _ (.int (ws.getD (min (ns.headD 0) ((ws.length : Int) - 1)).toNat 0))
      rw [e3]
      obtain ⟨l', x', rfl⟩ : ∃ l' x', ws = l' ++ [x'] := ⟨ws.dropLast, ws.getLast (fun z => by rw [z] at a; exact absurd a (by simp)), (List.dropLast_concat_getLast _).symm⟩
      have e4 : ((((l' ++ [x']).length : Nat) : Int) - 1).toNat = l'.length := by rw [List.length_append, List.length_singleton]; omega
      rw [e4]
      have e5 : (l' ++ [x']).getD l'.length 0 = x' := by
        rw [List.getD_eq_getElem?_getD, List.getElem?_append_right (Nat.le_refl _), Nat.sub_self]
        rfl
      rw [e5]
      refine dv_last (dv_at (dv_var rfl) at1) ?_
      rw [List.map_append]
      exact atL
end K24

set_option Elab.async false
set_option linter.all false
set_option maxRecDepth 100000
/-! K24R8: the law's own told, wants, lots. -/
namespace K24
open PySem PySem.Spec L2
theorem cutAB {xs : List PD} {a b : Nat} (h : a + b ≤ xs.length) : cutD xs (some (a : Int)) (some ((a : Int) + (b : Int))) = (xs.drop a).take b := by
  unfold cutD
  have e1 : HT.sIx xs.length 0 (some (a : Int)) = a := by rw [HT.sIx_nat]; omega
  have e2 : HT.sIx xs.length xs.length (some ((a : Int) + (b : Int))) = a + b := by
    have : (a : Int) + (b : Int) = ((a + b : Nat) : Int) := by omega
    rw [this, HT.sIx_nat]
    omega
  rw [e1, e2, Nat.add_sub_cancel_left]
mutual
theorem told_cut : ∀ (r : Rl) (h : List Int) (n : Nat), (brs r).length ≤ n → told r (h.take n) = told r h
  | .is v, _, _, _ => rfl
  | .hear j, h, n, hn => by
    have hn1 : 1 ≤ n := hn
    cases h with
    | nil => simp [told]
    | cons a l =>
      cases n with
      | zero => omega
      | succ n => rfl
  | .node k ps, h, n, hn => by
    show made k (tolds ps (h.take n)) = made k (tolds ps h)
    rw [tolds_cut ps h n hn]
theorem tolds_cut : ∀ (ps : List Rl) (h : List Int) (n : Nat), (brss ps).length ≤ n → tolds ps (h.take n) = tolds ps h
  | [], _, _, _ => rfl
  | p :: ps, h, n, hn => by
    have e : (brss (p :: ps)).length = (brs p).length + (brss ps).length := List.length_append
    rw [e] at hn
    show told p (h.take n) :: tolds ps ((h.take n).drop (brs p).length) = told p h :: tolds ps (h.drop (brs p).length)
    rw [told_cut p h n (by omega), List.drop_take, tolds_cut ps _ _ (by omega)]
end
def q_law_told (m : Nat) (ds : List PD) (d : PD) : Prop := ∃ (n : Nat) (r : Rl) (hs : List Int), okR n r ∧ dep r ≤ m ∧ (brs r).length ≤ hs.length ∧ hs.length ≤ 1000 ∧ (∀ z ∈ hs, 0 ≤ z) ∧ ds = [enc r, .list (Ls hs)] ∧ d = .int (told r hs)
theorem kp_len {k : Kd} {n : Nat} (h : okK k n) : n ≤ 60 := by
  cases k <;> simp only [okK] at h <;> omega
theorem r_law_told {K : PySem.W.Frag} {w : World} (m : Nat) (G H : Hp) (ds : List PD) (d : PD) (h : q_law_told (m + 1) ds d) : DS (W0 K G H) (t_law_told K w (spF q_law_parts) (spF q_made) (spF (q_law_branches m)) (spF (q_law_told m))) (ds.map Sl.d ++ List.replicate (n_law_told.length - p_law_told.length) Sl.no) No (fun z => z = d) No No := by
  obtain ⟨n, r, hs, ho, hd, hl, hb, hz, rfl, rfl⟩ := h
  unfold t_law_told
  cases r with
  | is v => exact ds_seq (ds_if (DTv.to (b := true) (dt_inL2 (dv_at (dv_var rfl) at0)) (by decide)) (fun _ => ds_rv (de_if (DTv.to (b := true) (dt_name rfl) (by decide)) (fun _ => dv_at (dv_var rfl) at1) fun z => nomatch z)) fun z => nomatch z)
  | hear j => exact ds_seq (ds_if (DTv.to (b := true) (dt_inL2 (dv_at (dv_var rfl) at0)) (by decide)) (fun _ => ds_rv (de_if (DTv.to (b := false) (dt_name rfl) (by decide)) (fun z => nomatch z) fun _ => dv_atL (dv_var rfl) (head_at (by have : (brs (.hear j)).length = 1 := rfl; omega)))) fun z => nomatch z)
  | node k ps =>
    have e0 : ∀ (a b c d : Sl), ([Sl.d (enc (.node k ps)), .d (.list (Ls hs)), a, b, c, d] : List Sl)[0]? = some (Sl.d (.tuple (.str (wd k) :: tl k (encs ps)))) := fun _ _ _ _ => by rw [enc_node]; rfl
    refine ds_seq (ds_if (DTv.to (b := false) (dt_inL2 (dv_at (dv_var (e0 _ _ _ _)) at0)) ?_) (fun z => nomatch z) fun _ => ds_next (ds_seq (ds_parOD (by decide) (P := fun z => z = .int 0) dv_int fun z e => ?_)))
    · have h1 := wd_is k
      have h2 := wd_hear k
      exact decide_eq_false (by simp [h1, h2])
    subst e
    have hl2 : (brss ps).length ≤ hs.length := hl
    refine ds_seq (ds_forv (div_l (dv_call (x := .list (encs ps)) (dav_cons (dv_var rfl) da_nil) ⟨n, _, ho, rfl, rfl⟩)) (fun i Γ => ∃ a b, Γ = [Sl.d (enc (.node k ps)), .d (.list (Ls hs)), .l (Ls (tolds (ps.take i) hs)), .d (.int (((brss (ps.take i)).length : Nat) : Int)), a, b]) ⟨_, _, rfl⟩ ?_ ?_)
    · rintro i x Γ' hx ⟨a, b, rfl⟩
      obtain ⟨p, hp, rfl⟩ := encs_get hx
      have hm := List.mem_of_getElem? hp
      have hi : i < ps.length := (List.getElem?_eq_some_iff.mp hp).1
      have hb2 : (brss (ps.take (i + 1))).length ≤ (brss ps).length := brss_len_le (i + 1)
      rw [brss_take hp, List.length_append] at hb2
      have hd2 := parts_dep (r := .node k ps) hm
      have hk := kp_len ho.1
      have hop := okRs_mem ho.2 hm
      refine dg_name (ds_seq (ds_asg (P := fun z => z = .int (((brs p).length : Nat) : Int)) (DV.to (dv_lenL (dv_call (x := .list (Ns (brs p))) (dav_cons (dv_var rfl) da_nil) ⟨n, p, hop, by omega, by omega, rfl, rfl⟩)) (by rw [Ns_len])) fun z e => ?_))
      subst e
      have hc : cutD (Ls hs) (some (((brss (ps.take i)).length : Nat) : Int)) (some ((((brss (ps.take i)).length : Nat) : Int) + (((brs p).length : Nat) : Int))) = Ls ((hs.drop (brss (ps.take i)).length).take (brs p).length) := by
        rw [cutAB (by rw [Ls_len]; omega)]
        unfold Ls
        rw [← List.map_drop, ← List.map_take]
      refine ds_seq (ds_append (i := 2) (P := fun z => z = .int (told p (hs.drop (brss (ps.take i)).length))) rfl (dv_call (dav_cons (dv_var rfl) (dav_cons (DV.to (dv_sl (dv_var rfl) (dov_some (dv_var rfl)) (dov_some (dv_op (dv_var rfl) (dv_var rfl) rd_add)) rs_L) (by rw [hc])) da_nil)) ⟨n, p, (hs.drop (brss (ps.take i)).length).take (brs p).length, hop, by omega, ?_, ?_, ?_, rfl, ?_⟩) (by rw [Ls_len, tolds_len, List.length_take]; omega) fun z e => ?_)
      · rw [List.length_take, List.length_drop]; omega
      · rw [List.length_take, List.length_drop]; omega
      · exact fun y hy => hz y (List.mem_of_mem_drop (List.mem_of_mem_take hy))
      · rw [told_cut p _ _ (Nat.le_refl _)]
      · subst e
        refine ds_asg (P := fun z => z = _) (dv_op (dv_var rfl) (dv_var rfl) rd_add) fun z e => ?_
        subst e
        refine ⟨.d (enc p), .d (.int (((brs p).length : Nat) : Int)), ?_⟩
        rw [brss_take hp, tolds_take hp, List.length_append]
        unfold Ls
        rw [List.map_append, Int.natCast_add]
        rfl
    · rintro Γ' ⟨a, b, rfl⟩
      have e2 : ps.take (encs ps).length = ps := by rw [encs_len, List.take_length]
      rw [e2]
      refine ds_freeze 2 rfl (ds_rv (dv_call (dav_cons (dv_var rfl) (dav_cons (dv_var rfl) da_nil)) ⟨k, tolds ps hs, encs ps, ?_, tolds_nn ps hs ho.2 hz, rfl, rfl⟩))
      rw [tolds_len]
      exact ho.1
def q_law_wants (ds : List PD) (d : PD) : Prop := ∃ (net : Net) (most : Int) (i : Nat) (row : List Int) (x : PD), okN net most ∧ i < net.1.length ∧ okRow net i row ∧ (x = encT row ∨ x = .list (Ls row)) ∧ ds = [encN net, .int (i : Int), x] ∧ d = .int (want net i row)
theorem r_law_wants {K : PySem.W.Frag} {w : World} (G H : Hp) (ds : List PD) (d : PD) (h : q_law_wants ds d) : DS (W0 K G H) (t_law_wants K w (spF (q_law_told 4))) (ds.map Sl.d ++ List.replicate (n_law_wants.length - p_law_wants.length) Sl.no) No (fun z => z = d) No No := by
  obtain ⟨net, most, i, row, x, o, hi, ho, hx, rfl, rfl⟩ := h
  have hi2 : i < net.2.length := by rw [o.len]; exact hi
  obtain ⟨r1, r2⟩ := okN_rl o hi2
  have lv : DV (W0 K G H) (tCB (rListQ K) (tCons (tVar 2) tNil)) [Sl.d (encN net), .d (.int (i : Int)), .d x] (.list (Ls row)) := by
    rcases hx with rfl | rfl
    · exact dv_cb (dav_cons (dv_var rfl) da_nil) rc_listT
    · exact dv_cb (dav_cons (dv_var rfl) da_nil) rc_listL
  exact ds_rv (dv_cb (dav_cons (dv_top (dv_var rfl) (dv_var rfl) hi) (dav_cons (dv_call (x := .int (told (rl net i) row)) (dav_cons (dv_rule (dv_var rfl) (dv_var rfl) hi2) (dav_cons lv da_nil)) ⟨_, rl net i, row, r1, r2, Nat.le_of_eq ho.len.symm, ho.few, ho.nn, rfl, rfl⟩) da_nil)) rc_min2)
def q_law_many_rows (ds : List PD) (d : PD) : Prop := ∃ (net : Net) (i : Nat), okB net ∧ i < net.1.length ∧ ds = [encN net, .int (i : Int)] ∧ d = .int (manyR net i)
theorem r_law_many_rows {K : PySem.W.Frag} {w : World} (G H : Hp) (ds : List PD) (d : PD) (h : q_law_many_rows ds d) : DS (W0 K G H) (t_law_many_rows K w (spF (q_law_branches 4))) (ds.map Sl.d ++ List.replicate (n_law_many_rows.length - p_law_many_rows.length) Sl.no) No (fun z => z = d) No No := by
  obtain ⟨net, i, B, hi, rfl, rfl⟩ := h
  have hi2 : i < net.2.length := by rw [B.ok.len]; exact hi
  obtain ⟨r1, r2⟩ := okN_rl B.ok hi2
  have hb := brs_ok _ r1
  unfold t_law_many_rows
  refine ds_seq (ds_asg (P := fun z => z = .int 1) dv_int fun z e => ?_)
  subst e
  refine ds_seq (ds_forv (div_l (dv_call (x := .list (Ns (brs (rl net i)))) (dav_cons (dv_rule (dv_var rfl) (dv_var rfl) hi2) da_nil) ⟨_, rl net i, r1, r2, by have := B.brs i hi; omega, rfl, rfl⟩)) (fun j Γ => ∃ c, Γ = [Sl.d (encN net), .d (.int (i : Int)), .d (.int (((brs (rl net i)).take j).foldl (fun a b => a * (tp net b + 1)) 1)), c]) ⟨_, rfl⟩ ?_ ?_)
  · rintro j y Γ' hy ⟨c, rfl⟩
    unfold Ns at hy
    rw [List.getElem?_map] at hy
    cases ho : (brs (rl net i))[j]? with
    | none => rw [ho] at hy; cases hy
    | some o =>
      rw [ho] at hy
      cases hy
      have hob := hb o (List.mem_of_getElem? ho)
      have ht := tp_ok B.ok hob
      refine dg_name (ds_asg (P := fun z => z = _) (dv_op (dv_var rfl) (dv_op (dv_top (dv_var rfl) (dv_var rfl) hob) dv_int rd_add) (rd_mul (.inr ⟨by omega, by omega⟩))) fun z e => ?_)
      subst e
      refine ⟨.d (.int (o : Int)), ?_⟩
      rw [fold_brs ho]
      rfl
  · rintro Γ' ⟨c, rfl⟩
    rw [Ns_len, List.take_length]
    exact ds_rv (dv_var rfl)
def fewB (net : Net) (most : Int) : Bool := (List.range net.1.length).all fun i => decide (manyR net i ≤ most)
def q_law_few (ds : List PD) (d : PD) : Prop := ∃ (net : Net) (most : Int), okB net ∧ ds = [encN net, .int most] ∧ d = .bool (fewB net most)
theorem r_law_few {K : PySem.W.Frag} {w : World} (G H : Hp) (ds : List PD) (d : PD) (h : q_law_few ds d) : DS (W0 K G H) (t_law_few K w (spF q_law_many_rows)) (ds.map Sl.d ++ List.replicate (n_law_few.length - p_law_few.length) Sl.no) No (fun z => z = d) No No := by
  obtain ⟨net, most, B, rfl, rfl⟩ := h
  have hf := B.ok.few
  have e1 : (((Ls net.1).length : Nat) : Int).toNat = net.1.length := by rw [Ls_len]; simp
  unfold t_law_few
  refine ds_seq (ds_forv (xs := rng 0 net.1.length) (e1 ▸ div_r1 (dv_lenT (dv_at (dv_var rfl) at0)) (by omega) (by rw [Ls_len]; omega)) (fun i Γ => (∀ j, j < i → manyR net j ≤ most) ∧ ∃ a, Γ = [Sl.d (encN net), .d (.int most), a]) ⟨fun j hj => absurd hj (Nat.not_lt_zero j), _, rfl⟩ ?_ ?_)
  · rintro i x Γ' hx ⟨hs, a, rfl⟩
    obtain ⟨hi, rfl⟩ := rng_get hx
    rw [Int.zero_add]
    refine dg_name (ds_if (dt_test (dv_op (dv_call (x := .int (manyR net i)) (dav_cons (dv_var rfl) (dav_cons (dv_var rfl) da_nil)) ⟨net, i, B, hi, rfl, rfl⟩) (dv_var rfl) rd_gt)) (fun e => ds_ret (P := fun z => z = .bool false) dv_bl fun z ez => ?_) fun e => ds_next ⟨fun j hj => ?_, _, rfl⟩)
    · subst ez
      have e2 := of_decide_eq_true e
      congr 1
      unfold fewB
      symm
      rw [List.all_eq_false]
      exact ⟨i, List.mem_range.mpr hi, by simp; omega⟩
    · have e2 := of_decide_eq_false e
      by_cases q : j = i
      · subst q; omega
      · exact hs j (by omega)
  · rintro Γ' ⟨hs, a, rfl⟩
    refine ds_ret (P := fun z => z = .bool true) dv_bl fun z ez => ?_
    subst ez
    congr 1
    unfold fewB
    symm
    rw [List.all_eq_true]
    intro i hi
    rw [rng_len] at hs
    exact decide_eq_true (hs i (List.mem_range.mp hi))
def q_law_brought (ds : List PD) (d : PD) : Prop := ∃ (ls : Lots) (bs : List Nat), (∀ b ∈ bs, b < ls.length) ∧ (∀ i, i ≤ bs.length → (rowsOf ls (bs.take i) [[]]).length ≤ 4096) ∧ (∀ l ∈ ls, l.length ≤ 100) ∧ bs.length ≤ 900 ∧ ds = [encLs ls, .list (Ns bs)] ∧ d = .list ((rowsOf ls bs [[]]).map encT)
theorem rows_len_le {l : List Int} {f : List (List Int)} (i : Nat) : ((f.take i).flatMap fun row => l.map fun w => row ++ [w]).length ≤ (f.flatMap fun row => l.map fun w => row ++ [w]).length := by
  rw [flat_len, flat_len, List.length_take]
  exact Nat.mul_le_mul_right _ (Nat.min_le_right _ _)
theorem r_law_brought {K : PySem.W.Frag} {w : World} (G H : Hp) (ds : List PD) (d : PD) (h : q_law_brought ds d) : DS (W0 K G H) (t_law_brought K w) (ds.map Sl.d ++ List.replicate (n_law_brought.length - p_law_brought.length) Sl.no) No (fun z => z = d) No No := by
  obtain ⟨ls, bs, hb, hf, h100, hl, rfl, rfl⟩ := h
  unfold t_law_brought
  refine ds_seq (ds_asg (P := fun z => z = .list [.tuple []]) (dv_lst (dav_cons (dv_tup (xs := []) da_nil (Nat.zero_le _)) da_nil) (Nat.le_of_ble_eq_true rfl)) fun z e => ?_)
  subst e
  refine ds_seq (ds_forv (div_l (dv_var rfl)) (fun i Γ => ∃ a b c e, Γ = [Sl.d (encLs ls), .d (.list (Ns bs)), .d (.list ((rowsOf ls (bs.take i) [[]]).map encT)), a, b, c, e]) ⟨_, _, _, _, rfl⟩ ?_ ?_)
  · rintro i x Γ' hx ⟨a, b, c, e, rfl⟩
    unfold Ns at hx
    rw [List.getElem?_map] at hx
    cases hi : bs[i]? with
    | none => rw [hi] at hx; cases hx
    | some o =>
      rw [hi] at hx
      cases hx
      have hil : i < bs.length := (List.getElem?_eq_some_iff.mp hi).1
      have hob := hb o (List.mem_of_getElem? hi)
      have h1 := hf (i + 1) hil
      have h0 := hf i (Nat.le_of_lt hil)
      have hrl := row_len (ls := ls) (bs.take i) [[]] 0 (fun r hr => by rw [List.mem_singleton.mp hr]; rfl)
      rw [rows_take hi] at h1
      have hlo : (ls.getD o []).length ≤ 100 := h100 _ (by rw [List.getD_eq_getElem?_getD, List.getElem?_eq_getElem hob]; exact List.getElem_mem hob)
      refine dg_name (ds_seq (ds_asg (P := fun z => z = .list []) (dv_lst (xs := []) da_nil (Nat.zero_le _)) fun z ez => ?_))
      subst ez
      generalize hF : rowsOf ls (bs.take i) [[]] = F at *
      refine ds_seq (ds_forv (div_l (dv_var rfl)) (fun j Γ => ∃ c e, Γ = [Sl.d (encLs ls), .d (.list (Ns bs)), .d (.list (F.map encT)), .d (.int (o : Int)), .d (.list (((F.take j).flatMap fun row => (ls.getD o []).map fun w => row ++ [w]).map encT)), c, e]) ⟨_, _, rfl⟩ ?_ ?_)
      · rintro j y Γ2 hy ⟨c2, e2, rfl⟩
        rw [List.getElem?_map] at hy
        cases hj : F[j]? with
        | none => rw [hj] at hy; cases hy
        | some row =>
          rw [hj] at hy
          cases hy
          have hr2 := hrl row (List.mem_of_getElem? hj)
          rw [List.length_take] at hr2
          have hj2 := rows_len_le (l := ls.getD o []) (f := F) j
          refine dg_name ?_
          have m := dv_map (W := W0 K G H) (Γ := [Sl.d (encLs ls), .d (.list (Ns bs)), .d (.list (F.map encT)), .d (.int (o : Int)), .d (.list (((F.take j).flatMap fun row => (ls.getD o []).map fun w => row ++ [w]).map encT)), .d (encT row), e2]) (vs := [6]) (j := 6) (xs := Ls (ls.getD o [])) (f := fun y => .tuple (Ls row ++ [y])) (te := tOp (rCatA K) (tVar 5) (tTup (tCons (tVar 6) tNil)))
            (div_t (K := K) (te := tOp (rIxT K) (tVar 0) (tVar 3)) (dv_lot (dv_var rfl) (dv_var rfl) hob)) (by rw [Ls_len]; omega) (by simp) (fun q y hy => by
              cases row with
              | nil => exact dv_op (dv_var rfl) (dv_tup (dav_cons (dv_var rfl) da_nil) (Nat.le_of_ble_eq_true rfl)) (rd_catT0 (Nat.le_of_ble_eq_true rfl))
              | cons z0 zs => exact dv_op (dv_var rfl) (dv_tup (dav_cons (dv_var rfl) da_nil) (Nat.le_of_ble_eq_true rfl)) (rd_catT (by simp [Ls]) (by simp) (by rw [Ls_len, List.length_singleton]; omega)))
          refine ds_asg (P := fun z => z = _) (dv_op (dv_var rfl) m (rd_cat (by rw [List.length_map, List.length_map, Ls_len]; omega))) fun z ez => ?_
          subst ez
          refine ⟨.d (encT row), e2, ?_⟩
          have e3 : (Ls (ls.getD o [])).map (fun y => (.tuple (Ls row ++ [y]) : PD)) = ((ls.getD o []).map fun w => row ++ [w]).map encT := by
            unfold Ls encT
            rw [List.map_map, List.map_map]
            apply List.map_congr_left
            intro v _
            show PyData.tuple (row.map PyData.int ++ [PyData.int v]) = PyData.tuple ((row ++ [v]).map PyData.int)
            rw [List.map_append]
            rfl
          rw [e3, List.take_add_one, hj, List.flatMap_append, List.map_append]
          simp only [Option.toList, List.flatMap_cons, List.flatMap_nil, List.append_nil]
          rfl
      · rintro Γ2 ⟨c2, e2, rfl⟩
        rw [List.length_map, List.take_length]
        refine ds_asg (P := fun z => z = _) (dv_var rfl) fun z ez => ?_
        subst ez
        rw [rows_take hi, hF]
        exact ⟨_, _, _, _, rfl⟩
  · rintro Γ' ⟨a, b, c, e, rfl⟩
    rw [Ns_len, List.take_length]
    exact ds_rv (dv_var rfl)
def q_law_lots_next (ds : List PD) (d : PD) : Prop := ∃ (net : Net) (ls : Lots), okS net ∧ okL net ls ∧ ds = [encN net, encLs ls] ∧ d = encLs (nextL net ls)
theorem okL_100 {net : Net} {ls : Lots} (S : okS net) (o : okL net ls) : ∀ l ∈ ls, l.length ≤ 100 := fun l hl => by
  obtain ⟨i, hi⟩ := List.mem_iff_getElem?.mp hl
  have hlt : i < ls.length := (List.getElem?_eq_some_iff.mp hi).1
  have e : ls.getD i [] = l := by rw [List.getD_eq_getElem?_getD, hi]; rfl
  have h1 := okL_len o hlt
  have h2 := tp_ok S.ok (i := i) (by rw [← o.len]; exact hlt)
  rw [e] at h1
  omega
theorem r_law_lots_next {K : PySem.W.Frag} {w : World} (G H : Hp) (ds : List PD) (d : PD) (h : q_law_lots_next ds d) : DS (W0 K G H) (t_law_lots_next K w (spF q_law_wants) (spF q_law_brought) (spF (q_law_branches 4))) (ds.map Sl.d ++ List.replicate (n_law_lots_next.length - p_law_lots_next.length) Sl.no) No (fun z => z = d) No No := by
  obtain ⟨net, ls, S, o, rfl, rfl⟩ := h
  have hf := S.ok.few
  have e1 : (((Ls net.1).length : Nat) : Int).toNat = net.1.length := by rw [Ls_len]; simp
  unfold t_law_lots_next
  refine ds_seq (ds_own0 ?_)
  refine ds_seq (ds_forv (xs := rng 0 net.1.length) (e1 ▸ div_r1 (dv_lenT (dv_at (dv_var rfl) at0)) (by omega) (by rw [Ls_len]; omega)) (fun i Γ => ∃ a b c, Γ = [Sl.d (encN net), .d (encLs ls), .l (((nextL net ls).take i).map encT), a, b, c]) ⟨_, _, _, rfl⟩ ?_ ?_)
  · rintro i x Γ' hx ⟨a, b, c, rfl⟩
    obtain ⟨hi, rfl⟩ := rng_get hx
    rw [Int.zero_add]
    have hi2 : i < net.2.length := by rw [S.ok.len]; exact hi
    obtain ⟨r1, r2⟩ := okN_rl S.ok hi2
    have hbr := S.brs i hi
    refine dg_name ?_
    have m := dv_map (W := W0 K G H) (Γ := [Sl.d (encN net), .d (encLs ls), .l (((nextL net ls).take i).map encT), .d (.int (i : Int)), b, c]) (vs := [5]) (j := 5) (xs := (rowsOf ls (brs (rl net i)) [[]]).map encT) (f := fun d => .int (want net i (unT d)))
      (te := tCall (spF q_law_wants) [] E0 (tCons (tVar 0) (tCons (tVar 3) (tCons (tVar 5) tNil)))) (div_l (K := K) (te := tCall (spF q_law_brought) [] E0 (tCons (tVar 1) (tCons (tCall (spF (q_law_branches 4)) [] E0 (tCons (tOp (rIxT K) (tOp (rIxT K) (tVar 0) (tC (.int 1))) (tVar 3)) tNil)) tNil))) (dv_call (dav_cons (dv_var rfl) (dav_cons (dv_call (x := .list (Ns (brs (rl net i)))) (dav_cons (dv_rule (dv_var rfl) (dv_var rfl) hi2) da_nil) ⟨_, rl net i, r1, r2, by omega, rfl, rfl⟩) da_nil)) ⟨ls, brs (rl net i), fun b hb => by rw [o.len]; exact okS_brs S hi b hb, fun j _ => by have := rows_few S o hi j; omega, okL_100 S o, hbr, rfl, rfl⟩))
      (by rw [List.length_map]; have := rows_few S o hi (brs (rl net i)).length; rw [List.take_length] at this; omega) (by simp) (fun j y hy => by
        obtain ⟨row, hr, rfl⟩ := List.mem_map.mp (List.mem_of_getElem? hy)
        rw [unT_enc]
        exact dv_call (dav_cons (dv_var rfl) (dav_cons (dv_var rfl) (dav_cons (dv_var rfl) da_nil))) ⟨net, 60, i, row, encT row, S.ok, hi, row_ok S o hi hr, .inl rfl, rfl, rfl⟩)
    have em : ((rowsOf ls (brs (rl net i)) [[]]).map encT).map (fun d => PyData.int (want net i (unT d))) = Ls ((rowsOf ls (brs (rl net i)) [[]]).map (want net i)) := by
      unfold Ls
      rw [List.map_map, List.map_map]
      apply List.map_congr_left
      intro row _
      show PyData.int (want net i (unT (encT row))) = _
      rw [unT_enc]
      rfl
    rw [em] at m
    refine ds_seq (ds_asg (P := fun z => z = _) m fun z ez => ?_)
    subst ez
    refine ds_append (i := 2) (P := fun z => z = encT ((nextL net ls).getD i [])) rfl (sorted_lot S o hi (dv_var rfl)) ?_ fun z e => ?_
    · rw [List.length_map, List.length_take]
      omega
    · subst e
      refine ⟨.d (.int (i : Int)), .d (.list (Ls ((rowsOf ls (brs (rl net i)) [[]]).map (want net i)))), c, ?_⟩
      rw [take_get (by rw [nextL_len]; exact hi2), List.map_append]
      rfl
  · rintro Γ' ⟨a, b, c, rfl⟩
    have e : (rng 0 net.1.length).length = (nextL net ls).length := by rw [rng_len, nextL_len, S.ok.len]
    rw [e, List.take_length]
    exact ds_freeze 2 rfl (ds_rv (dv_cb (dav_cons (dv_var rfl) da_nil) rc_tupL))
def q_law_lot_rounds (ds : List PD) (d : PD) : Prop := ∃ (net : Net) (m : Nat), okT net ∧ Stop net m ∧ (m : Int) ≤ net.1.sum ∧ m ≤ 1000 ∧ ds = [encN net] ∧ d = .list (rounds net m)
theorem sum_le {l : List Int} (h : ∀ t ∈ l, 0 ≤ t ∧ t ≤ 30) : 0 ≤ l.sum ∧ l.sum ≤ 30 * l.length := by
  induction l with
  | nil => simp
  | cons a l ih =>
    have h1 := h a List.mem_cons_self
    have h2 := ih fun t ht => h t (List.mem_cons_of_mem _ ht)
    rw [List.sum_cons, List.length_cons]
    omega
theorem r_law_lot_rounds {K : PySem.W.Frag} {w : World} (G H : Hp) (ds : List PD) (d : PD) (h : q_law_lot_rounds ds d) : DS (W0 K G H) (t_law_lot_rounds K w (spF q_law_lots_next)) (ds.map Sl.d ++ List.replicate (n_law_lot_rounds.length - p_law_lot_rounds.length) Sl.no) No (fun z => z = d) No No := by
  obtain ⟨net, m, T, st, hms, hm, rfl, rfl⟩ := h
  have S := T.s
  have hf := S.ok.few
  have hsum := sum_le fun t ht => ⟨(S.ok.tops t ht).1, T.tops t ht⟩
  have shp : ∀ j, SeqAt.shaped (encLs (itL net j)) = true := fun j => nice_shaped (lots_nice T (it_ok S j)) (by decide)
  have lastv : ∀ (Γ : List Sl) (j : Nat), Γ[1]? = some (Sl.l (rounds net j)) → DV (W0 K G H) (tOp (rIxL K) (tVar 1) (tUn (rU fun i => .int (-i)) (tC (.int 1)))) Γ (encLs (itL net j)) := fun Γ j e => dv_ixOwn e (dv_un dv_int ru_neg) (rounds_last net j)
  unfold t_law_lot_rounds
  refine ds_seq (ds_own1 (P := fun z => z = encLs (firstL net)) (dv_cb (dav_cons (firstD (show 4 < 5 from Nat.lt_succ_self 4) S.ok (dv_var rfl)) da_nil) rc_tupL) fun z e => ?_)
  subst e
  refine ds_seq (ds_forv (xs := rng 0 (net.1.sum + 1).toNat) (div_r1 (dv_op (dv_cb (dav_cons (dv_at (dv_var rfl) at0) da_nil) rc_sumT) dv_int rd_add) (by omega) (by omega)) (fun i Γ => i ≤ m ∧ ∃ a b c, Γ = [Sl.d (encN net), .l (rounds net i), a, b, c]) ⟨Nat.zero_le _, _, _, _, rfl⟩ ?_ ?_)
  · rintro i x Γ' hx ⟨hi, a, b, c, rfl⟩
    refine dg_name (ds_seq (ds_asg (P := fun z => z = encLs (itL net (i + 1))) (dv_call (dav_cons (dv_var rfl) (dav_cons (lastv _ i rfl) da_nil)) ⟨net, itL net i, S, it_ok S i, rfl, rfl⟩) fun z e => ?_))
    subst e
    refine ds_seq (ds_if (dt_test (DV.to (dv_op (dv_var rfl) (lastv _ i rfl) (rd_eqD (shp _) (shp _))) (by rw [eqv_encLs]))) (fun e => ?_) fun e => ds_next ?_)
    · have e2 := of_decide_eq_true e
      have ei : i = m := by
        by_cases q : i = m
        · exact q
        · exact absurd e2 (st.2 i (by omega))
      subst ei
      exact ds_freeze 1 rfl (ds_rv (dv_var rfl))
    · have e2 := of_decide_eq_false e
      have hlt : i < m := by
        by_cases q : i = m
        · subst q
          exact absurd st.1 e2
        · omega
      refine ds_append (i := 1) (P := fun z => z = encLs (itL net (i + 1))) rfl (dv_var rfl) (by rw [rounds_len]; omega) fun z e => ?_
      subst e
      rw [rounds_succ]
      exact ⟨hlt, _, _, _, rfl⟩
  · rintro Γ' ⟨hi, _⟩
    rw [rng_len] at hi
    omega
end K24

set_option Elab.async false
set_option linter.all false
set_option maxRecDepth 100000
/-! K24R9: ranges, turns, words, ways. -/
namespace K24
open PySem PySem.Spec L2
def inE (n : Nat) (lo hi : Int) (j : Nat) : Bool := (decide (lo ≤ (j : Int)) && decide ((j : Int) ≤ hi)) || (decide ((j : Int) = (n : Int) - 1) && decide ((j : Int) < lo))
def entries (ws : List Int) (lo hi : Int) : List Int := ((List.range ws.length).filter (inE ws.length lo hi)).map fun j => ws.getD j 0
def some2 (k : Kd) (rs : List (Int × Int)) : List Int := match k with
  | .row ws => entries ws (rs.headD (0, 0)).1 (rs.headD (0, 0)).2
  | k => [made k (rs.map (·.1)), made k (rs.map (·.2))]
mutual
def rangeR (net : Net) : Rl → Int × Int
  | .is w => (w, w)
  | .hear j => (0, tp net j)
  | .node k ps => (lmin (some2 k (rangesR net ps)), lmax (some2 k (rangesR net ps)))
def rangesR (net : Net) : List Rl → List (Int × Int)
  | [] => []
  | p :: ps => rangeR net p :: rangesR net ps
end
theorem rangesR_map (net : Net) : ∀ ps : List Rl, rangesR net ps = ps.map (rangeR net)
  | [] => rfl
  | p :: ps => congrArg (rangeR net p :: ·) (rangesR_map net ps)
def steps (l : List Int) : List Int := (List.range (l.length - 1)).map fun k => l.getD (k + 1) 0 - l.getD k 0
def turnRow (l : List Int) : Int := if (steps l).any (fun z => decide (0 < z)) && (steps l).any (fun z => decide (z < 0)) then 0 else if (steps l).any (fun z => decide (z < 0)) then -1 else 1
def turn (net : Net) (k : Kd) (ps : List Rl) : Int := match k with
  | .frm _ => -1
  | .bar _ lo hi => if hi < lo then -1 else 1
  | .row ws => turnRow (entries ws ((rangesR net ps).headD (0, 0)).1 ((rangesR net ps).headD (0, 0)).2)
  | _ => 1
mutual
def words (net : Net) : Rl → Bool → Int → List Str
  | .is _, _, _ => []
  | .hear j, b, s => [if b || decide ((rangeR net (.hear j)).1 = (rangeR net (.hear j)).2) then "none" else if s = 0 then "both" else if s < 0 then "falls" else "rises"]
  | .node k ps, b, s => wordss net ps (b || decide ((rangeR net (.node k ps)).1 = (rangeR net (.node k ps)).2)) (s * turn net k ps)
def wordss (net : Net) : List Rl → Bool → Int → List Str
  | [], _, _ => []
  | p :: ps, b, s => words net p b s ++ wordss net ps b s
end
def still0 (net : Net) (i : Nat) : Bool := decide (min (rangeR net (rl net i)).1 (tp net i) = min (rangeR net (rl net i)).2 (tp net i))
def ways (net : Net) (i : Nat) : List Str := words net (rl net i) (still0 net i) 1
mutual
theorem words_len (net : Net) : ∀ (r : Rl) (b : Bool) (s : Int), (words net r b s).length = (brs r).length
  | .is _, _, _ => rfl
  | .hear _, _, _ => rfl
  | .node k ps, b, s => wordss_len net ps _ _
theorem wordss_len (net : Net) : ∀ (ps : List Rl) (b : Bool) (s : Int), (wordss net ps b s).length = (brss ps).length
  | [], _, _ => rfl
  | p :: ps, b, s => by
    show (words net p b s ++ wordss net ps b s).length = (brs p ++ brss ps).length
    rw [List.length_append, List.length_append, words_len net p, wordss_len net ps]
end
/-! ### ranges -/
theorem entries_ne {ws : List Int} {lo hi : Int} (h1 : 1 ≤ ws.length) (h0 : 0 ≤ lo) (h : lo ≤ hi) : entries ws lo hi ≠ [] := by
  have key : ∃ j, j < ws.length ∧ inE ws.length lo hi j = true := by
    by_cases q : lo ≤ (ws.length : Int) - 1
    · refine ⟨lo.toNat, by omega, ?_⟩
      unfold inE
      have a : lo ≤ ((lo.toNat : Nat) : Int) := by omega
      have b : ((lo.toNat : Nat) : Int) ≤ hi := by omega
      rw [decide_eq_true a, decide_eq_true b]
      rfl
    · refine ⟨ws.length - 1, by omega, ?_⟩
      unfold inE
      have a : ((ws.length - 1 : Nat) : Int) = (ws.length : Int) - 1 := by omega
      have b : ((ws.length - 1 : Nat) : Int) < lo := by omega
      rw [decide_eq_true a, decide_eq_true b]
      simp
  obtain ⟨j, hj, hi2⟩ := key
  intro e
  have := List.mem_map_of_mem (f := fun j => ws.getD j 0) (List.mem_filter.mpr ⟨List.mem_range.mpr hj, hi2⟩)
  unfold entries at e
  rw [e] at this
  exact absurd this (by simp)
theorem entries_nn {ws : List Int} {lo hi : Int} (h : ∀ z ∈ ws, 0 ≤ z) : ∀ z ∈ entries ws lo hi, 0 ≤ z := fun z hz => by
  obtain ⟨j, _, rfl⟩ := List.mem_map.mp hz
  exact getD_nn h j
theorem lmin_le_lmax {l : List Int} (h : l ≠ []) : lmin l ≤ lmax l := lmax_ge (lmin_mem h)
/-- a range of numbers -/
def okP (p : Int × Int) : Prop := 0 ≤ p.1 ∧ p.1 ≤ p.2
theorem some2_ok {k : Kd} {rs : List (Int × Int)} (ho : okK k rs.length) (h : ∀ p ∈ rs, okP p) : some2 k rs ≠ [] ∧ ∀ z ∈ some2 k rs, 0 ≤ z := by
  have n1 : ∀ z ∈ rs.map (·.1), 0 ≤ z := fun z hz => by obtain ⟨p, hp, rfl⟩ := List.mem_map.mp hz; exact (h p hp).1
  have n2 : ∀ z ∈ rs.map (·.2), 0 ≤ z := fun z hz => by obtain ⟨p, hp, rfl⟩ := List.mem_map.mp hz; exact Int.le_trans (h p hp).1 (h p hp).2
  have two : ∀ k2 : Kd, okK k2 rs.length → ([made k2 (rs.map (·.1)), made k2 (rs.map (·.2))] : List Int) ≠ [] ∧ ∀ z ∈ ([made k2 (rs.map (·.1)), made k2 (rs.map (·.2))] : List Int), 0 ≤ z := fun k2 o2 => by
    refine ⟨by simp, fun z hz => ?_⟩
    rcases List.mem_cons.mp hz with e | e
    · rw [e]; exact made_nn (by rw [List.length_map]; exact o2) n1
    · rw [List.mem_singleton.mp e]; exact made_nn (by rw [List.length_map]; exact o2) n2
  cases k with
  | row ws =>
    obtain ⟨hl, a, b, c⟩ := ho
    have hp : okP (rs.headD (0, 0)) := by
      cases rs with
      | nil => simp at hl
      | cons p rs => exact h p List.mem_cons_self
    exact ⟨entries_ne a hp.1 hp.2, entries_nn fun z hz => (c z hz).1⟩
  | _ => exact two _ ho
mutual
theorem range_ok {net : Net} {most : Int} (o : okN net most) : ∀ (r : Rl), okR net.1.length r → okP (rangeR net r)
  | .is w, h => ⟨h.1, Int.le_refl _⟩
  | .hear j, h => ⟨Int.le_refl 0, (tp_ok o h.1).1⟩
  | .node k ps, h => by
    have h2 := ranges_ok o ps h.2
    obtain ⟨a, b⟩ := some2_ok (k := k) (rs := rangesR net ps) (by rw [rangesR_map, List.length_map]; exact h.1) h2
    exact ⟨lmin_nn b, lmin_le_lmax a⟩
theorem ranges_ok {net : Net} {most : Int} (o : okN net most) : ∀ (ps : List Rl), okRs net.1.length ps → ∀ p ∈ rangesR net ps, okP p
  | [], _ => fun p hp => absurd hp (by simp [rangesR])
  | q :: ps, h => fun p hp => by
    rcases List.mem_cons.mp hp with e | e
    · rw [e]; exact range_ok o q h.1
    · exact ranges_ok o ps h.2 p e
end
/-! ### their readings -/
theorem filt_true {α : Type} (l : List α) : l.filter (fun _ => true) = l := List.filter_eq_self.mpr fun _ _ => rfl
def encP (p : Int × Int) : PD := .tuple [.int p.1, .int p.2]
def q_law_entries (ds : List PD) (d : PD) : Prop := ∃ (ws : List Int) (lo hi : Int), ws.length ≤ 1000 ∧ ds = [encT ws, .int lo, .int hi] ∧ d = .list (Ls (entries ws lo hi))
theorem r_law_entries {K : PySem.W.Frag} {w : World} (G H : Hp) (ds : List PD) (d : PD) (h : q_law_entries ds d) : DS (W0 K G H) (t_law_entries K w) (ds.map Sl.d ++ List.replicate (n_law_entries.length - p_law_entries.length) Sl.no) No (fun z => z = d) No No := by
  obtain ⟨ws, lo, hi, hl, rfl, rfl⟩ := h
  have e1 : (((Ls ws).length : Nat) : Int).toNat = ws.length := by rw [Ls_len]; simp
  have fl := dv_filtR (W := W0 K G H) (Γ := [Sl.d (encT ws), .d (.int lo), .d (.int hi), .no]) (wi := iRng1 (tCons (tCB (rLenQ K) (tCons (tVar 0) tNil)) tNil)) (n := ws.length) (X := fun j : Nat => .int (j : Int))
    (Γx := fun j : Nat => [Sl.d (encT ws), .d (.int lo), .d (.int hi), .d (.int (j : Int))]) (c := inE ws.length lo hi) (f := fun j : Nat => .int (ws.getD j 0)) (vs := [3]) (g := gName 3)
    (tt := tOr (tTest (tChain qLe qLe (tVar 1) (tVar 3) (tVar 2))) (tAnd (tTest (tOp rEq (tVar 3) (tOp qSub (tCB (rLenQ K) (tCons (tVar 0) tNil)) (tC (.int 1))))) (tTest (tOp qGt (tVar 1) (tVar 3))))) (te := tOp (rIxT K) (tVar 0) (tVar 3))
    (by rw [← rng0, ← e1]; exact div_r1 (dv_lenT (dv_var rfl)) (by omega) (by rw [Ls_len]; omega)) (by omega) (fun j _ N k => dgw_name (by simp) k)
    (fun j _ => dt_or2 (dt_test (dv_chain (dv_var rfl) (dv_var rfl) (dv_var rfl) rd_le rd_le)) (dt_and2 (dt_test (DV.to (dv_op (dv_var rfl) (dv_op (dv_lenT (dv_var rfl)) dv_int rd_sub) rd_eqI) (by rw [Ls_len]))) (dt_test (dv_op (dv_var rfl) (dv_var rfl) rd_gt))))
    (fun j hj _ => dv_op (dv_var rfl) (dv_var rfl) (rd_ixT (row_at (ws := ws) (by omega) (by omega))))
  refine ds_rv (DV.to fl ?_)
  unfold entries Ls
  rw [List.map_map]
  rfl
def q_law_range (m : Nat) (ds : List PD) (d : PD) : Prop := ∃ (net : Net) (most : Int) (r : Rl), okN net most ∧ okR net.1.length r ∧ dep r ≤ m ∧ ds = [encN net, enc r] ∧ d = encP (rangeR net r)
theorem encs_map (ps : List Rl) : encs ps = ps.map enc := by
  induction ps with
  | nil => rfl
  | cons p ps ih => exact congrArg (enc p :: ·) ih
theorem r_law_range {K : PySem.W.Frag} {w : World} (m : Nat) (G H : Hp) (ds : List PD) (d : PD) (h : q_law_range (m + 1) ds d) : DS (W0 K G H) (t_law_range K w (spF (q_law_range m)) (spF q_law_entries) (spF q_law_parts) (spF q_made)) (ds.map Sl.d ++ List.replicate (n_law_range.length - p_law_range.length) Sl.no) No (fun z => z = d) No No := by
  obtain ⟨net, most, r, o, ho, hd, rfl, rfl⟩ := h
  unfold t_law_range
  cases r with
  | is v => exact ds_nT rfl rfl (ds_rv (dv_tup (dav_cons (dv_at (dv_var rfl) at1) (dav_cons (dv_at (dv_var rfl) at1) da_nil)) (Nat.le_of_ble_eq_true rfl)))
  | hear j => exact ds_nF rfl (by decide) (ds_nT rfl rfl (ds_rv (dv_tup (dav_cons dv_int (dav_cons (dv_top (i := j) (dv_var rfl) (dv_at (dv_var rfl) at1) ho.1) da_nil)) (Nat.le_of_ble_eq_true rfl))))
  | node k ps =>
    have e0 : ∀ (a b c d f : Sl), ([Sl.d (encN net), .d (enc (.node k ps)), a, b, c, d, f] : List Sl)[1]? = some (Sl.d (.tuple (.str (wd k) :: tl k (encs ps)))) := fun _ _ _ _ _ => by rw [enc_node]; rfl
    refine ds_nF (e0 _ _ _ _ _) (wd_is k) (ds_nF (e0 _ _ _ _ _) (wd_hear k) ?_)
    have hk := kp_len ho.1
    have inner : DV (W0 K G H) (tLc (iList K (tCall (spF q_law_parts) [] E0 (tCons (tVar 1) tNil))) (gName 4) tYes (tCall (spF (q_law_range m)) [] E0 (tCons (tVar 0) (tCons (tVar 4) tNil))) [4]) [Sl.d (encN net), .d (enc (.node k ps)), .no, .no, .no, .no, .no] (.list ((rangesR net ps).map encP)) := by
      have fl := dv_filtR (W := W0 K G H) (Γ := [Sl.d (encN net), .d (enc (.node k ps)), .no, .no, .no, .no, .no]) (wi := iList K (tCall (spF q_law_parts) [] E0 (tCons (tVar 1) tNil))) (n := ps.length) (X := fun j : Nat => enc (ps.getD j (.is 0)))
        (Γx := fun j : Nat => [Sl.d (encN net), .d (enc (.node k ps)), .no, .no, .d (enc (ps.getD j (.is 0))), .no, .no]) (c := fun _ => true) (f := fun j : Nat => encP (rangeR net (ps.getD j (.is 0)))) (vs := [4]) (g := gName 4) (tt := tYes) (te := tCall (spF (q_law_range m)) [] E0 (tCons (tVar 0) (tCons (tVar 4) tNil)))
        (by
          have e : (List.range ps.length).map (fun j : Nat => enc (ps.getD j (.is 0))) = encs ps := by
            apply List.ext_getElem?
            intro i
            by_cases hi : i < ps.length
            · rw [List.getElem?_map, List.getElem?_range hi, encs_at hi]
              rfl
            · rw [List.getElem?_eq_none (by rw [List.length_map, List.length_range]; omega), List.getElem?_eq_none (by rw [encs_len]; omega)]
          rw [e]
          exact div_l (dv_call (x := .list (encs ps)) (dav_cons (dv_var rfl) da_nil) ⟨_, _, ho, rfl, rfl⟩)) (by omega) (fun j _ N q => dgw_name (by simp) q) (fun j _ => dt_yes) (fun j hj _ => by
            have hm : ps.getD j (.is 0) ∈ ps := by
              rw [List.getD_eq_getElem?_getD, List.getElem?_eq_getElem hj]
              exact List.getElem_mem hj
            have hd2 := parts_dep (r := .node k ps) hm
            exact dv_call (dav_cons (dv_var rfl) (dav_cons (dv_var rfl) da_nil)) ⟨net, most, _, o, okRs_mem ho.2 hm, by omega, rfl, rfl⟩)
      refine DV.to fl ?_
      congr 1
      rw [rangesR_map, List.map_map, filt_true]
      apply List.ext_getElem?
      intro i
      by_cases hi : i < ps.length
      · rw [List.getElem?_map, List.getElem?_range hi, List.getElem?_map, List.getElem?_eq_getElem hi]
        show some (encP (rangeR net (ps.getD i (.is 0)))) = some (encP (rangeR net ps[i]))
        rw [List.getD_eq_getElem?_getD, List.getElem?_eq_getElem hi]
        rfl
      · rw [List.getElem?_eq_none (by rw [List.length_map, List.length_range]; omega), List.getElem?_eq_none (by rw [List.length_map]; omega)]
    refine ds_seq (ds_asg (P := fun z => z = _) inner fun z e => ?_)
    subst e
    have hrl : (rangesR net ps).length = ps.length := by rw [rangesR_map, List.length_map]
    have hok := ranges_ok o ps ho.2
    have hs2 := some2_ok (k := k) (rs := rangesR net ps) (by rw [hrl]; exact ho.1) hok
    refine ds_seq (DS.imp (N := fun Γ => ∃ a b c, Γ = [Sl.d (encN net), .d (enc (.node k ps)), .d (.list ((rangesR net ps).map encP)), .d (.list (Ls (some2 k (rangesR net ps)))), a, b, c]) ?_ fun Γ' hΓ => ?_)
    · have two : (∀ ws, k ≠ .row ws) → DS (W0 K G H) (tAsg (tLc (iList K (tLst (tCons (tC (.int 0)) (tCons (tC (.int 1)) tNil)))) (gName 5) tYes (tCall (spF q_made) [] E0 (tCons (tVar 1) (tCons (tLc (iList K (tVar 2)) (gName 6) tYes (tOp (rIxT K) (tVar 6) (tVar 5)) [6]) tNil))) [5]) (gName 3)) [Sl.d (encN net), .d (enc (.node k ps)), .d (.list ((rangesR net ps).map encP)), .no, .no, .no, .no] (fun Γ => ∃ a b c, Γ = [Sl.d (encN net), .d (enc (.node k ps)), .d (.list ((rangesR net ps).map encP)), .d (.list (Ls (some2 k (rangesR net ps)))), a, b, c]) (fun z => z = encP (rangeR net (.node k ps))) No No := by
        intro nr
        have col : ∀ (Γ : List Sl) (e : Int) (sel : Int × Int → Int), Γ.length = 7 → Γ[2]? = some (Sl.d (.list ((rangesR net ps).map encP))) → Γ[5]? = some (Sl.d (.int e)) → (∀ p : Int × Int, atI [PyData.int p.1, .int p.2] e = some (.int (sel p))) → DV (W0 K G H) (tLc (iList K (tVar 2)) (gName 6) tYes (tOp (rIxT K) (tVar 6) (tVar 5)) [6]) Γ (.list (Ls ((rangesR net ps).map sel))) := by
          intro Γ e sel hl h2 h5 hs
          have fl := dv_filtR (W := W0 K G H) (Γ := Γ) (wi := iList K (tVar 2)) (n := ps.length) (X := fun j : Nat => encP ((rangesR net ps).getD j (0, 0))) (Γx := fun j : Nat => (wipeS Γ [6]).set 6 (Sl.d (encP ((rangesR net ps).getD j (0, 0))))) (c := fun _ => true) (f := fun j : Nat => .int (sel ((rangesR net ps).getD j (0, 0)))) (vs := [6]) (g := gName 6) (tt := tYes) (te := tOp (rIxT K) (tVar 6) (tVar 5))
            (by
              have e : (List.range ps.length).map (fun j : Nat => encP ((rangesR net ps).getD j (0, 0))) = (rangesR net ps).map encP := by
                apply List.ext_getElem?
                intro i
                by_cases hi : i < ps.length
                · have hi2 : i < (rangesR net ps).length := by rw [hrl]; exact hi
                  rw [List.getElem?_map, List.getElem?_range hi, List.getElem?_map, List.getElem?_eq_getElem hi2]
                  show some (encP ((rangesR net ps).getD i (0, 0))) = _
                  rw [List.getD_eq_getElem?_getD, List.getElem?_eq_getElem hi2]
                  rfl
                · rw [List.getElem?_eq_none (by rw [List.length_map, List.length_range]; omega), List.getElem?_eq_none (by rw [List.length_map, hrl]; omega)]
              rw [e]
              exact div_l (dv_var h2)) (by omega) (fun j _ N q => dgw_name (by simp) q) (fun j _ => dt_yes) (fun j hj _ => dv_op (dv_var (List.getElem?_set_self (by rw [wipeS_len, hl]; decide))) (dv_var (by
                rw [List.getElem?_set_ne (by decide)]
                show ((wipeS Γ []).set 6 Sl.no)[5]? = _
                rw [List.getElem?_set_ne (by decide)]
                exact h5)) (rd_ixT (hs _)))
          refine DV.to fl ?_
          congr 1
          rw [filt_true]
          unfold Ls
          rw [List.map_map]
          apply List.ext_getElem?
          intro i
          by_cases hi : i < ps.length
          · have hi2 : i < (rangesR net ps).length := by rw [hrl]; exact hi
            rw [List.getElem?_map, List.getElem?_range hi, List.getElem?_map, List.getElem?_eq_getElem hi2]
            show some (PyData.int (sel ((rangesR net ps).getD i (0, 0)))) = _
            rw [List.getD_eq_getElem?_getD, List.getElem?_eq_getElem hi2]
            rfl
          · rw [List.getElem?_eq_none (by rw [List.length_map, List.length_range]; omega), List.getElem?_eq_none (by rw [List.length_map, hrl]; omega)]
        have mk : ∀ (Γ : List Sl) (e : Int) (sel : Int × Int → Int), Γ.length = 7 → Γ[1]? = some (Sl.d (enc (.node k ps))) → Γ[2]? = some (Sl.d (.list ((rangesR net ps).map encP))) → Γ[5]? = some (Sl.d (.int e)) → (∀ p : Int × Int, atI [PyData.int p.1, .int p.2] e = some (.int (sel p))) → (∀ p, okP p → 0 ≤ sel p) → DV (W0 K G H) (tCall (spF q_made) [] E0 (tCons (tVar 1) (tCons (tLc (iList K (tVar 2)) (gName 6) tYes (tOp (rIxT K) (tVar 6) (tVar 5)) [6]) tNil))) Γ (.int (made k ((rangesR net ps).map sel))) := fun Γ e sel hl h1 h2 h5 hs hn =>
          dv_call (dav_cons (dv_var h1) (dav_cons (col Γ e sel hl h2 h5 hs) da_nil)) ⟨k, _, encs ps, by rw [List.length_map, hrl]; exact ho.1, fun z hz => by
            obtain ⟨p, hp, rfl⟩ := List.mem_map.mp hz
            exact hn p (hok p hp), rfl, rfl⟩
        have m := dv_map (W := W0 K G H) (Γ := [Sl.d (encN net), .d (enc (.node k ps)), .d (.list ((rangesR net ps).map encP)), .no, .no, .no, .no]) (vs := [5]) (j := 5) (xs := [.int 0, .int 1]) (f := fun d => match d with | .int 0 => .int (made k ((rangesR net ps).map (·.1))) | _ => .int (made k ((rangesR net ps).map (·.2)))) (te := tCall (spF q_made) [] E0 (tCons (tVar 1) (tCons (tLc (iList K (tVar 2)) (gName 6) tYes (tOp (rIxT K) (tVar 6) (tVar 5)) [6]) tNil)))
          (div_l (K := K) (te := tLst (tCons (tC (.int 0)) (tCons (tC (.int 1)) tNil))) (dv_lst (dav_cons dv_int (dav_cons dv_int da_nil)) (Nat.le_of_ble_eq_true rfl))) (by simp) (by simp) (fun i y hy => by
            match i, hy with
            | 0, hy =>
              cases hy
              exact mk _ 0 (·.1) rfl rfl rfl rfl (fun p => at0) (fun p hp => hp.1)
            | 1, hy =>
              cases hy
              exact mk _ 1 (·.2) rfl rfl rfl rfl (fun p => at1) (fun p hp => Int.le_trans hp.1 hp.2))
        refine ds_asg (P := fun z => z = _) m fun z e => ?_
        subst e
        refine ⟨.no, .no, .no, ?_⟩
        have es : some2 k (rangesR net ps) = [made k ((rangesR net ps).map (·.1)), made k ((rangesR net ps).map (·.2))] := by
          cases k with
          | row ws => exact absurd rfl (nr ws)
          | _ => rfl
        rw [es]
        rfl
      cases k with
      | row ws =>
        obtain ⟨hl1, a, b, c⟩ := ho.1
        have hr1 : (rangesR net ps).length = 1 := hrl.trans hl1
        obtain ⟨p0, hp0⟩ := len1 hr1
        have e4 : (rangesR net ps).map encP = [encP p0] := by rw [hp0]; rfl
        refine ds_if (b := true) (DTv.to (dt_name (e0 _ _ _ _ _)) (decide_eq_true rfl)) (fun _ => ds_asg (P := fun z => z = .list (Ls (entries ws p0.1 p0.2))) (dv_call (dav_cons (dv_at (dv_var rfl) at1) (dav_cons (dv_at (dv_atL (x := encP p0) (ds := [encP p0]) (DV.to (dv_var rfl) (by rw [e4])) at0) at0) (dav_cons (dv_at (dv_atL (x := encP p0) (ds := [encP p0]) (DV.to (dv_var rfl) (by rw [e4])) at0) at1) da_nil))) ⟨ws, p0.1, p0.2, by omega, rfl, rfl⟩) fun z e => ?_) (fun z => nomatch z)
        subst e
        refine ⟨.no, .no, .no, ?_⟩
        have es : some2 (.row ws) (rangesR net ps) = entries ws p0.1 p0.2 := by rw [hp0]; rfl
        rw [es]
        rfl
      | least => exact ds_if (b := false) (DTv.to (dt_name (e0 _ _ _ _ _)) (by decide)) (fun z => nomatch z) fun _ => two (fun _ z => nomatch z)
      | most => exact ds_if (b := false) (DTv.to (dt_name (e0 _ _ _ _ _)) (by decide)) (fun z => nomatch z) fun _ => two (fun _ z => nomatch z)
      | add => exact ds_if (b := false) (DTv.to (dt_name (e0 _ _ _ _ _)) (by decide)) (fun z => nomatch z) fun _ => two (fun _ z => nomatch z)
      | middle => exact ds_if (b := false) (DTv.to (dt_name (e0 _ _ _ _ _)) (by decide)) (fun z => nomatch z) fun _ => two (fun _ z => nomatch z)
      | times _ => exact ds_if (b := false) (DTv.to (dt_name (e0 _ _ _ _ _)) (decide_eq_false (by simp only [wd]; decide))) (fun z => nomatch z) fun _ => two (fun _ z => nomatch z)
      | part _ => exact ds_if (b := false) (DTv.to (dt_name (e0 _ _ _ _ _)) (decide_eq_false (by simp only [wd]; decide))) (fun z => nomatch z) fun _ => two (fun _ z => nomatch z)
      | clip _ _ => exact ds_if (b := false) (DTv.to (dt_name (e0 _ _ _ _ _)) (decide_eq_false (by simp only [wd]; decide))) (fun z => nomatch z) fun _ => two (fun _ z => nomatch z)
      | frm _ => exact ds_if (b := false) (DTv.to (dt_name (e0 _ _ _ _ _)) (decide_eq_false (by simp only [wd]; decide))) (fun z => nomatch z) fun _ => two (fun _ z => nomatch z)
      | bar _ _ _ => exact ds_if (b := false) (DTv.to (dt_name (e0 _ _ _ _ _)) (decide_eq_false (by simp only [wd]; decide))) (fun z => nomatch z) fun _ => two (fun _ z => nomatch z)
    · obtain ⟨a, b, c, rfl⟩ := hΓ
      exact ds_rv (dv_tup (dav_cons (dv_cb (dav_cons (dv_var rfl) da_nil) (rc_min hs2.1)) (dav_cons (dv_cb (dav_cons (dv_var rfl) da_nil) (rc_max hs2.1)) da_nil)) (Nat.le_of_ble_eq_true rfl))
end K24

set_option Elab.async false
set_option linter.all false
set_option maxRecDepth 100000
/-! K24R10: turns, words, ways, the doubled rounds. -/
namespace K24
open PySem PySem.Spec L2
theorem steps_len (l : List Int) : (steps l).length = l.length - 1 := by
  unfold steps
  rw [List.length_map, List.length_range]
theorem ints_lay (l : List Int) : SeqAt.shaped (.list (Ls l)) = true := by
  have h1 : PyData.canLayAll0 (Ls l) = true := lay_all fun x hx => by
    obtain ⟨z, _, rfl⟩ := List.mem_map.mp hx
    simp only [PyData.canLay0]
  have h2 : PyData.depthAll (Ls l) ≤ 0 := depth_all fun x hx => by
    obtain ⟨z, _, rfl⟩ := List.mem_map.mp hx
    simp only [PyData.depth]
    exact Nat.le_refl 0
  unfold SeqAt.shaped
  simp only [PyData.canLay0, PyData.depth, h1, Bool.true_and]
  exact decide_eq_true (by omega)
theorem nil_lay : SeqAt.shaped (.list []) = true := ints_lay []
theorem eqv_nil (l : List Int) : PyData.eqv (.list (Ls l)) (.list []) = l.isEmpty := by
  cases l <;> simp [Ls, PyData.eqv, PyData.eqvAll]
/-- [z for z in l if c] != [] -/
theorem dv_any {W : Wd} {Γ : List Sl} {K : PySem.W.Frag} {l : List Int} {i j : Nat} {c : Int → Bool} {tt : TT} (hi : Γ[i]? = some (Sl.d (.list (Ls l)))) (hz : l.length < 100000) (hj : j < Γ.length) (ht : ∀ (Γ2 : List Sl) (z : Int), Γ2[j]? = some (Sl.d (.int z)) → DTv W tt Γ2 (c z)) :
    DV W (tOp (rNeD K) (tLc (iList K (tVar i)) (gName j) tt (tVar j) [j]) (tLst tNil)) Γ (.bool (l.any c)) := by
  have m := dv_filtR (W := W) (Γ := Γ) (wi := iList K (tVar i)) (n := l.length) (X := fun k : Nat => .int (l.getD k 0)) (Γx := fun k : Nat => (wipeS Γ [j]).set j (Sl.d (.int (l.getD k 0)))) (c := fun k => c (l.getD k 0)) (f := fun k : Nat => .int (l.getD k 0)) (vs := [j]) (g := gName j) (tt := tt) (te := tVar j)
    (by
      have e : (List.range l.length).map (fun k : Nat => PyData.int (l.getD k 0)) = Ls l := by
        unfold Ls
        apply List.ext_getElem?
        intro q
        by_cases hq : q < l.length
        · rw [List.getElem?_map, List.getElem?_range hq, List.getElem?_map, List.getElem?_eq_getElem hq]
          show some (PyData.int (l.getD q 0)) = _
          rw [List.getD_eq_getElem?_getD, List.getElem?_eq_getElem hq]
          rfl
        · rw [List.getElem?_eq_none (by rw [List.length_map, List.length_range]; omega), List.getElem?_eq_none (by rw [List.length_map]; omega)]
      rw [e]
      exact div_l (dv_var hi)) hz (fun k _ N q => dgw_name (by simp) q) (fun k _ => ht _ _ (List.getElem?_set_self (by rw [wipeS_len]; exact hj))) (fun k _ _ => dv_var (List.getElem?_set_self (by rw [wipeS_len]; exact hj)))
  have e2 : ((List.range l.length).filter fun k => c (l.getD k 0)).map (fun k : Nat => PyData.int (l.getD k 0)) = Ls (((List.range l.length).filter fun k => c (l.getD k 0)).map fun k => l.getD k 0) := by
    unfold Ls
    rw [List.map_map]
    rfl
  rw [e2] at m
  refine DV.to (dv_op m (dv_lst (xs := []) da_nil (Nat.zero_le _)) (rd_neD (ints_lay _) nil_lay)) ?_
  rw [eqv_nil]
  congr 1
  cases ha : l.any c with
  | true =>
    obtain ⟨z, hz1, hz2⟩ := List.any_eq_true.mp ha
    obtain ⟨k, hk⟩ := List.mem_iff_getElem?.mp hz1
    have hkl : k < l.length := (List.getElem?_eq_some_iff.mp hk).1
    have e : l.getD k 0 = z := by rw [List.getD_eq_getElem?_getD, hk]; rfl
    have hm := List.mem_map_of_mem (f := fun k => l.getD k 0) (List.mem_filter (p := fun k => c (l.getD k 0)).mpr ⟨List.mem_range.mpr hkl, (by rw [e]; exact hz2 : c (l.getD k 0) = true)⟩)
    cases hh : ((List.range l.length).filter fun k => c (l.getD k 0)).map fun k => l.getD k 0 with
    | nil => rw [hh] at hm; exact absurd hm (by simp)
    | cons a b => rfl
  | false =>
    have hh : (List.range l.length).filter (fun k => c (l.getD k 0)) = [] := List.filter_eq_nil_iff.mpr fun k hk => by
      have hkl := List.mem_range.mp hk
      have hm : l.getD k 0 ∈ l := by
        rw [List.getD_eq_getElem?_getD, List.getElem?_eq_getElem hkl]
        exact List.getElem_mem hkl
      have := (List.any_eq_false.mp ha) _ hm
      simpa using this
    rw [hh]
    rfl
def q_law_turn (ds : List PD) (d : PD) : Prop := ∃ (net : Net) (most : Int) (k : Kd) (ps : List Rl), okN net most ∧ okR net.1.length (.node k ps) ∧ dep (.node k ps) ≤ 4 ∧ ds = [encN net, enc (.node k ps)] ∧ d = .int (turn net k ps)
theorem entries_len (ws : List Int) (lo hi : Int) : (entries ws lo hi).length ≤ ws.length := by
  unfold entries
  rw [List.length_map]
  exact Nat.le_trans (List.length_filter_le _ _) (by rw [List.length_range]; exact Nat.le_refl _)
theorem r_law_turn {K : PySem.W.Frag} {w : World} (G H : Hp) (ds : List PD) (d : PD) (h : q_law_turn ds d) : DS (W0 K G H) (t_law_turn K w (spF (q_law_range 4)) (spF q_law_entries)) (ds.map Sl.d ++ List.replicate (n_law_turn.length - p_law_turn.length) Sl.no) No (fun z => z = d) No No := by
  obtain ⟨net, most, k, ps, o, ho, hd, rfl, rfl⟩ := h
  unfold t_law_turn
  have e0 : ∀ (a b c d e f g h : Sl), ([Sl.d (encN net), .d (enc (.node k ps)), a, b, c, d, e, f, g, h] : List Sl)[1]? = some (Sl.d (.tuple (.str (wd k) :: tl k (encs ps)))) := fun _ _ _ _ _ _ _ _ => by rw [enc_node]; rfl
  have plain : wd k ≠ "from" → wd k ≠ "bar" → wd k ≠ "row" → turn net k ps = 1 → DS (W0 K G H) (t_law_turn K w (spF (q_law_range 4)) (spF q_law_entries)) [Sl.d (encN net), .d (enc (.node k ps)), .no, .no, .no, .no, .no, .no, .no, .no] No (fun z => z = .int (turn net k ps)) No No := by
    intro h1 h2 h3 ht
    rw [ht]
    refine ds_seq (ds_if (b := false) (dt_or (a := false) (b := false) (DTv.to (dt_name (e0 _ _ _ _ _ _ _ _)) (decide_eq_false h1)) (fun _ => dt_and (a := false) (b := false) (DTv.to (dt_name (e0 _ _ _ _ _ _ _ _)) (decide_eq_false h2)) (fun z => nomatch z) (fun _ => rfl))) (fun z => nomatch z) fun _ => ds_next ?_)
    exact ds_seq (ds_if (b := true) (dt_test (DV.to (dv_op (dv_at (dv_var (e0 _ _ _ _ _ _ _ _)) at0) dv_str rd_neS) (by rw [decide_eq_false h3]; rfl))) (fun _ => ds_rv dv_int) fun z => nomatch z)
  cases k with
  | least => exact plain (by decide) (by decide) (by decide) rfl
  | most => exact plain (by decide) (by decide) (by decide) rfl
  | add => exact plain (by decide) (by decide) (by decide) rfl
  | middle => exact plain (by decide) (by decide) (by decide) rfl
  | times _ => exact plain (by simp only [wd]; decide) (by simp only [wd]; decide) (by simp only [wd]; decide) rfl
  | part _ => exact plain (by simp only [wd]; decide) (by simp only [wd]; decide) (by simp only [wd]; decide) rfl
  | clip _ _ => exact plain (by simp only [wd]; decide) (by simp only [wd]; decide) (by simp only [wd]; decide) rfl
  | frm _ => exact ds_seq (ds_if (b := true) (dt_or (a := true) (b := true) (DTv.to (dt_name (e0 _ _ _ _ _ _ _ _)) (decide_eq_true rfl)) (fun z => nomatch z) (fun _ => rfl)) (fun _ => ds_rv (dv_un dv_int ru_neg)) fun z => nomatch z)
  | bar m lo hi =>
    refine ds_seq (ds_if (b := decide (hi < lo)) (dt_or (a := false) (b := decide (hi < lo)) (DTv.to (dt_name (e0 _ _ _ _ _ _ _ _)) (decide_eq_false (by simp only [wd]; decide))) (fun _ => dt_and (a := true) (DTv.to (dt_name (e0 _ _ _ _ _ _ _ _)) (decide_eq_true rfl)) (fun _ => dt_test (dv_op (dv_at (dv_var rfl) at2) (dv_at (dv_var rfl) at3) rd_gt)) (fun z => nomatch z))) (fun e => ?_) fun e => ds_next ?_)
    · have e2 := of_decide_eq_true e
      have et : turn net (.bar m lo hi) ps = -1 := if_pos e2
      rw [et]
      exact ds_rv (dv_un dv_int ru_neg)
    · have e2 := of_decide_eq_false e
      have et : turn net (.bar m lo hi) ps = 1 := if_neg e2
      rw [et]
      exact ds_seq (ds_if (b := true) (dt_test (DV.to (dv_op (dv_at (dv_var (e0 _ _ _ _ _ _ _ _)) at0) dv_str rd_neS) (congrArg PyData.bool (show (!decide (("bar" : Str) = "row")) = true by decide)))) (fun _ => ds_rv dv_int) fun z => nomatch z)
  | row ws =>
    obtain ⟨⟨hl1, a, b, c⟩, ho2⟩ := ho
    obtain ⟨p, rfl⟩ := len1 hl1
    have hd2 := parts_dep (r := .node (.row ws) [p]) (p := p) (by simp [parts])
    refine ds_seq (ds_if (b := false) (dt_or (a := false) (b := false) (DTv.to (dt_name (e0 _ _ _ _ _ _ _ _)) (decide_eq_false (by simp only [wd]; decide))) (fun _ => dt_and (a := false) (b := false) (DTv.to (dt_name (e0 _ _ _ _ _ _ _ _)) (decide_eq_false (by simp only [wd]; decide))) (fun z => nomatch z) (fun _ => rfl))) (fun z => nomatch z) fun _ => ds_next ?_)
    refine ds_seq (ds_if (b := false) (dt_test (DV.to (dv_op (dv_at (dv_var (e0 _ _ _ _ _ _ _ _)) at0) dv_str rd_neS) (congrArg PyData.bool (show (!decide (("row" : Str) = "row")) = false by decide)))) (fun z => nomatch z) fun _ => ds_next ?_)
    refine ds_seq (ds_asgG (P := fun z => z = encP (rangeR net p)) (dv_call (dav_cons (dv_var rfl) (dav_cons (dv_at (dv_var rfl) at2) da_nil)) ⟨net, most, p, o, ho2.1, by omega, rfl, rfl⟩) fun z e => e ▸ dg_tup2 ?_)
    have et : turn net (.row ws) [p] = turnRow (entries ws (rangeR net p).1 (rangeR net p).2) := rfl
    rw [et]
    have hel := entries_len ws (rangeR net p).1 (rangeR net p).2
    refine ds_seq (ds_asg (P := fun z => z = .list (Ls (entries ws (rangeR net p).1 (rangeR net p).2))) (dv_call (dav_cons (dv_at (dv_var rfl) at1) (dav_cons (dv_var rfl) (dav_cons (dv_var rfl) da_nil))) ⟨ws, (rangeR net p).1, (rangeR net p).2, by omega, rfl, rfl⟩) fun z e => ?_)
    subst e
    generalize entries ws (rangeR net p).1 (rangeR net p).2 = l at *
    have st := dv_filtR (W := W0 K G H) (Γ := [Sl.d (encN net), .d (enc (.node (.row ws) [p])), .d (.int (rangeR net p).1), .d (.int (rangeR net p).2), .d (.list (Ls l)), .no, .no, .no, .no, .no]) (wi := iRng2 (tCons (tC (.int 1)) (tCons (tCB (rLenQ K) (tCons (tVar 4) tNil)) tNil))) (n := l.length - 1) (X := fun k : Nat => .int (1 + (k : Int)))
      (Γx := fun k : Nat => [Sl.d (encN net), .d (enc (.node (.row ws) [p])), .d (.int (rangeR net p).1), .d (.int (rangeR net p).2), .d (.list (Ls l)), .no, .no, .no, .d (.int (1 + (k : Int))), .no]) (c := fun _ => true) (f := fun k : Nat => .int (l.getD (k + 1) 0 - l.getD k 0)) (vs := [8]) (g := gName 8) (tt := tYes) (te := tOp qSub (tOp (rIxL K) (tVar 4) (tVar 8)) (tOp (rIxL K) (tVar 4) (tOp qSub (tVar 8) (tC (.int 1)))))
      (by
        have e : (((Ls l).length : Nat) : Int) - 1 = (((Ls l).length : Nat) : Int) - 1 := rfl
        have e2 : ((((Ls l).length : Nat) : Int) - 1).toNat = l.length - 1 := by rw [Ls_len]; omega
        have := div_r2 (W := W0 K G H) (Γ := [Sl.d (encN net), .d (enc (.node (.row ws) [p])), .d (.int (rangeR net p).1), .d (.int (rangeR net p).2), .d (.list (Ls l)), .no, .no, .no, .no, .no]) (i := 1) dv_int (dv_lenL (K := K) (dv_var (i := 4) rfl)) (by omega) (by rw [Ls_len]; omega)
        rw [e2] at this
        exact this) (by omega) (fun k _ N q => dgw_name (by simp) q) (fun k _ => dt_yes) (fun k hk _ => dv_op (dv_op (dv_var rfl) (dv_var rfl) (rd_ixL (by
          rw [row_at (ws := l) (by omega) (by omega)]
          congr 2
          have : (1 + (k : Int)).toNat = k + 1 := by omega
          rw [this]))) (dv_op (dv_var rfl) (dv_op (dv_var rfl) dv_int rd_sub) (rd_ixL (by
          rw [row_at (ws := l) (by omega) (by omega)]
          congr 2
          have : (1 + (k : Int) - 1).toNat = k := by omega
          rw [this]))) rd_sub)
    have es : ((List.range (l.length - 1)).filter fun _ => true).map (fun k : Nat => PyData.int (l.getD (k + 1) 0 - l.getD k 0)) = Ls (steps l) := by
      rw [filt_true]
      unfold Ls steps
      rw [List.map_map]
      rfl
    rw [es] at st
    refine ds_seq (ds_asg (P := fun z => z = _) st fun z e => ?_)
    subst e
    refine ds_seq (ds_par (P1 := fun q => q = [.bool ((steps l).any fun z => decide (0 < z)), .bool ((steps l).any fun z => decide (z < 0))]) (dav_cons (dv_any rfl (by rw [steps_len]; omega) (show 9 < 10 by decide) fun Γ2 z hz => dt_test (dv_op (dv_var hz) dv_int rd_gt)) (dav_cons (dv_any rfl (by rw [steps_len]; omega) (show 9 < 10 by decide) fun Γ2 z hz => dt_test (dv_op (dv_var hz) dv_int rd_lt)) da_nil)) fun q e => ⟨_, _, e, ?_⟩)
    refine ds_rv (DV.to (dv_if2 (dt_and2 (dt_B (dv_var rfl)) (dt_B (dv_var rfl))) dv_int (dv_if2 (dt_B (dv_var rfl)) (dv_un dv_int ru_neg) dv_int)) ?_)
    unfold turnRow
    split
    · rfl
    · split <;> rfl
theorem turn_small (net : Net) (k : Kd) (ps : List Rl) : -1 ≤ turn net k ps ∧ turn net k ps ≤ 1 := by
  cases k with
  | bar m lo hi =>
    show -1 ≤ (if hi < lo then (-1 : Int) else 1) ∧ (if hi < lo then (-1 : Int) else 1) ≤ 1
    split <;> omega
  | row ws =>
    show -1 ≤ turnRow _ ∧ turnRow _ ≤ 1
    unfold turnRow
    split
    · omega
    · split <;> omega
  | frm _ => exact ⟨Int.le_refl _, by show (-1 : Int) ≤ 1; decide⟩
  | _ => exact ⟨by show (-1 : Int) ≤ 1; decide, Int.le_refl _⟩
theorem mul_small {a b : Int} (h1 : -1 ≤ a ∧ a ≤ 1) (h2 : -1 ≤ b ∧ b ≤ 1) : -1 ≤ a * b ∧ a * b ≤ 1 := by
  have ha : a = -1 ∨ a = 0 ∨ a = 1 := by omega
  have hb : b = -1 ∨ b = 0 ∨ b = 1 := by omega
  rcases ha with rfl | rfl | rfl <;> rcases hb with rfl | rfl | rfl <;> decide
def Ss (l : List Str) : List PD := l.map PyData.str
def q_law_words (m : Nat) (ds : List PD) (d : PD) : Prop := ∃ (net : Net) (most : Int) (r : Rl) (b : Bool) (s : Int), okN net most ∧ okR net.1.length r ∧ dep r ≤ m ∧ m ≤ 4 ∧ (brs r).length ≤ 1000 ∧ -1 ≤ s ∧ s ≤ 1 ∧ ds = [encN net, enc r, .bool b, .int s] ∧ d = .list (Ss (words net r b s))
theorem wordss_take {net : Net} {ps : List Rl} {i : Nat} {p : Rl} {b : Bool} {s : Int} (h : ps[i]? = some p) : wordss net (ps.take (i + 1)) b s = wordss net (ps.take i) b s ++ words net p b s := by
  induction ps generalizing i with
  | nil => simp at h
  | cons q ps ih =>
    cases i with
    | zero =>
      have e : q = p := Option.some.inj h
      subst e
      simp [wordss]
    | succ i =>
      have e : ps[i]? = some p := h
      rw [List.take_succ_cons, List.take_succ_cons]
      show words net q b s ++ wordss net (ps.take (i + 1)) b s = (words net q b s ++ wordss net (ps.take i) b s) ++ words net p b s
      rw [ih e, List.append_assoc]
theorem Ss_len (l : List Str) : (Ss l).length = l.length := List.length_map _
def turnOf (net : Net) : Rl → Int
  | .node k ps => turn net k ps
  | _ => 1
theorem or_eqI {a b : Int} {k : Bool} : (k || decide (a = b)) = (k || decide (a = b)) := rfl
theorem r_law_words {K : PySem.W.Frag} {w : World} (m : Nat) (G H : Hp) (ds : List PD) (d : PD) (h : q_law_words (m + 1) ds d) : DS (W0 K G H) (t_law_words K w (spF (q_law_range 4)) (spF q_law_parts) (spF (q_law_words m)) (spF q_law_turn)) (ds.map Sl.d ++ List.replicate (n_law_words.length - p_law_words.length) Sl.no) No (fun z => z = d) No No := by
  obtain ⟨net, most, r, b, s, o, ho, hd, hm4, hl, hs1, hs2, rfl, rfl⟩ := h
  unfold t_law_words
  refine ds_seq (ds_asgG (P := fun z => z = encP (rangeR net r)) (dv_call (dav_cons (dv_var rfl) (dav_cons (dv_var rfl) da_nil)) ⟨net, most, r, o, ho, by omega, rfl, rfl⟩) fun z e => e ▸ dg_tup2 ?_)
  refine ds_seq (ds_asg (P := fun z => z = .bool (b || decide ((rangeR net r).1 = (rangeR net r).2))) (dv_orV2 (dv_var rfl) (dv_op (dv_var rfl) (dv_var rfl) rd_eqI)) fun z e => ?_)
  subst e
  have rest : ∀ (t1 : TS) st l, enc r = .tuple (.str st :: l) → st ≠ "hear" → words net r b s = wordss net (parts r) (b || decide ((rangeR net r).1 = (rangeR net r).2)) (s * turnOf net r) → DS (W0 K G H) (tSeq (tIfS (tTest (tOp rEq (tOp (rIxT K) (tVar 1) (tC (.int 0))) (tC (.str "hear")))) t1 tNext) (tSeq (tAsg (tLst tNil) (gName 6)) (tSeq (tFor (iList K (tCall (spF q_law_parts) [] E0 (tCons (tVar 1) tNil))) (gName 7) (tAsg (tOp rCat (tVar 6) (tCall (spF (q_law_words m)) [] E0 (tCons (tVar 0) (tCons (tVar 7) (tCons (tVar 2) (tCons (tOp qMul (tVar 3) (tCall (spF q_law_turn) [] E0 (tCons (tVar 0) (tCons (tVar 1) tNil)))) tNil)))))) (gName 6))) (tRet (tVar 6))))) [Sl.d (encN net), .d (enc r), .d (.bool (b || decide ((rangeR net r).1 = (rangeR net r).2))), .d (.int s), .d (.int (rangeR net r).1), .d (.int (rangeR net r).2), .no, .no] No (fun z => z = .list (Ss (words net r b s))) No No := by
    intro t1 st l e ne ew
    have e1 : ([Sl.d (encN net), .d (enc r), .d (.bool (b || decide ((rangeR net r).1 = (rangeR net r).2))), .d (.int s), .d (.int (rangeR net r).1), .d (.int (rangeR net r).2), .no, .no] : List Sl)[1]? = some (Sl.d (.tuple (.str st :: l))) := by rw [e]; rfl
    refine ds_nF e1 ne (ds_seq (ds_asg (P := fun z => z = .list []) (dv_lst (xs := []) da_nil (Nat.zero_le _)) fun z e => ?_))
    subst e
    refine ds_seq (ds_forv (div_l (dv_call (x := .list (encs (parts r))) (dav_cons (dv_var rfl) da_nil) ⟨_, r, ho, rfl, rfl⟩)) (fun i Γ => ∃ a, Γ = [Sl.d (encN net), .d (enc r), .d (.bool (b || decide ((rangeR net r).1 = (rangeR net r).2))), .d (.int s), .d (.int (rangeR net r).1), .d (.int (rangeR net r).2), .d (.list (Ss (wordss net ((parts r).take i) (b || decide ((rangeR net r).1 = (rangeR net r).2)) (s * turnOf net r)))), a]) ⟨_, by rw [List.take_zero]; rfl⟩ ?_ ?_)
    · rintro i x Γ' hx ⟨a, rfl⟩
      obtain ⟨p, hp, rfl⟩ := encs_get hx
      have hm := List.mem_of_getElem? hp
      have hb := brs_mem_le hm
      have h2 := brss_len_le (ps := parts r) i
      have hd2 := parts_dep hm
      cases r with
      | is v => exact absurd hm (by simp [parts])
      | hear j => exact absurd hm (by simp [parts])
      | node k ps =>
        have h3 : (brss ps).length ≤ 1000 := hl
        have ts := turn_small net k ps
        have ms := mul_small ⟨hs1, hs2⟩ ts
        have hb' : (brs p).length ≤ (brss ps).length := hb
        have h2' : (brss (ps.take i)).length ≤ (brss ps).length := h2
        refine dg_name (ds_asg (P := fun z => z = _) (dv_op (dv_var rfl) (dv_call (x := .list (Ss (words net p (b || decide ((rangeR net (.node k ps)).1 = (rangeR net (.node k ps)).2)) (s * turn net k ps)))) (dav_cons (dv_var rfl) (dav_cons (dv_var rfl) (dav_cons (dv_var rfl) (dav_cons (dv_op (dv_var rfl) (dv_call (x := .int (turn net k ps)) (dav_cons (dv_var rfl) (dav_cons (dv_var rfl) da_nil)) ⟨net, most, k, ps, o, ho, by omega, rfl, rfl⟩) (rd_mul (.inl ⟨by omega, by omega⟩))) da_nil)))) ⟨net, most, p, _, _, o, okRs_mem ho.2 hm, by omega, by omega, by omega, ms.1, ms.2, rfl, rfl⟩) (rd_cat (by
          rw [Ss_len, Ss_len, wordss_len, words_len]
          show (brss (ps.take i)).length + (brs p).length ≤ 100000
          omega))) fun z e => ?_)
        subst e
        refine ⟨.d (enc p), ?_⟩
        rw [wordss_take hp]
        unfold Ss
        rw [List.map_append]
        rfl
    · rintro Γ' ⟨a, rfl⟩
      have e2 : (parts r).take (encs (parts r)).length = parts r := by rw [encs_len, List.take_length]
      rw [e2, ← ew]
      exact ds_rv (dv_var rfl)
  cases r with
  | is v => exact rest _ _ _ rfl (by decide) rfl
  | hear j =>
    refine ds_nT rfl rfl (ds_rv (dv_lst (xs := Ss (words net (.hear j) b s)) (dav_cons (DV.to (dv_if2 (dt_B (dv_var rfl)) dv_str (dv_if2 (dt_test (dv_op (dv_var rfl) dv_int rd_eqI)) dv_str (dv_if2 (dt_test (dv_op (dv_var rfl) dv_int rd_lt)) dv_str dv_str))) ?_) da_nil) (Nat.le_of_ble_eq_true rfl)))
    simp only [decide_eq_true_eq]
    by_cases q1 : (b || decide ((rangeR net (.hear j)).1 = (rangeR net (.hear j)).2)) = true
    · rw [if_pos q1, if_pos q1]
    · rw [if_neg q1, if_neg q1]
      by_cases q2 : s = 0
      · rw [if_pos q2, if_pos q2]
      · rw [if_neg q2, if_neg q2]
        by_cases q3 : s < 0
        · rw [if_pos q3, if_pos q3]
        · rw [if_neg q3, if_neg q3]
  | node k ps => exact rest _ _ _ (enc_node k ps) (wd_hear k) rfl
def q_law_ways (ds : List PD) (d : PD) : Prop := ∃ (net : Net) (i : Nat), okB net ∧ i < net.1.length ∧ ds = [encN net, .int (i : Int)] ∧ d = .list (Ss (ways net i))
theorem r_law_ways {K : PySem.W.Frag} {w : World} (G H : Hp) (ds : List PD) (d : PD) (h : q_law_ways ds d) : DS (W0 K G H) (t_law_ways K w (spF (q_law_range 4)) (spF (q_law_words 4))) (ds.map Sl.d ++ List.replicate (n_law_ways.length - p_law_ways.length) Sl.no) No (fun z => z = d) No No := by
  obtain ⟨net, i, B, hi, rfl, rfl⟩ := h
  have hi2 : i < net.2.length := by rw [B.ok.len]; exact hi
  obtain ⟨r1, r2⟩ := okN_rl B.ok hi2
  have hb := B.brs i hi
  unfold t_law_ways
  refine ds_seq (ds_asgG (P := fun z => z = encP (rangeR net (rl net i))) (dv_call (dav_cons (dv_var rfl) (dav_cons (dv_rule (dv_var rfl) (dv_var rfl) hi2) da_nil)) ⟨net, 60, rl net i, B.ok, r1, r2, rfl, rfl⟩) fun z e => e ▸ dg_tup2 ?_)
  exact ds_rv (dv_call (dav_cons (dv_var rfl) (dav_cons (dv_rule (dv_var rfl) (dv_var rfl) hi2) (dav_cons (dv_op (dv_cb (dav_cons (dv_var rfl) (dav_cons (dv_top (dv_var rfl) (dv_var rfl) hi) da_nil)) rc_min2) (dv_cb (dav_cons (dv_var rfl) (dav_cons (dv_top (dv_var rfl) (dv_var rfl) hi) da_nil)) rc_min2) rd_eqI) (dav_cons dv_int da_nil)))) ⟨net, 60, rl net i, still0 net i, 1, B.ok, r1, r2, Nat.le_refl 4, by omega, by omega, by omega, rfl, rfl⟩)
def oneWay (net : Net) : Bool := (List.range net.1.length).all fun i => !decide (("both" : Str) ∈ ways net i)
def q_law_one_way (ds : List PD) (d : PD) : Prop := ∃ net : Net, okB net ∧ ds = [encN net] ∧ d = .bool (oneWay net)
theorem r_law_one_way {K : PySem.W.Frag} {w : World} (G H : Hp) (ds : List PD) (d : PD) (h : q_law_one_way ds d) : DS (W0 K G H) (t_law_one_way K w (spF q_law_ways)) (ds.map Sl.d ++ List.replicate (n_law_one_way.length - p_law_one_way.length) Sl.no) No (fun z => z = d) No No := by
  obtain ⟨net, B, rfl, rfl⟩ := h
  have hf := B.ok.few
  have e1 : (((Ls net.1).length : Nat) : Int).toNat = net.1.length := by rw [Ls_len]; simp
  unfold t_law_one_way
  refine ds_seq (ds_forv (xs := rng 0 net.1.length) (e1 ▸ div_r1 (dv_lenT (dv_at (dv_var rfl) at0)) (by omega) (by rw [Ls_len]; omega)) (fun i Γ => (∀ j, j < i → ¬ ("both" : Str) ∈ ways net j) ∧ ∃ a, Γ = [Sl.d (encN net), a]) ⟨fun j hj => absurd hj (Nat.not_lt_zero j), _, rfl⟩ ?_ ?_)
  · rintro i x Γ' hx ⟨hs, a, rfl⟩
    obtain ⟨hi, rfl⟩ := rng_get hx
    rw [Int.zero_add]
    refine dg_name (ds_if (dt_test (dv_op dv_str (dv_call (x := .list (Ss (ways net i))) (dav_cons (dv_var rfl) (dav_cons (dv_var rfl) da_nil)) ⟨net, i, B, hi, rfl, rfl⟩) (rd_inL rfl))) (fun e => ds_ret (P := fun z => z = .bool false) dv_bl fun z ez => ?_) fun e => ds_next ⟨fun j hj => ?_, _, rfl⟩)
    · subst ez
      have e2 := of_decide_eq_true e
      congr 1
      unfold oneWay
      symm
      rw [List.all_eq_false]
      exact ⟨i, List.mem_range.mpr hi, by rw [decide_eq_true e2]; simp⟩
    · have e2 := of_decide_eq_false e
      by_cases q : j = i
      · subst q; exact e2
      · exact hs j (by omega)
  · rintro Γ' ⟨hs, a, rfl⟩
    refine ds_ret (P := fun z => z = .bool true) dv_bl fun z ez => ?_
    subst ez
    congr 1
    unfold oneWay
    symm
    rw [List.all_eq_true]
    intro i hi
    rw [rng_len] at hs
    rw [decide_eq_false (hs i (List.mem_range.mp hi))]
    rfl
/-! ### the doubled round -/
def pick (lo hi : List Int) : List Str → List Nat → List Int
  | w :: ws, b :: bs => (if w = "falls" then hi.getD b 0 else lo.getD b 0) :: pick lo hi ws bs
  | _, _ => []
theorem pick_len {lo hi : List Int} : ∀ {ws : List Str} {bs : List Nat}, ws.length = bs.length → (pick lo hi ws bs).length = bs.length
  | [], [], _ => rfl
  | [], _ :: _, h => by simp at h
  | _ :: _, [], h => by simp at h
  | w :: ws, b :: bs, h => congrArg (· + 1) (pick_len (Nat.succ.inj h))
theorem pick_take {lo hi : List Int} : ∀ {ws : List Str} {bs : List Nat} {j : Nat} {w : Str} {b : Nat}, ws[j]? = some w → bs[j]? = some b → pick lo hi (ws.take (j + 1)) (bs.take (j + 1)) = pick lo hi (ws.take j) (bs.take j) ++ [if w = "falls" then hi.getD b 0 else lo.getD b 0]
  | [], _, _, _, _, h, _ => by simp at h
  | _ :: _, [], _, _, _, _, h => by simp at h
  | v :: ws, c :: bs, 0, w, b, h, h2 => by
    cases h
    cases h2
    simp [pick]
  | v :: ws, c :: bs, j + 1, w, b, h, h2 => by
    have ih := pick_take (lo := lo) (hi := hi) (ws := ws) (bs := bs) (j := j) (w := w) (b := b) h h2
    simp only [List.take_succ_cons, pick, ih, List.cons_append]
theorem pick_nn {lo hi : List Int} (h1 : ∀ z ∈ lo, 0 ≤ z) (h2 : ∀ z ∈ hi, 0 ≤ z) : ∀ {ws : List Str} {bs : List Nat}, ∀ z ∈ pick lo hi ws bs, 0 ≤ z
  | w :: ws, b :: bs, z, hz => by
    rcases List.mem_cons.mp hz with e | e
    · rw [e]
      split
      · exact getD_nn h2 b
      · exact getD_nn h1 b
    · exact pick_nn h1 h2 (ws := ws) (bs := bs) z e
  | [], _, z, hz => by simp [pick] at hz
  | _ :: _, [], z, hz => by simp [pick] at hz
def dbl (net : Net) (lo hi : List Int) : List Int := (List.range net.1.length).map fun i => want net i (pick lo hi (ways net i) (brs (rl net i)))
theorem dbl_take (net : Net) (lo hi : List Int) (i : Nat) (h : i < net.1.length) : (dbl net lo hi).take (i + 1) = (dbl net lo hi).take i ++ [want net i (pick lo hi (ways net i) (brs (rl net i)))] := by
  rw [List.take_add_one]
  congr 1
  unfold dbl
  rw [List.getElem?_map, List.getElem?_range h]
  rfl
theorem dbl_len (net : Net) (lo hi : List Int) : (dbl net lo hi).length = net.1.length := by
  unfold dbl
  rw [List.length_map, List.length_range]
def q_law_doubled (ds : List PD) (d : PD) : Prop := ∃ (net : Net) (lo hi : List Int), okB net ∧ lo.length = net.1.length ∧ hi.length = net.1.length ∧ (∀ z ∈ lo, 0 ≤ z) ∧ (∀ z ∈ hi, 0 ≤ z) ∧ ds = [encN net, .tuple [encT lo, encT hi]] ∧ d = .tuple [encT (dbl net lo hi), encT (dbl net hi lo)]
theorem r_law_doubled {K : PySem.W.Frag} {w : World} (G H : Hp) (ds : List PD) (d : PD) (h : q_law_doubled ds d) : DS (W0 K G H) (t_law_doubled K w (spF q_law_ways) (spF (q_law_branches 4)) (spF q_law_wants)) (ds.map Sl.d ++ List.replicate (n_law_doubled.length - p_law_doubled.length) Sl.no) No (fun z => z = d) No No := by
  obtain ⟨net, lo, hi, B, hlo, hhi, nlo, nhi, rfl, rfl⟩ := h
  have hf := B.ok.few
  have e1 : (((Ls net.1).length : Nat) : Int).toNat = net.1.length := by rw [Ls_len]; simp
  unfold t_law_doubled
  refine ds_seq (ds_parOO (by decide) ?_)
  refine ds_seq (ds_forv (xs := rng 0 net.1.length) (e1 ▸ div_r1 (dv_lenT (dv_at (dv_var rfl) at0)) (by omega) (by rw [Ls_len]; omega)) (fun i Γ => ∃ a b c e f, Γ = [Sl.d (encN net), .d (.tuple [encT lo, encT hi]), .l (Ls ((dbl net lo hi).take i)), .l (Ls ((dbl net hi lo).take i)), a, b, c, e, f]) ⟨_, _, _, _, _, rfl⟩ ?_ ?_)
  · rintro i x Γ' hx ⟨a, b, c, e, f, rfl⟩
    obtain ⟨hi1, rfl⟩ := rng_get hx
    rw [Int.zero_add]
    have hi2 : i < net.2.length := by rw [B.ok.len]; exact hi1
    obtain ⟨r1, r2⟩ := okN_rl B.ok hi2
    have hbr := B.brs i hi1
    have hwl : (ways net i).length = (brs (rl net i)).length := words_len net _ _ _
    have hbo := brs_ok _ r1
    refine dg_name (ds_seq (ds_parOO (by decide) ?_))
    refine ds_seq (ds_forv (div_z (dv_call (x := .list (Ss (ways net i))) (dav_cons (dv_var rfl) (dav_cons (dv_var rfl) da_nil)) ⟨net, i, B, hi1, rfl, rfl⟩) (dv_call (x := .list (Ns (brs (rl net i)))) (dav_cons (dv_rule (dv_var rfl) (dv_var rfl) hi2) da_nil) ⟨_, rl net i, r1, r2, by omega, rfl, rfl⟩)) (fun j Γ => ∃ e f, Γ = [Sl.d (encN net), .d (.tuple [encT lo, encT hi]), .l (Ls ((dbl net lo hi).take i)), .l (Ls ((dbl net hi lo).take i)), .d (.int (i : Int)), .l (Ls (pick lo hi ((ways net i).take j) ((brs (rl net i)).take j))), .l (Ls (pick hi lo ((ways net i).take j) ((brs (rl net i)).take j))), e, f]) ⟨_, _, rfl⟩ ?_ ?_)
    · rintro j y Γ2 hy ⟨e2, f2, rfl⟩
      obtain ⟨u, v, h1, h2, rfl⟩ := pairs_get hy
      unfold Ss at h1
      unfold Ns at h2
      rw [List.getElem?_map] at h1 h2
      cases hw : (ways net i)[j]? with
      | none => rw [hw] at h1; cases h1
      | some wd' =>
        cases hb : (brs (rl net i))[j]? with
        | none => rw [hb] at h2; cases h2
        | some o =>
          rw [hw] at h1
          rw [hb] at h2
          cases h1
          cases h2
          have hob := hbo o (List.mem_of_getElem? hb)
          have hjl : j < (brs (rl net i)).length := (List.getElem?_eq_some_iff.mp hb).1
          have at_ : ∀ (Γ : List Sl), Γ[1]? = some (Sl.d (.tuple [encT lo, encT hi])) → Γ[8]? = some (Sl.d (.int (o : Int))) → DV (W0 K G H) (tOp (rIxT K) (tOp (rIxT K) (tVar 1) (tC (.int 1))) (tVar 8)) Γ (.int (hi.getD o 0)) ∧ DV (W0 K G H) (tOp (rIxT K) (tOp (rIxT K) (tVar 1) (tC (.int 0))) (tVar 8)) Γ (.int (lo.getD o 0)) := fun Γ h1 h8 =>
            ⟨dv_op (dv_at (dv_var h1) at1) (dv_var h8) (rd_ixT (row_at (ws := hi) (by omega) (by omega))), dv_op (dv_at (dv_var h1) at0) (dv_var h8) (rd_ixT (row_at (ws := lo) (by omega) (by omega)))⟩
          have lens : ∀ x y : List Int, (Ls (pick x y ((ways net i).take j) ((brs (rl net i)).take j))).length < 100000 := fun x y => by
            rw [Ls_len, pick_len (by rw [List.length_take, List.length_take, hwl]), List.length_take]
            omega
          refine dg_tup2 (ds_seq (ds_append (i := 5) (P := fun z => z = .int (if wd' = "falls" then hi.getD o 0 else lo.getD o 0)) rfl (DV.to (dv_if2 (dt_word rfl) (at_ _ rfl rfl).1 (at_ _ rfl rfl).2) ?_) (lens _ _) fun z ez => ?_))
          · simp only [decide_eq_true_eq]
            split <;> rfl
          · subst ez
            refine ds_append (i := 6) (P := fun z => z = .int (if wd' = "falls" then lo.getD o 0 else hi.getD o 0)) rfl (DV.to (dv_if2 (dt_word rfl) (at_ _ rfl rfl).2 (at_ _ rfl rfl).1) ?_) (lens _ _) fun z ez => ?_
            · simp only [decide_eq_true_eq]
              split <;> rfl
            · subst ez
              refine ⟨.d (.str wd'), .d (.int (o : Int)), ?_⟩
              rw [pick_take hw hb, pick_take hw hb]
              unfold Ls
              rw [List.map_append, List.map_append]
              rfl
    · rintro Γ2 ⟨e2, f2, rfl⟩
      have el : (pairs (Ss (ways net i)) (Ns (brs (rl net i)))).length = (brs (rl net i)).length := by rw [pairs_len, Ss_len, Ns_len, hwl, Nat.min_self]
      rw [el, List.take_length, ← hwl, List.take_length]
      have ro : ∀ x y : List Int, (∀ z ∈ x, 0 ≤ z) → (∀ z ∈ y, 0 ≤ z) → okRow net i (pick x y (ways net i) (brs (rl net i))) := fun x y hx hy => ⟨pick_len hwl, by rw [pick_len hwl]; omega, pick_nn hx hy⟩
      refine ds_freeze 5 rfl (ds_freeze 6 rfl (ds_seq (ds_append (i := 2) (P := fun z => z = .int (want net i (pick lo hi (ways net i) (brs (rl net i))))) rfl (dv_call (dav_cons (dv_var rfl) (dav_cons (dv_var rfl) (dav_cons (dv_var rfl) da_nil))) ⟨net, 60, i, _, _, B.ok, hi1, ro lo hi nlo nhi, .inr rfl, rfl, rfl⟩) (by rw [Ls_len, List.length_take, dbl_len]; omega) fun z ez => ?_)))
      subst ez
      refine ds_append (i := 3) (P := fun z => z = .int (want net i (pick hi lo (ways net i) (brs (rl net i))))) rfl (dv_call (dav_cons (dv_var rfl) (dav_cons (dv_var rfl) (dav_cons (dv_var rfl) da_nil))) ⟨net, 60, i, _, _, B.ok, hi1, ro hi lo nhi nlo, .inr rfl, rfl, rfl⟩) (by rw [Ls_len, List.length_take, dbl_len]; omega) fun z ez => ?_
      subst ez
      refine ⟨.d (.int (i : Int)), .d (.list (Ls (pick lo hi (ways net i) (brs (rl net i))))), .d (.list (Ls (pick hi lo (ways net i) (brs (rl net i))))), e2, f2, ?_⟩
      rw [dbl_take net lo hi i hi1, dbl_take net hi lo i hi1]
      unfold Ls
      rw [List.map_append, List.map_append]
      rfl
  · rintro Γ' ⟨a, b, c, e, f, rfl⟩
    have ea : (dbl net lo hi).take (rng 0 net.1.length).length = dbl net lo hi := by rw [rng_len, ← dbl_len net lo hi, List.take_length]
    have eb : (dbl net hi lo).take (rng 0 net.1.length).length = dbl net hi lo := by rw [rng_len, ← dbl_len net hi lo, List.take_length]
    rw [ea, eb]
    exact ds_freeze 2 rfl (ds_freeze 3 rfl (ds_rv (dv_tup (dav_cons (dv_cb (dav_cons (dv_var rfl) da_nil) rc_tupL) (dav_cons (dv_cb (dav_cons (dv_var rfl) da_nil) rc_tupL) da_nil)) (Nat.le_of_ble_eq_true rfl))))
end K24

set_option Elab.async false
set_option linter.all false
set_option maxRecDepth 100000
/-! K24Q: the class Refused: its __init__ keeps its promise. -/
namespace K24
open PySem PySem.Spec PyProof.Rows L2
open PySem.W (ksFn ksEnv kxs_mw Looks)
def initOf : Stmt → Stmt
  | .ClassDef _ _ _ (f :: _) _ _ _ _ _ _ _ => f
  | s => s
abbrev s_init : Stmt := initOf (top 2)
/-- what the top keeps of the class -/
structure RT (P : Program) (K : PySem.W.Frag) (mg : Str → Option Value) (C fI cc cda : Addr) (fd : FuncData) : Prop where
  gC : mg "Refused" = some (.ref C)
  oex : OexC K C
  iC : PySem.W.findIn K (.ref C) "__init__" = some (some (.ref fI))
  tI : PySem.W.typeIn K (.ref fI) = some (.type "function")
  noat : PySem.W.findIn K (.ref C) "at" = some none
  fn : ∃ (oc : Value) (od : Option Addr) (kV doc pm : Value) (an : Option Addr) (ct : Value) (osl : Array (Option Value)),
    fd = ksFn "__init__" "Refused.__init__" (defArgs s_init) (defBody s_init) (defScope s_init) .none kV doc pm an (.ref cda) ct cc ∧ K.lookup fI = some ⟨oc, od, .func fd, osl⟩
  code : PySem.W.codeIn K (.ref cda) "Refused.__init__" = true
  rec_ : ∃ (ccl : Value) (cdd : Option Addr) (vs : Array Value) (ccs : Array (Option Value)) (file : Str) (tf : Tok), K.lookup cda = some ⟨ccl, cdd, .fields vs, ccs⟩ ∧ vs[2]? = some (.str file tf) ∧ ((P.main.file : Str) == file) = true
  cell : ∃ (cl : Value) (cld : Option Addr) (csl : Array (Option Value)), K.lookup cc = some ⟨cl, cld, .cell (some (.ref C)), csl⟩
  self_ : PySem.W.mroIn K C (.ref C) = some true
  ve : PySem.W.subIn K (.ref C) (.type "ValueError") = some true
  nosup : mg "super" = none
  opq : PySem.W.nsIn K cStatics "thirdparty.any" = some none
  along : ∀ cd, PySem.W.clsIn K C = some cd → PySem.W.alongIn K "__init__" ((cd.mro.dropWhile (· != .ref C)).drop 1) = some (some (.builtin "ValueError.__init__"))
  top : (P.main.scope.names.lookup ("super" : Str)).isSome = false
  xf : XfC K C
  te : PySem.W.exmOne K (.ref C) (.ref C) = some true
/-- the bound built-in __init__ called -/
theorem call_mw {P : Program} {w : World} {A : Around} {E : Value → Shared → Prop} {h : Heap} {g : Array GenState} {d : Drawn} {tk : Nat} {os : OsState} {nm q : Str} {C N : Addr} {bs bm : List Value} {hdct : Bool} {sn : List Str} {sub : List Value} {ab : Bool} {col : Option Bool} {dd : Option Addr} {k0 k1 k2 k3 k5 : Option Value}
    {u e t0 : Addr} {rest : List Value} {Q : Value → Shared → Prop} (hC : h.get? C = some (excClassObj nm q C N bs bm hdct sn sub ab col dd k0 k1 k2 k3 k5 "ValueError.__new__")) (he : h.get? e = some (PySem.W.excObj C t0 none .none)) (hu : h.get? u = some (kxs_mw "ValueError.__init__" e)) (hz : rest.length ≤ sizeLine)
    (k : ∀ h' t1, (∀ b o, b ≠ e → h.get? b = some o → h'.get? b = some o) → h'.get? e = some (PySem.W.excObj C t1 none .none) → Q .none ⟨h', g, d, tk, os⟩) : wpAny (model P w) A (call (.ref u) rest) Q E ⟨h, g, d, tk, os⟩ := by
  refine wpAny_call (codeAny_of_tree ?_)
  show wpAny _ A.in1 (callAny (.ref u) ⟨rest, []⟩) _ _ _
  simp only [callAny]
  refine wpAny_bind (wpAny_load hu ?_)
  have m1 : (Value.type "method-wrapper" == Value.type "method" || Value.type "method-wrapper" == Value.type "builtin_function_or_method" || Value.type "method-wrapper" == Value.type "method-wrapper") = true := by decide
  simp only [kxs_mw, m1, if_true]
  refine PySem.W.KFB.if_so (by decide) ?_
  refine wpAny_bind (PySem.W.check_bound_init F.excBase_ValueError.toExcCallFacts hC he rfl ?_)
  refine wpAny_bind (wpAny_pure (wpAny_pure ?_))
  refine ⟨plainId_quiet F.excBase_ValueError.init.plain _, codeAny_builtin F.excBase_ValueError.initEntry ?_⟩
  exact PySem.W.exc_init_tree (cls := .ref C) (t0 := t0) (dv := none) (c2 := .none) (c3 := .none) (b4 := .bool false) he hz fun h' k1 k2 k3 => k h' _ k1 k2
theorem sc_dummy : FnScope ["self", "at"] ["self", "at"] { kind := .function, names := [("self", .local), ("at", .local)], isGenerator := false, isCoroutine := false } := ⟨rfl, rfl, rfl, by decide +kernel, rfl, by decide +kernel, by decide +kernel⟩
set_option maxHeartbeats 4000000 in
theorem ok_init {P : Program} {w : World} {K : PySem.W.Frag} {mg : Str → Option Value} {base : Heap} {C fI cc cda : Addr} {fd : FuncData} (T : RT P K mg C fI cc cda fd) : FnOk P w K mg base CX0 1 fI fd ["self", "at"] (spI C) := by
  refine ⟨fun vs H Q E ⟨a, n, e, _⟩ => by rw [e]; rfl, fun A outer s H args us vs Q E hr e0 hb r hsp => ?_⟩
  obtain ⟨a, n, rfl, ha, q⟩ := hsp
  obtain ⟨oc, od, kV, doc, pm, an, ct, osl, rfl, lk⟩ := T.fn
  cases r with
  | cons r1 r =>
  cases r with
  | cons r2 r =>
  cases r
  obtain ⟨t, rfl⟩ := r2
  cases r1
  have inn : K.In s.heap := e0.mod.kin.keeps fun b o e => (e0.bs b o e).1
  have nolim : s.heap.NoLimit := e0.mod.nolimit.keeps fun b o e => (e0.bs b o e).1
  have hcell : ∀ x ∈ (defScope s_init).names, x.2 ≠ .cell := by decide +kernel
  have hloc : ∀ x ∈ ([("self", .ref a), ("at", .int n t)] : List (Str × Value)), (defScope s_init).names.lookup x.1 = some .local := by
    intro x hx
    rcases List.mem_cons.mp hx with e | hx
    · rw [e]; rfl
    · rw [List.mem_singleton.mp hx]; rfl
  refine PySem.ks_codeAny_call_defAt (fd := ksFn "__init__" "Refused.__init__" (defArgs s_init) (defBody s_init) (defScope s_init) .none kV doc pm an (.ref cda) ct cc) (body := defBody s_init) (binds := [("self", .ref a), ("at", .int n t)]) hr.depth (inn _ _ lk) rfl nolim (PySem.W.codeRec_of inn T.code) rfl hb hcell hloc (fun h1 hns hk => ?_) rfl rfl rfl
  -- a state of the layer, over a plain scope
  have emap : (fun x => ([("self", .ref a), ("at", .int n t)] : List (Str × Value)).reverse.lookup x) = bindL (envOfC "Refused.__init__" { kind := .function, names := [("self", .local), ("at", .local)], isGenerator := false, isCoroutine := false } s.heap.objs.size fI (.ref cda)).kindOf ((["self", "at"] : List Str).zip [.ref a, .int n t]) fun _ => none := by
    funext x
    show ([("at", .int n t), ("self", .ref a)] : List (Str × Value)).lookup x = (if x = "at" then some (.int n t) else if x = "self" then some (.ref a) else none)
    by_cases h1 : x = "at"
    · subst h1; rfl
    · have e1 : (x == "at") = false := beq_eq_false_iff_ne.mpr h1
      rw [if_neg h1, List.lookup, e1]
      by_cases h2 : x = "self"
      · subst h2; rfl
      · have e2 : (x == "self") = false := beq_eq_false_iff_ne.mpr h2
        rw [if_neg h2, List.lookup, e2]
        rfl
  have IC : InCallC s s.heap.objs.size (bindL (envOfC "Refused.__init__" { kind := .function, names := [("self", .local), ("at", .local)], isGenerator := false, isCoroutine := false } s.heap.objs.size fI (.ref cda)).kindOf ((["self", "at"] : List Str).zip [.ref a, .int n t]) fun _ => none) (cellsFrom (s.heap.objs.size + 1) ([("self", .local), ("at", .local)] : List (Str × NameKind)) [])
      (bindC (envOfC "Refused.__init__" { kind := .function, names := [("self", .local), ("at", .local)], isGenerator := false, isCoroutine := false } s.heap.objs.size fI (.ref cda)).kindOf ((["self", "at"] : List Str).zip [.ref a, .int n t]) fun _ => none) { s with heap := h1, toks := s.toks + 2 } := by
    refine ⟨⟨⟨h1, _, rfl⟩, ?_, hk, Nat.le_refl _⟩, fun n c z => ?_, List.Pairwise.nil, fun n c z => ?_⟩
    · rw [← emap]; exact hns
    · have z' : ([] : List (Str × Addr)).lookup n = some c := z
      cases z'
    · have z' : (n, c) ∈ ([] : List (Str × Addr)) := z
      cases z'
  have I := inv_start (CX := CX0) (qual := "Refused.__init__") (f := fI) (cd := .ref cda) (E := E) (P := P) (w := w) (K := K) (mg := mg) (base := base) sc_dummy hr.hd e0 (us := [.ref a, .int n t]) (vs := [.ref a, .int n]) (by rfl) (.cons rfl (.cons ⟨t, rfl⟩ .nil)) IC
  have K1 : K.In h1 := inn.keeps hk
  obtain ⟨nm, q1, N1, bs, bm, sn, sub, ab, col, dd, k0, k1, k2, k3, k5, hC, hbm⟩ := T.oex.cls
  have hcl : PySem.W.clsIn K C = some { name := nm, bases := bs, mro := .ref C :: bm, ns := N1, qualname := q1, hasDict := true, slotNames := sn, subclasses := sub, abstract := ab, collection := col, hasDel := false } := by unfold PySem.W.clsIn; rw [hC] <;> rfl
  obtain ⟨t1, hx⟩ := exo_at I.hok ha
  obtain ⟨ccl, cdd, vs, ccs, file, tf, hcode, hvs, hfile⟩ := T.rec_
  obtain ⟨cl, cld, csl, hcell⟩ := T.cell
  have hD := K1 _ _ hC
  have nloc : a ≠ C := fun z => by
    have hx' : h1.get? a = _ := hx
    rw [z, hD] at hx'
    have e := Option.some.inj hx'
    have e2 := congrArg Obj.cls e
    exact absurd e2 (by simp)
  obtain ⟨mb, hb1, hb2⟩ := I.ok.mod.blt
  show _root_.PySem.wpAt _ _ _ (execs (defBody s_init) (ksEnv "Refused.__init__" (defScope s_init) s.heap.objs.size fI (.ref cda) cc)) _ _ { s with heap := h1, toks := s.toks + 2 }
  refine PySem.ks_wpAt_execs_cons (PySem.ks_wpAt_Expr_any (PySem.ks_wpAt_MethodCall (PySem.ks_wpAt_super_base (env := ksEnv "Refused.__init__" (defScope s_init) s.heap.objs.size fI (.ref cda) cc) rfl rfl (by decide) rfl (K1 _ _ lk) rfl rfl rfl (K1 _ _ hcode) rfl hvs hfile T.top ?_)))
  refine PySem.W.ks_loadName_global rfl rfl (Calls.loadGlobal_builtin (env := ksEnv "Refused.__init__" (defScope s_init) s.heap.objs.size fI (.ref cda) cc) (I.mod.glob.keeps I.bk) T.nosup (hb1.keeps I.bk) ((hb2 "super" (by decide)).trans (by decide +kernel)) ⟨rfl, ?_⟩)
  refine wpAny_loadName_free rfl rfl rfl ⟨_, K1 _ _ hcell, rfl⟩ ?_
  refine wpAny_loadName_local rfl rfl hns rfl ?_
  refine PySem.ks_wpAny_isType_cls hD rfl ⟨rfl, ?_⟩
  refine PySem.ks_wpAny_call_super hD rfl hx rfl (fun c e => by cases e) (PySem.W.looks_mroIn K1 T.self_) (fun h2 e2 kp2 => ?_)
  have I2 := I.kept (t' := s.toks + 2) kp2
  have K2 : K.In h2 := K1.keeps kp2
  have hx2 := kp2 _ _ hx
  have IA : PySem.W.InstAt h2 a { cls := .ref C, dict := none, data := .fields #[.ref t1, .none, .none, .none, .bool false, .none] } C none := ⟨hx2, rfl, rfl, trivial⟩
  have hI : Looks (model P w) h2 (isInstance (.ref a) (.type "ValueError")) true := IA.type.andThen (PySem.W.looks_subIn K2 T.ve)
  refine PySem.W.kxs_getMethod PySem.W.kxs_ValueError e2 (PySem.W.looks_opaque K2 T.opq) (l₀ := .ref C :: bm) (fun A Q E s k q => wpAny_bind ((PySem.W.looks_clsIn K2 hcl) A _ E s k (wpAny_pure q))) rfl K2 (T.along _ hcl) hI nloc (by decide) ?_
  have kp3 : ∀ b o, h2.get? b = some o → (h2.push (kxs_mw "ValueError.__init__" a)).get? b = some o := fun b o e => Heap.get?_push_of_some _ e
  have I3 := I2.kept (t' := s.toks + 2 + 1) kp3
  have hu3 : (h2.push (kxs_mw "ValueError.__init__" a)).get? h2.objs.size = some (kxs_mw "ValueError.__init__" a) := Heap.get?_push_size _ rfl
  refine PySem.W.kxs_callWith (i := "ValueError.__init__") (x := a) rfl (Calls.evalArgs_plain (Calls.spliced_cons ?_))
  refine Calls.Constant_str (k := 0) (pos := ⟨7, 25, 7, 34⟩) ?_
  refine Calls.spliced_nil ⟨hu3, ?_⟩
  refine call_mw (K2.keeps kp3 _ _ hC) (kp3 _ _ hx2) hu3 (by rw [sizeLine_eq]; exact Nat.le_of_ble_eq_true rfl) fun h4 t4 k4 e4 => ?_
  -- what stands behind it: the exception as before
  have I4 := I3.write (t' := s.toks + 2 + 1 + 1) (x := a) (e := a) (o := exo a C none) (by rw [ha]; exact True.intro) (.inl rfl) k4 ⟨_, e4⟩ (exo_ok e4)
  have eu : upd H a (exo a C none) = H := by
    funext b
    by_cases hb : b = a
    · rw [hb, upd_same, ha]
    · rw [upd_ne hb]
  rw [eu] at I4
  refine PySem.ks_wpAt_execs_cons (PySem.ks_wpAt_Assign_Attr ?_)
  obtain ⟨m4, hn4, _⟩ := I4.loc
  have hL : s.heap.objs.size ≠ a := fun z => by
    have := I.free
    rw [show (cxOf CX0 P w K mg base ["self", "at"] "Refused.__init__" { kind := .function, names := [("self", .local), ("at", .local)], isGenerator := false, isCoroutine := false } fI (.ref cda) A outer s H E).env.locals = s.heap.objs.size from rfl, z, ha] at this
    cases this
  have hn1 : h4.Ns s.heap.objs.size (fun x => ([("self", .ref a), ("at", .int n t)] : List (Str × Value)).reverse.lookup x) := hns.at fun o e => k4 _ o hL (kp3 _ _ (kp2 _ _ e))
  refine wpAt_of_wpAny ?_
  refine ESX.ldL (env := ksEnv "Refused.__init__" (defScope s_init) s.heap.objs.size fI (.ref cda) cc) (x := "at") (pos := ⟨8, 18, 8, 20⟩) (v := .int n t) (m := fun x => ([("self", .ref a), ("at", .int n t)] : List (Str × Value)).reverse.lookup x) ?_ rfl ?_
  · exact hn1
  refine ESX.ldL (env := ksEnv "Refused.__init__" (defScope s_init) s.heap.objs.size fI (.ref cda) cc) (x := "self") (pos := ⟨8, 8, 8, 12⟩) (v := .ref a) (m := fun x => ([("self", .ref a), ("at", .int n t)] : List (Str × Value)).reverse.lookup x) ?_ rfl ?_
  · exact hn1
  refine ost_new T.oex I4 ha T.noat (y := .int n) ⟨t, rfl⟩ fun dx s' hdx ne J => ?_
  exact wpAt_of_wpAny (wpAny_pure ⟨.non, _, J.os, J.bare, J.base, J.hok, rfl, q dx hdx ne⟩)
end K24

set_option Elab.async false
set_option linter.all false
set_option maxRecDepth 100000
/-! K24S: each def keeps its promise (printed by gen3.py). -/
namespace K24
open PySem PySem.Spec PyProof.Rows L2
theorem nd_check : (["net", "rule", "many", "one"] : List Str).Nodup := by decide +kernel
theorem dep_pos (r : Rl) : 1 ≤ dep r := by cases r <;> simp [dep]
theorem cal_mkX {P : Program} {w : World} {K : PySem.W.Frag} {mg : Str → Option Value} {base : Heap} {x : Str} {st : Stmt} {N ps : List Str} {k : Nat} {C : Addr} {rel : List PD → PD → Prop} {bad : List PD → Int → Prop} {t : XK → TS} (D : Dat K mg x st) (S : FnScope N ps (defScope st)) (hb : BindsBy x st ps)
    (hp : ∀ (f : Addr) (cdv : Value) (A : Around) (outer : List Env) (s : Shared) (H : Hp) (E : XK), Room k (A.deeper (envOfC x (defScope st) s.heap.objs.size f cdv)) → PSs (cxOf (L2.CX P w) P w K mg base N x (defScope st) f cdv A outer s H E) (defBody st) (t E))
    (hl : ∀ ds d, rel ds d → ds.length = ps.length) (hlb : ∀ ds n, bad ds n → ds.length = ps.length)
    (hr : ∀ (vs : List V) (H : Hp) (Q : VK) (E : XK), spX C rel bad vs H Q E → t E { nx := fun _ H' => Q .non H', rt := Q } (L2.start N vs) H) : Cal P w K mg base (L2.CX P w) (k + 1) x ps (spX C rel bad) := by
  obtain ⟨f, fd, F, hm⟩ := D.ex
  exact ⟨f, fd, F.ok S (spX_len hl hlb) (fun cdv A outer s H vs Q E hrm h => ⟨t E, hp f cdv A outer s H E hrm, hr vs H Q E h⟩), hm, F.kp, F.bindsN hb⟩
theorem px_of {P : Program} {w : World} {K : PySem.W.Frag} {mg : Str → Option Value} {base : Heap} {N : List Str} {x : Str} {sc : Scope} {f : Addr} {cdv : Value} {A : Around} {outer : List Env} {s : Shared} {H : Hp} {E : XK} : Passes (L2.CX P w) (cxOf (L2.CX P w) P w K mg base N x sc f cdv A outer s H E) E :=
  fun pins σ H1 s1 e s' I c => L2.takes_of rfl rfl rfl rfl e s' (L2.XE.of_call (W := fun cls d _ H => E cls d H) I (fun _ _ _ h => h) c)
structure Tx (P : Program) (K : PySem.W.Frag) (mg : Str → Option Value) (C fI cc cda : Addr) (fdI : FuncData) : Prop where
  T : Tops mg
  rt : RT P K mg C fI cc cda fdI
  bI : Binds K fdI ["self", "at"] []
  d_is_integer : Dat K mg "is_integer" s_is_integer
  d_is_number : Dat K mg "is_number" s_is_number
  d_is_index : Dat K mg "is_index" s_is_index
  d_is_worth : Dat K mg "is_worth" s_is_worth
  d_is_head : Dat K mg "is_head" s_is_head
  d_parts_of : Dat K mg "parts_of" s_parts_of
  d_branches : Dat K mg "branches" s_branches
  d_made : Dat K mg "made" s_made
  d_told_by : Dat K mg "told_by" s_told_by
  d_told : Dat K mg "told" s_told
  d_wanted : Dat K mg "wanted" s_wanted
  d_first_lots : Dat K mg "first_lots" s_first_lots
  d_check_few : Dat K mg "check_few" s_check_few
  d_rows_from : Dat K mg "rows_from" s_rows_from
  d_lots_next : Dat K mg "lots_next" s_lots_next
  d_lot_rounds : Dat K mg "lot_rounds" s_lot_rounds
  d_last_lots : Dat K mg "last_lots" s_last_lots
  d_known_rounds : Dat K mg "known_rounds" s_known_rounds
  d_is_sure : Dat K mg "is_sure" s_is_sure
  d_law_draw : Dat K mg "_law_draw" s_law_draw
  d_law_any : Dat K mg "_law_any" s_law_any
  d_law_of : Dat K mg "_law_of" s_law_of
  d_law_rule : Dat K mg "_law_rule" s_law_rule
  d_law_net : Dat K mg "_law_net" s_law_net
  d_law_parts : Dat K mg "_law_parts" s_law_parts
  d_law_branches : Dat K mg "_law_branches" s_law_branches
  d_law_made : Dat K mg "_law_made" s_law_made
  d_law_told : Dat K mg "_law_told" s_law_told
  d_law_wants : Dat K mg "_law_wants" s_law_wants
  d_law_entries : Dat K mg "_law_entries" s_law_entries
  d_law_range : Dat K mg "_law_range" s_law_range
  d_law_turn : Dat K mg "_law_turn" s_law_turn
  d_law_words : Dat K mg "_law_words" s_law_words
  d_law_ways : Dat K mg "_law_ways" s_law_ways
  d_law_many_rows : Dat K mg "_law_many_rows" s_law_many_rows
  d_law_few : Dat K mg "_law_few" s_law_few
  d_law_small_net : Dat K mg "_law_small_net" s_law_small_net
  d_law_brought : Dat K mg "_law_brought" s_law_brought
  d_law_lots_next : Dat K mg "_law_lots_next" s_law_lots_next
  d_law_lot_rounds : Dat K mg "_law_lot_rounds" s_law_lot_rounds
  d_law_doubled : Dat K mg "_law_doubled" s_law_doubled
  d_law_one_way : Dat K mg "_law_one_way" s_law_one_way
  d_law_refused : Dat K mg "_law_refused" s_law_refused
  d_law_right : Dat K mg "_law_right" s_law_right
theorem c_is_integer {P : Program} {w : World} {K : PySem.W.Frag} {mg : Str → Option Value} {base : Heap} {C fI cc cda : Addr} {fdI : FuncData} (X : Tx P K mg C fI cc cda fdI) : Cal P w K mg base CX0 1 "is_integer" p_is_integer (spF q_is_integer) :=
  cal_mk (k := 0) X.d_is_integer sc_is_integer (fun _ _ _ _ _ _ us hl => match us, hl with | [_], _ => rfl) (fun f cdv A outer s H E hr => pd_is_integer X.T hr) (fun ds d h => by obtain ⟨_, rfl, rfl⟩ := h; rfl) (fun G H ds d h => r_is_integer G H ds d h)
theorem c_is_number {P : Program} {w : World} {K : PySem.W.Frag} {mg : Str → Option Value} {base : Heap} {C fI cc cda : Addr} {fdI : FuncData} (X : Tx P K mg C fI cc cda fdI) : Cal P w K mg base CX0 2 "is_number" p_is_number (spF q_is_number) :=
  cal_mk (k := 1) X.d_is_number sc_is_number (fun _ _ _ _ _ _ us hl => match us, hl with | [_], _ => rfl) (fun f cdv A outer s H E hr => pd_is_number X.T ((c_is_integer X).mono (by decide)) hr) (fun ds d h => by obtain ⟨_, _, rfl, rfl⟩ := h; rfl) (fun G H ds d h => r_is_number G H ds d h)
theorem c_is_index {P : Program} {w : World} {K : PySem.W.Frag} {mg : Str → Option Value} {base : Heap} {C fI cc cda : Addr} {fdI : FuncData} (X : Tx P K mg C fI cc cda fdI) : Cal P w K mg base CX0 3 "is_index" p_is_index (spF q_is_index) :=
  cal_mk (k := 2) X.d_is_index sc_is_index (fun _ _ _ _ _ _ us hl => match us, hl with | [_, _], _ => rfl) (fun f cdv A outer s H E hr => pd_is_index X.T ((c_is_number X).mono (by decide)) hr) (fun ds d h => by obtain ⟨_, _, _, _, rfl, rfl⟩ := h; rfl) (fun G H ds d h => r_is_index G H ds d h)
theorem c_is_worth {P : Program} {w : World} {K : PySem.W.Frag} {mg : Str → Option Value} {base : Heap} {C fI cc cda : Addr} {fdI : FuncData} (X : Tx P K mg C fI cc cda fdI) : Cal P w K mg base CX0 4 "is_worth" p_is_worth (spF q_is_worth) :=
  cal_mk (k := 3) X.d_is_worth sc_is_worth (fun _ _ _ _ _ _ us hl => match us, hl with | [_], _ => rfl) (fun f cdv A outer s H E hr => pd_is_worth X.T ((c_is_index X).mono (by decide)) hr) (fun ds d h => by obtain ⟨_, _, _, rfl, rfl⟩ := h; rfl) (fun G H ds d h => r_is_worth G H ds d h)
theorem c_is_head {P : Program} {w : World} {K : PySem.W.Frag} {mg : Str → Option Value} {base : Heap} {C fI cc cda : Addr} {fdI : FuncData} (X : Tx P K mg C fI cc cda fdI) : Cal P w K mg base CX0 5 "is_head" p_is_head (spF q_is_head) :=
  cal_mk (k := 4) X.d_is_head sc_is_head (fun _ _ _ _ _ _ us hl => match us, hl with | [_], _ => rfl) (fun f cdv A outer s H E hr => pd_is_head X.T ((c_is_worth X).mono (by decide)) hr) (fun ds d h => by obtain ⟨_, _, _, _, rfl, rfl⟩ := h; rfl) (fun G H ds d h => r_is_head G H ds d h)
theorem c_parts_of {P : Program} {w : World} {K : PySem.W.Frag} {mg : Str → Option Value} {base : Heap} {C fI cc cda : Addr} {fdI : FuncData} (X : Tx P K mg C fI cc cda fdI) : Cal P w K mg base CX0 6 "parts_of" p_parts_of (spF q_parts_of) :=
  cal_mk (k := 5) X.d_parts_of sc_parts_of (fun _ _ _ _ _ _ us hl => match us, hl with | [_], _ => rfl) (fun f cdv A outer s H E hr => pd_parts_of X.T ((c_is_head X).mono (by decide)) ((c_is_worth X).mono (by decide)) hr) (fun ds d h => by obtain ⟨_, _, _, rfl, rfl⟩ := h; rfl) (fun G H ds d h => r_parts_of G H ds d h)
theorem c_branches {P : Program} {w : World} {K : PySem.W.Frag} {mg : Str → Option Value} {base : Heap} {C fI cc cda : Addr} {fdI : FuncData} (X : Tx P K mg C fI cc cda fdI) : ∀ m : Nat, Cal P w K mg base CX0 (6 + m) "branches" p_branches (spF (q_branches m))
  | 0 => (cal_none X.d_branches (fun _ _ _ _ _ _ us hl => match us, hl with | [_], _ => rfl) (fun ds d h => by obtain ⟨_, _, _, _, _, rfl, rfl⟩ := h; have := dep_pos (by assumption); omega)).mono (by omega)
  | m + 1 => cal_mk (k := 6 + m) X.d_branches sc_branches (fun _ _ _ _ _ _ us hl => match us, hl with | [_], _ => rfl) (fun f cdv A outer s H E hr => pd_branches X.T ((c_parts_of X).mono (by omega)) ((c_branches X m).mono (by omega)) hr) (fun ds d h => by obtain ⟨_, _, _, _, _, rfl, rfl⟩ := h; rfl) (fun G H ds d h => r_branches m G H ds d h)
theorem c_made {P : Program} {w : World} {K : PySem.W.Frag} {mg : Str → Option Value} {base : Heap} {C fI cc cda : Addr} {fdI : FuncData} (X : Tx P K mg C fI cc cda fdI) : Cal P w K mg base CX0 1 "made" p_made (spF q_made) :=
  cal_mk (k := 0) X.d_made sc_made (fun _ _ _ _ _ _ us hl => match us, hl with | [_, _], _ => rfl) (fun f cdv A outer s H E hr => pd_made X.T hr) (fun ds d h => by obtain ⟨_, _, _, _, _, rfl, rfl⟩ := h; rfl) (fun G H ds d h => r_made G H ds d h)
theorem c_told_by {P : Program} {w : World} {K : PySem.W.Frag} {mg : Str → Option Value} {base : Heap} {C fI cc cda : Addr} {fdI : FuncData} (X : Tx P K mg C fI cc cda fdI) : ∀ m : Nat, Cal P w K mg base CX0 (6 + m) "told_by" p_told_by (spF (q_told_by m))
  | 0 => (cal_none X.d_told_by (fun _ _ _ _ _ _ us hl => match us, hl with | [_, _, _], _ => rfl) (fun ds d h => by obtain ⟨_, _, _, _, _, _, _, _, _, rfl, rfl⟩ := h; have := dep_pos (by assumption); omega)).mono (by omega)
  | m + 1 => cal_mk (k := 6 + m) X.d_told_by sc_told_by (fun _ _ _ _ _ _ us hl => match us, hl with | [_, _, _], _ => rfl) (fun f cdv A outer s H E hr => pd_told_by X.T ((c_parts_of X).mono (by omega)) ((c_told_by X m).mono (by omega)) ((c_made X).mono (by omega)) hr) (fun ds d h => by obtain ⟨_, _, _, _, _, _, _, _, _, rfl, rfl⟩ := h; rfl) (fun G H ds d h => r_told_by m G H ds d h)
theorem c_told {P : Program} {w : World} {K : PySem.W.Frag} {mg : Str → Option Value} {base : Heap} {C fI cc cda : Addr} {fdI : FuncData} (X : Tx P K mg C fI cc cda fdI) : Cal P w K mg base CX0 11 "told" p_told (spF q_told) :=
  cal_mk (k := 10) X.d_told sc_told (fun _ _ _ _ _ _ us hl => match us, hl with | [_, _], _ => rfl) (fun f cdv A outer s H E hr => pd_told X.T ((c_told_by X 4).mono (by decide)) hr) (fun ds d h => by obtain ⟨_, _, _, _, _, _, _, _, rfl, rfl⟩ := h; rfl) (fun G H ds d h => r_told G H ds d h)
theorem c_wanted {P : Program} {w : World} {K : PySem.W.Frag} {mg : Str → Option Value} {base : Heap} {C fI cc cda : Addr} {fdI : FuncData} (X : Tx P K mg C fI cc cda fdI) : Cal P w K mg base CX0 12 "wanted" p_wanted (spF q_wanted) :=
  cal_mk (k := 11) X.d_wanted sc_wanted (fun _ _ _ _ _ _ us hl => match us, hl with | [_, _, _], _ => rfl) (fun f cdv A outer s H E hr => pd_wanted X.T ((c_told X).mono (by decide)) hr) (fun ds d h => by obtain ⟨_, _, _, _, _, _, _, rfl, rfl⟩ := h; rfl) (fun G H ds d h => r_wanted G H ds d h)
theorem c_first_lots {P : Program} {w : World} {K : PySem.W.Frag} {mg : Str → Option Value} {base : Heap} {C fI cc cda : Addr} {fdI : FuncData} (X : Tx P K mg C fI cc cda fdI) : Cal P w K mg base CX0 1 "first_lots" p_first_lots (spF q_first_lots) :=
  cal_mk (k := 0) X.d_first_lots sc_first_lots (fun _ _ _ _ _ _ us hl => match us, hl with | [_], _ => rfl) (fun f cdv A outer s H E hr => pd_first_lots X.T hr) (fun ds d h => by obtain ⟨_, _, _, rfl, rfl⟩ := h; rfl) (fun G H ds d h => r_first_lots G H ds d h)
theorem c_rows_from {P : Program} {w : World} {K : PySem.W.Frag} {mg : Str → Option Value} {base : Heap} {C fI cc cda : Addr} {fdI : FuncData} (X : Tx P K mg C fI cc cda fdI) : Cal P w K mg base CX0 1 "rows_from" p_rows_from (spF q_rows_from) :=
  cal_mk (k := 0) X.d_rows_from sc_rows_from (fun _ _ _ _ _ _ us hl => match us, hl with | [_, _], _ => rfl) (fun f cdv A outer s H E hr => pd_rows_from X.T hr) (fun ds d h => by obtain ⟨_, _, _, _, _, rfl, rfl⟩ := h; rfl) (fun G H ds d h => r_rows_from G H ds d h)
theorem c_check_few {P : Program} {w : World} {K : PySem.W.Frag} {mg : Str → Option Value} {base : Heap} {C fI cc cda : Addr} {fdI : FuncData} (X : Tx P K mg C fI cc cda fdI) : Cal P w K mg base (L2.CX P w) 11 "check_few" ["net"] (spX C q_check_few b_check_few) :=
  cal_mkX (t := fun E => t_check_few K w C E (spF (q_branches 4)) (spI C)) X.d_check_few (N := ["net", "rule", "many", "one"]) ⟨rfl, rfl, rfl, by decide +kernel, rfl, by decide +kernel, by decide +kernel⟩ (fun _ _ _ _ _ _ us hl => match us, hl with | [_], _ => rfl) (fun f cdv A outer s H E hr =>
    (pss_one (ps_for (passes_of rfl) rfl (pi_tup (pe_ix ix_tup (pv 0) pe_int (fun _ _ => rfl))) (pg_name (i := 1) nd_check rfl (Or.inl rfl)) (pss_cons (ps_set (i := 2) nd_check rfl (Or.inl rfl) pe_int)
      (pss_cons (ps_for (passes_of rfl) rfl (pi_tup (pe_c (c_branches X 4) hr (by rfl) L2.pass0 (pa_cons (pv 1) pa_nil))) (pg_name (i := 3) nd_check rfl (Or.inl rfl)) (pss_one (ps_set (i := 2) nd_check rfl (Or.inl rfl) (pe_op op_mul (pv 2) (pe_op op_add (pe_ix ix_tup (pe_ix ix_tup (pv 0) pe_int (fun _ _ => rfl)) (pv 3) (fun _ _ => rfl)) pe_int)))))
      (pss_one (ps_if (pt_cmpR op_gt (pv 2) (pe_gi (by rfl) X.T.MOST_lots) (nomark _)) (pss_one (L2.ps_raise rfl (L2.takes_of rfl rfl rfl rfl) (L2.pmk_oex X.rt.oex X.rt.iC X.rt.tI (ok_init X.rt) (hr.mono (by decide)) X.bI .nil L2.pass0 (by rfl) X.rt.gC (pa_cons (pv 2) pa_nil)))) pss_nil)))))))
    (fun ds d h => by obtain ⟨_, _, _, rfl, rfl⟩ := h; rfl) (fun ds n h => by obtain ⟨_, _, rfl⟩ := h; rfl) (fun vs H Q E h => r_check_few h)
theorem c_lots_next {P : Program} {w : World} {K : PySem.W.Frag} {mg : Str → Option Value} {base : Heap} {C fI cc cda : Addr} {fdI : FuncData} (X : Tx P K mg C fI cc cda fdI) : Cal P w K mg base (L2.CX P w) 13 "lots_next" p_lots_next (spX C q_lots_next b_lots_next) :=
  cal_mkX (k := 12) (t := fun E => t_lots_next K w E (spX C q_check_few b_check_few) (spF q_wanted) (spF q_rows_from) (spF (q_branches 4))) X.d_lots_next sc_lots_next (fun _ _ _ _ _ _ us hl => match us, hl with | [_, _], _ => rfl) (fun f cdv A outer s H E hr => pd_lots_next X.T ((c_check_few X).mono (by decide)) ((c_wanted X).mono (by decide)) ((c_rows_from X).mono (by decide)) ((c_branches X 4).mono (by decide)) hr px_of) (fun ds d h => by obtain ⟨_, _, _, _, rfl, rfl⟩ := h; rfl) (fun ds n h => by obtain ⟨_, _, _, rfl⟩ := h; rfl)
    (fun vs H Q E h => bodyX (K := K) (N := n_lots_next) (m := p_lots_next.length) h (fun ds d h => by obtain ⟨_, _, _, _, rfl, rfl⟩ := h; rfl) (fun ds n h => by obtain ⟨_, _, _, rfl⟩ := h; rfl) (fun G ds d h => r_lots_next G H ds d h) (fun G ds n h x => x_lots_next G H ds n h x))
theorem c_lot_rounds {P : Program} {w : World} {K : PySem.W.Frag} {mg : Str → Option Value} {base : Heap} {C fI cc cda : Addr} {fdI : FuncData} (X : Tx P K mg C fI cc cda fdI) : Cal P w K mg base (L2.CX P w) 14 "lot_rounds" p_lot_rounds (spX C q_lot_rounds b_net) :=
  cal_mkX (k := 13) (t := fun E => t_lot_rounds K w E (spX C q_lots_next b_lots_next) (spF q_first_lots)) X.d_lot_rounds sc_lot_rounds (fun _ _ _ _ _ _ us hl => match us, hl with | [_], _ => rfl) (fun f cdv A outer s H E hr => pd_lot_rounds X.T ((c_lots_next X).mono (by decide)) ((c_first_lots X).mono (by decide)) hr px_of) (fun ds d h => by obtain ⟨_, _, _, _, _, rfl, rfl⟩ := h; rfl) (fun ds n h => by obtain ⟨_, _, rfl⟩ := h; rfl)
    (fun vs H Q E h => bodyX (K := K) (N := n_lot_rounds) (m := p_lot_rounds.length) h (fun ds d h => by obtain ⟨_, _, _, _, _, rfl, rfl⟩ := h; rfl) (fun ds n h => by obtain ⟨_, _, rfl⟩ := h; rfl) (fun G ds d h => r_lot_rounds G H ds d h) (fun G ds n h x => x_lot_rounds G H ds n h x))
theorem c_last_lots {P : Program} {w : World} {K : PySem.W.Frag} {mg : Str → Option Value} {base : Heap} {C fI cc cda : Addr} {fdI : FuncData} (X : Tx P K mg C fI cc cda fdI) : Cal P w K mg base (L2.CX P w) 15 "last_lots" p_last_lots (spX C q_last_lots b_net) :=
  cal_mkX (k := 14) (t := fun E => t_last_lots K w E (spX C q_lot_rounds b_net)) X.d_last_lots sc_last_lots (fun _ _ _ _ _ _ us hl => match us, hl with | [_], _ => rfl) (fun f cdv A outer s H E hr => pd_last_lots X.T ((c_lot_rounds X).mono (by decide)) hr px_of) (fun ds d h => by obtain ⟨_, _, _, _, _, rfl, rfl⟩ := h; rfl) (fun ds n h => by obtain ⟨_, _, rfl⟩ := h; rfl)
    (fun vs H Q E h => bodyX (K := K) (N := n_last_lots) (m := p_last_lots.length) h (fun ds d h => by obtain ⟨_, _, _, _, _, rfl, rfl⟩ := h; rfl) (fun ds n h => by obtain ⟨_, _, rfl⟩ := h; rfl) (fun G ds d h => r_last_lots G H ds d h) (fun G ds n h x => x_last_lots G H ds n h x))
theorem c_known_rounds {P : Program} {w : World} {K : PySem.W.Frag} {mg : Str → Option Value} {base : Heap} {C fI cc cda : Addr} {fdI : FuncData} (X : Tx P K mg C fI cc cda fdI) : Cal P w K mg base (L2.CX P w) 15 "known_rounds" p_known_rounds (spX C q_known_rounds b_net) :=
  cal_mkX (k := 14) (t := fun E => t_known_rounds K w E (spX C q_lot_rounds b_net)) X.d_known_rounds sc_known_rounds (fun _ _ _ _ _ _ us hl => match us, hl with | [_], _ => rfl) (fun f cdv A outer s H E hr => pd_known_rounds X.T ((c_lot_rounds X).mono (by decide)) hr px_of) (fun ds d h => by obtain ⟨_, _, _, _, _, rfl, rfl⟩ := h; rfl) (fun ds n h => by obtain ⟨_, _, rfl⟩ := h; rfl)
    (fun vs H Q E h => bodyX (K := K) (N := n_known_rounds) (m := p_known_rounds.length) h (fun ds d h => by obtain ⟨_, _, _, _, _, rfl, rfl⟩ := h; rfl) (fun ds n h => by obtain ⟨_, _, rfl⟩ := h; rfl) (fun G ds d h => r_known_rounds G H ds d h) (fun G ds n h x => x_known_rounds G H ds n h x))
theorem c_is_sure {P : Program} {w : World} {K : PySem.W.Frag} {mg : Str → Option Value} {base : Heap} {C fI cc cda : Addr} {fdI : FuncData} (X : Tx P K mg C fI cc cda fdI) : Cal P w K mg base (L2.CX P w) 16 "is_sure" p_is_sure (spX C q_is_sure b_net) :=
  cal_mkX (k := 15) (t := fun E => t_is_sure K w E (spX C q_last_lots b_net)) X.d_is_sure sc_is_sure (fun _ _ _ _ _ _ us hl => match us, hl with | [_], _ => rfl) (fun f cdv A outer s H E hr => pd_is_sure X.T ((c_last_lots X).mono (by decide)) hr px_of) (fun ds d h => by obtain ⟨_, _, _, _, _, rfl, rfl⟩ := h; rfl) (fun ds n h => by obtain ⟨_, _, rfl⟩ := h; rfl)
    (fun vs H Q E h => bodyX (K := K) (N := n_is_sure) (m := p_is_sure.length) h (fun ds d h => by obtain ⟨_, _, _, _, _, rfl, rfl⟩ := h; rfl) (fun ds n h => by obtain ⟨_, _, rfl⟩ := h; rfl) (fun G ds d h => r_is_sure G H ds d h) (fun G ds n h x => x_is_sure G H ds n h x))
theorem c_law_parts {P : Program} {w : World} {K : PySem.W.Frag} {mg : Str → Option Value} {base : Heap} {C fI cc cda : Addr} {fdI : FuncData} (X : Tx P K mg C fI cc cda fdI) : Cal P w K mg base CX0 1 "_law_parts" p_law_parts (spF q_law_parts) :=
  cal_mk (k := 0) X.d_law_parts sc_law_parts (fun _ _ _ _ _ _ us hl => match us, hl with | [_], _ => rfl) (fun f cdv A outer s H E hr => pd_law_parts X.T hr) (fun ds d h => by obtain ⟨_, _, _, rfl, rfl⟩ := h; rfl) (fun G H ds d h => r_law_parts G H ds d h)
theorem c_law_branches {P : Program} {w : World} {K : PySem.W.Frag} {mg : Str → Option Value} {base : Heap} {C fI cc cda : Addr} {fdI : FuncData} (X : Tx P K mg C fI cc cda fdI) : ∀ m : Nat, Cal P w K mg base CX0 (1 + m) "_law_branches" p_law_branches (spF (q_law_branches m))
  | 0 => (cal_none X.d_law_branches (fun _ _ _ _ _ _ us hl => match us, hl with | [_], _ => rfl) (fun ds d h => by obtain ⟨_, _, _, _, _, rfl, rfl⟩ := h; have := dep_pos (by assumption); omega)).mono (by omega)
  | m + 1 => cal_mk (k := 1 + m) X.d_law_branches sc_law_branches (fun _ _ _ _ _ _ us hl => match us, hl with | [_], _ => rfl) (fun f cdv A outer s H E hr => pd_law_branches X.T ((c_law_parts X).mono (by omega)) ((c_law_branches X m).mono (by omega)) hr) (fun ds d h => by obtain ⟨_, _, _, _, _, rfl, rfl⟩ := h; rfl) (fun G H ds d h => r_law_branches m G H ds d h)
theorem c_law_made {P : Program} {w : World} {K : PySem.W.Frag} {mg : Str → Option Value} {base : Heap} {C fI cc cda : Addr} {fdI : FuncData} (X : Tx P K mg C fI cc cda fdI) : Cal P w K mg base CX0 1 "_law_made" p_law_made (spF q_made) :=
  cal_mk (k := 0) X.d_law_made sc_law_made (fun _ _ _ _ _ _ us hl => match us, hl with | [_, _], _ => rfl) (fun f cdv A outer s H E hr => pd_law_made X.T hr) (fun ds d h => by obtain ⟨_, _, _, _, _, rfl, rfl⟩ := h; rfl) (fun G H ds d h => r_law_made G H ds d h)
theorem c_law_told {P : Program} {w : World} {K : PySem.W.Frag} {mg : Str → Option Value} {base : Heap} {C fI cc cda : Addr} {fdI : FuncData} (X : Tx P K mg C fI cc cda fdI) : ∀ m : Nat, Cal P w K mg base CX0 (1 + m) "_law_told" p_law_told (spF (q_law_told m))
  | 0 => (cal_none X.d_law_told (fun _ _ _ _ _ _ us hl => match us, hl with | [_, _], _ => rfl) (fun ds d h => by obtain ⟨_, _, _, _, _, _, _, _, rfl, rfl⟩ := h; have := dep_pos (by assumption); omega)).mono (by omega)
  | m + 1 => cal_mk (k := 1 + m) X.d_law_told sc_law_told (fun _ _ _ _ _ _ us hl => match us, hl with | [_, _], _ => rfl) (fun f cdv A outer s H E hr => pd_law_told X.T ((c_law_parts X).mono (by omega)) ((c_law_made X).mono (by omega)) ((c_law_branches X m).mono (by omega)) ((c_law_told X m).mono (by omega)) hr) (fun ds d h => by obtain ⟨_, _, _, _, _, _, _, _, rfl, rfl⟩ := h; rfl) (fun G H ds d h => r_law_told m G H ds d h)
theorem c_law_wants {P : Program} {w : World} {K : PySem.W.Frag} {mg : Str → Option Value} {base : Heap} {C fI cc cda : Addr} {fdI : FuncData} (X : Tx P K mg C fI cc cda fdI) : Cal P w K mg base CX0 6 "_law_wants" p_law_wants (spF q_law_wants) :=
  cal_mk (k := 5) X.d_law_wants sc_law_wants (fun _ _ _ _ _ _ us hl => match us, hl with | [_, _, _], _ => rfl) (fun f cdv A outer s H E hr => pd_law_wants X.T ((c_law_told X 4).mono (by decide)) hr) (fun ds d h => by obtain ⟨_, _, _, _, _, _, _, _, _, rfl, rfl⟩ := h; rfl) (fun G H ds d h => r_law_wants G H ds d h)
theorem c_law_many_rows {P : Program} {w : World} {K : PySem.W.Frag} {mg : Str → Option Value} {base : Heap} {C fI cc cda : Addr} {fdI : FuncData} (X : Tx P K mg C fI cc cda fdI) : Cal P w K mg base CX0 6 "_law_many_rows" p_law_many_rows (spF q_law_many_rows) :=
  cal_mk (k := 5) X.d_law_many_rows sc_law_many_rows (fun _ _ _ _ _ _ us hl => match us, hl with | [_, _], _ => rfl) (fun f cdv A outer s H E hr => pd_law_many_rows X.T ((c_law_branches X 4).mono (by decide)) hr) (fun ds d h => by obtain ⟨_, _, _, _, rfl, rfl⟩ := h; rfl) (fun G H ds d h => r_law_many_rows G H ds d h)
theorem c_law_few {P : Program} {w : World} {K : PySem.W.Frag} {mg : Str → Option Value} {base : Heap} {C fI cc cda : Addr} {fdI : FuncData} (X : Tx P K mg C fI cc cda fdI) : Cal P w K mg base CX0 7 "_law_few" p_law_few (spF q_law_few) :=
  cal_mk (k := 6) X.d_law_few sc_law_few (fun _ _ _ _ _ _ us hl => match us, hl with | [_, _], _ => rfl) (fun f cdv A outer s H E hr => pd_law_few X.T ((c_law_many_rows X).mono (by decide)) hr) (fun ds d h => by obtain ⟨_, _, _, rfl, rfl⟩ := h; rfl) (fun G H ds d h => r_law_few G H ds d h)
theorem c_law_brought {P : Program} {w : World} {K : PySem.W.Frag} {mg : Str → Option Value} {base : Heap} {C fI cc cda : Addr} {fdI : FuncData} (X : Tx P K mg C fI cc cda fdI) : Cal P w K mg base CX0 1 "_law_brought" p_law_brought (spF q_law_brought) :=
  cal_mk (k := 0) X.d_law_brought sc_law_brought (fun _ _ _ _ _ _ us hl => match us, hl with | [_, _], _ => rfl) (fun f cdv A outer s H E hr => pd_law_brought X.T hr) (fun ds d h => by obtain ⟨_, _, _, _, _, _, rfl, rfl⟩ := h; rfl) (fun G H ds d h => r_law_brought G H ds d h)
theorem c_law_lots_next {P : Program} {w : World} {K : PySem.W.Frag} {mg : Str → Option Value} {base : Heap} {C fI cc cda : Addr} {fdI : FuncData} (X : Tx P K mg C fI cc cda fdI) : Cal P w K mg base CX0 7 "_law_lots_next" p_law_lots_next (spF q_law_lots_next) :=
  cal_mk (k := 6) X.d_law_lots_next sc_law_lots_next (fun _ _ _ _ _ _ us hl => match us, hl with | [_, _], _ => rfl) (fun f cdv A outer s H E hr => pd_law_lots_next X.T ((c_law_wants X).mono (by decide)) ((c_law_brought X).mono (by decide)) ((c_law_branches X 4).mono (by decide)) hr) (fun ds d h => by obtain ⟨_, _, _, _, rfl, rfl⟩ := h; rfl) (fun G H ds d h => r_law_lots_next G H ds d h)
theorem c_law_lot_rounds {P : Program} {w : World} {K : PySem.W.Frag} {mg : Str → Option Value} {base : Heap} {C fI cc cda : Addr} {fdI : FuncData} (X : Tx P K mg C fI cc cda fdI) : Cal P w K mg base CX0 8 "_law_lot_rounds" p_law_lot_rounds (spF q_law_lot_rounds) :=
  cal_mk (k := 7) X.d_law_lot_rounds sc_law_lot_rounds (fun _ _ _ _ _ _ us hl => match us, hl with | [_], _ => rfl) (fun f cdv A outer s H E hr => pd_law_lot_rounds X.T ((c_law_lots_next X).mono (by decide)) hr) (fun ds d h => by obtain ⟨_, _, _, _, _, _, rfl, rfl⟩ := h; rfl) (fun G H ds d h => r_law_lot_rounds G H ds d h)
theorem c_law_entries {P : Program} {w : World} {K : PySem.W.Frag} {mg : Str → Option Value} {base : Heap} {C fI cc cda : Addr} {fdI : FuncData} (X : Tx P K mg C fI cc cda fdI) : Cal P w K mg base CX0 1 "_law_entries" p_law_entries (spF q_law_entries) :=
  cal_mk (k := 0) X.d_law_entries sc_law_entries (fun _ _ _ _ _ _ us hl => match us, hl with | [_, _, _], _ => rfl) (fun f cdv A outer s H E hr => pd_law_entries X.T hr) (fun ds d h => by obtain ⟨_, _, _, _, rfl, rfl⟩ := h; rfl) (fun G H ds d h => r_law_entries G H ds d h)
theorem c_law_range {P : Program} {w : World} {K : PySem.W.Frag} {mg : Str → Option Value} {base : Heap} {C fI cc cda : Addr} {fdI : FuncData} (X : Tx P K mg C fI cc cda fdI) : ∀ m : Nat, Cal P w K mg base CX0 (1 + m) "_law_range" p_law_range (spF (q_law_range m))
  | 0 => (cal_none X.d_law_range (fun _ _ _ _ _ _ us hl => match us, hl with | [_, _], _ => rfl) (fun ds d h => by obtain ⟨_, _, _, _, _, _, rfl, rfl⟩ := h; have := dep_pos (by assumption); omega)).mono (by omega)
  | m + 1 => cal_mk (k := 1 + m) X.d_law_range sc_law_range (fun _ _ _ _ _ _ us hl => match us, hl with | [_, _], _ => rfl) (fun f cdv A outer s H E hr => pd_law_range X.T ((c_law_range X m).mono (by omega)) ((c_law_entries X).mono (by omega)) ((c_law_parts X).mono (by omega)) ((c_law_made X).mono (by omega)) hr) (fun ds d h => by obtain ⟨_, _, _, _, _, _, rfl, rfl⟩ := h; rfl) (fun G H ds d h => r_law_range m G H ds d h)
theorem c_law_turn {P : Program} {w : World} {K : PySem.W.Frag} {mg : Str → Option Value} {base : Heap} {C fI cc cda : Addr} {fdI : FuncData} (X : Tx P K mg C fI cc cda fdI) : Cal P w K mg base CX0 6 "_law_turn" p_law_turn (spF q_law_turn) :=
  cal_mk (k := 5) X.d_law_turn sc_law_turn (fun _ _ _ _ _ _ us hl => match us, hl with | [_, _], _ => rfl) (fun f cdv A outer s H E hr => pd_law_turn X.T ((c_law_range X 4).mono (by decide)) ((c_law_entries X).mono (by decide)) hr) (fun ds d h => by obtain ⟨_, _, _, _, _, _, _, rfl, rfl⟩ := h; rfl) (fun G H ds d h => r_law_turn G H ds d h)
theorem c_law_words {P : Program} {w : World} {K : PySem.W.Frag} {mg : Str → Option Value} {base : Heap} {C fI cc cda : Addr} {fdI : FuncData} (X : Tx P K mg C fI cc cda fdI) : ∀ m : Nat, Cal P w K mg base CX0 (6 + m) "_law_words" p_law_words (spF (q_law_words m))
  | 0 => (cal_none X.d_law_words (fun _ _ _ _ _ _ us hl => match us, hl with | [_, _, _, _], _ => rfl) (fun ds d h => by obtain ⟨_, _, _, _, _, _, _, _, _, _, _, _, rfl, rfl⟩ := h; have := dep_pos (by assumption); omega)).mono (by omega)
  | m + 1 => cal_mk (k := 6 + m) X.d_law_words sc_law_words (fun _ _ _ _ _ _ us hl => match us, hl with | [_, _, _, _], _ => rfl) (fun f cdv A outer s H E hr => pd_law_words X.T ((c_law_range X 4).mono (by omega)) ((c_law_parts X).mono (by omega)) ((c_law_words X m).mono (by omega)) ((c_law_turn X).mono (by omega)) hr) (fun ds d h => by obtain ⟨_, _, _, _, _, _, _, _, _, _, _, _, rfl, rfl⟩ := h; rfl) (fun G H ds d h => r_law_words m G H ds d h)
theorem c_law_ways {P : Program} {w : World} {K : PySem.W.Frag} {mg : Str → Option Value} {base : Heap} {C fI cc cda : Addr} {fdI : FuncData} (X : Tx P K mg C fI cc cda fdI) : Cal P w K mg base CX0 11 "_law_ways" p_law_ways (spF q_law_ways) :=
  cal_mk (k := 10) X.d_law_ways sc_law_ways (fun _ _ _ _ _ _ us hl => match us, hl with | [_, _], _ => rfl) (fun f cdv A outer s H E hr => pd_law_ways X.T ((c_law_range X 4).mono (by decide)) ((c_law_words X 4).mono (by decide)) hr) (fun ds d h => by obtain ⟨_, _, _, _, rfl, rfl⟩ := h; rfl) (fun G H ds d h => r_law_ways G H ds d h)
theorem c_law_one_way {P : Program} {w : World} {K : PySem.W.Frag} {mg : Str → Option Value} {base : Heap} {C fI cc cda : Addr} {fdI : FuncData} (X : Tx P K mg C fI cc cda fdI) : Cal P w K mg base CX0 12 "_law_one_way" p_law_one_way (spF q_law_one_way) :=
  cal_mk (k := 11) X.d_law_one_way sc_law_one_way (fun _ _ _ _ _ _ us hl => match us, hl with | [_], _ => rfl) (fun f cdv A outer s H E hr => pd_law_one_way X.T ((c_law_ways X).mono (by decide)) hr) (fun ds d h => by obtain ⟨_, _, rfl, rfl⟩ := h; rfl) (fun G H ds d h => r_law_one_way G H ds d h)
theorem c_law_doubled {P : Program} {w : World} {K : PySem.W.Frag} {mg : Str → Option Value} {base : Heap} {C fI cc cda : Addr} {fdI : FuncData} (X : Tx P K mg C fI cc cda fdI) : Cal P w K mg base CX0 12 "_law_doubled" p_law_doubled (spF q_law_doubled) :=
  cal_mk (k := 11) X.d_law_doubled sc_law_doubled (fun _ _ _ _ _ _ us hl => match us, hl with | [_, _], _ => rfl) (fun f cdv A outer s H E hr => pd_law_doubled X.T ((c_law_ways X).mono (by decide)) ((c_law_branches X 4).mono (by decide)) ((c_law_wants X).mono (by decide)) hr) (fun ds d h => by obtain ⟨_, _, _, _, _, _, _, _, rfl, rfl⟩ := h; rfl) (fun G H ds d h => r_law_doubled G H ds d h)
end K24

set_option Elab.async false
set_option linter.all false
set_option maxRecDepth 100000
/-! K24F: what is refused (the law's own teller of it). -/
namespace K24
open PySem PySem.Spec PyProof.Rows L2
def spB (C : Addr) (bad : List PD → Int → Prop) : Sp := fun vs H Q E => ∃ (ds : List PD) (G : Hp) (n : Int), DqAll G vs ds ∧ Same G H ∧ bad ds n ∧ XT C n H E
/-- work(..), work a name that may hold one of several defs -/
def tCallV (i : Nat) (S : Addr → Prop) (sp : Sp) (E : L2.St → XK) (t : TA) : TE := fun σ H Q => ∃ f : Addr, σ[i]? = some (some (.ref f)) ∧ S f ∧ t σ H fun vs H1 => sp vs H1 Q (E σ)
theorem pe_callV {X : Cx} {CX : CXT} {k i : Nat} {S : Addr → Prop} {sp : Sp} {E : L2.St → XK} {x : Str} {p pos : Pos} {e : Expr} {es : List Expr} {t : TA} (A : ∀ f, S f → ∃ (fd : FuncData) (ps : List Str), FnOk X.prog X.w X.K X.mg X.base CX k f fd ps sp ∧ PySem.W.keepIn X.K (.ref f) = true ∧ Binds X.K fd ps [])
    (hr : Room k X.A) (hN : X.N[i]? = some x) (hv : Vis X.env.scope x) (hx : ∀ σ, PassesAt CX X σ (E σ)) (ha : PA X (e :: es) t) (hdb : (x == ("__debug__" : Str)) = false := by decide) (hcd : (x == ("__classdict__" : Str)) = false := by decide)
    (he : starEach (e :: es) X.env = (false, eval e X.env) :: starEach es X.env := by rfl) (hpl : (backTo pos (starEach es X.env)).any (·.1) = false := by rfl) : PE X (.Call (.Name x p) (e :: es) [] pos) (tCallV i S sp E t) := ⟨fun pins s σ H Q I h => by
  obtain ⟨f, hs, hS, ht⟩ := h
  obtain ⟨fd, ps, F, hk, hb⟩ := A f hS
  refine wpAny_Call_Name_kw (thn ((pe_var (pos := p) hN hv hdb hcd).run pins s σ H (fun v H1 => v = .ref f ∧ H1 = H) I ⟨.ref f, hs, rfl, rfl⟩) fun u s1 ⟨v, H1, I1, r1, e1, e2⟩ => ?_)
  subst e1 e2
  cases r1
  exact PySem.W.callWith_K (h₀ := X.base) I.ok.mod.kin hk (thn (ha.run pos pins s1 σ _ _ I1 ht) fun us s2 ⟨vs, H2, I2, r, q⟩ => ⟨I2.kIn, run_fnS F hr hb (hx σ) I2 r q⟩) he hpl⟩
/-! ### slots that hold any value -/
theorem SR.setV {W : Wd} {G H : Hp} {σ : L2.St} {Γ : List Sl} (s : SR W G H σ Γ) (i : Nat) (v : V) : SR W G H (σ.set i (some v)) (Γ.set i (.v v)) := by
  have ne : ∀ {j : Nat} {x : Sl}, (∀ v, x ≠ Sl.v v) → (Γ.set i (.v v))[j]? = some x → j ≠ i ∧ Γ[j]? = some x := fun {j x} hx e => by
    by_cases hj : j = i
    · subst hj
      have hl : j < Γ.length := by
        have := (List.getElem?_eq_some_iff.mp e).1
        rwa [List.length_set] at this
      rw [List.getElem?_set_self hl] at e
      exact absurd (Option.some.inj e).symm (hx v)
    · exact ⟨hj, by rwa [List.getElem?_set_ne (Ne.symm hj)] at e⟩
  refine ⟨by rw [List.length_set, List.length_set]; exact s.len, s.fw, s.mz, s.ph, fun j x e => ?_, fun j x e => ?_, fun j x e => ?_, fun j k xs ys p e1 e2 hjk h => ?_⟩
  · obtain ⟨n1, n2⟩ := ne (fun _ z => by cases z) e
    rw [List.getElem?_set_ne (Ne.symm n1)]
    exact s.dd j x n2
  · obtain ⟨n1, n2⟩ := ne (fun _ z => by cases z) e
    rw [List.getElem?_set_ne (Ne.symm n1)]
    exact s.ll j x n2
  · by_cases hj : j = i
    · subst hj
      have hl : j < Γ.length := by
        have := (List.getElem?_eq_some_iff.mp e).1
        rwa [List.length_set] at this
      rw [List.getElem?_set_self hl] at e
      cases e
      exact List.getElem?_set_self (by rw [s.len]; exact hl)
    · rw [List.getElem?_set_ne (Ne.symm hj)] at e ⊢
      exact s.vv j x e
  · obtain ⟨n1, m1⟩ := ne (fun _ z => by cases z) e1
    obtain ⟨n2, m2⟩ := ne (fun _ z => by cases z) e2
    rw [List.getElem?_set_ne (Ne.symm n1)] at h
    rw [List.getElem?_set_ne (Ne.symm n2)]
    exact s.ap j k xs ys p m1 m2 hjk h
/-- for x in [..] of values -/
theorem ds_forV {W : Wd} {Γ : List Sl} {K : PySem.W.Frag} {t : TA} {i : Nat} {vs : List V} {tb : TS} {N : List Sl → Prop} {R : PD → Prop} {B C : List Sl → Prop} (ht : ∀ σ H Q, Q vs H → t σ H Q) (hz : vs.length ≤ sizeLine) (I : Nat → List Sl → Prop) (i0 : I 0 Γ)
    (st : ∀ (j : Nat) (v : V) (Γ' : List Sl), vs[j]? = some v → I j Γ' → DS W tb (Γ'.set i (.v v)) (I (j + 1)) R N (I (j + 1))) (en : ∀ Γ', I vs.length Γ' → N Γ') : DS W (tFor (iList K (tLst t)) (gName i) tb) Γ N R B C := fun σ G H D s n r b c => by
  refine ht σ H _ ⟨hz, fun p hp => ?_⟩
  have s1 := s.new (.lst vs) hp
  have gr : Same G (upd G p (.lst vs)) := Fw.grow (M := Nm) (Fw.new s.sub hp) s.sub
  have sq : ∀ {G' H' : Hp}, Same (upd G p (.lst vs)) G' → Same G' H' → SqL K H' p vs := fun g q => SqL.of (q _ _ (g _ _ upd_same))
  refine ⟨p, rfl, ⟨vs, SqL.of upd_same⟩, ?_⟩
  refine ⟨fun j m σ' H' => m = vs.length - j ∧ j ≤ vs.length ∧ ∃ Γ' G', SR W G' H' σ' Γ' ∧ Same (upd G p (.lst vs)) G' ∧ I j Γ', ⟨vs.length, by simp, Nat.zero_le _, Γ, _, s1, Same.refl _, i0⟩, ?_⟩
  rintro j m σ' H' ⟨rfl, hj, Γ', G', s', g', inv⟩
  have hq := sq g' s'.sub
  by_cases hlt : j < vs.length
  · have hv := List.getElem?_eq_getElem hlt
    refine .inr ⟨⟨vs, _, hq, hv⟩, fun σ2 H2 => ∃ Γ2 G2, SR W G2 H2 σ2 Γ2 ∧ Same (upd G p (.lst vs)) G2 ∧ I (j + 1) Γ2, fun σ2 H2 q => ⟨vs.length - (j + 1), by omega, rfl, hlt, q⟩, fun y H2 hy => ?_⟩
    obtain ⟨rfl, k⟩ := hy
    have e2 := k vs hq
    rw [hv] at e2
    cases e2
    refine st j _ Γ' hv inv _ G' _ _ (s'.setV i _) (fun a1 a2 a3 a4 a5 a6 a7 => ⟨a4, a2, a5, g'.trans a6, a7⟩) r (fun a1 a2 a3 a4 a5 a6 a7 => n a1 a2 a3 a4 a5 (gr.trans (g'.trans a6)) a7) (fun a1 a2 a3 a4 a5 a6 a7 => ⟨a4, a2, a5, g'.trans a6, a7⟩)
  · have e : j = vs.length := by omega
    subst e
    exact .inl ⟨⟨vs, hq, Nat.le_refl _⟩, n σ' G' H' Γ' s' (gr.trans g') (en Γ' inv)⟩
/-! ### its reading -/
def t_suite (K : PySem.W.Frag) (C : Addr) (a : Addr) (cls : Value) (d : Option Addr) : TS := tDrop (tBM K "list" rAppend (tVar 1) (tCons (tXf a cls d C "at" (tVar 3)) tNil))
def t_catch (K : PySem.W.Frag) (C : Addr) (tb : (L2.St → XK) → TE) : TS := fun D σ H => tDrop (tb (WE (wAs K (.ref C) 3 (t_suite K C) (fun _ _ _ _ => False) D))) D σ H
def t_law_refused (K : PySem.W.Frag) (C f1 f2 f3 f4 : Addr) : TS :=
  tSeq (tAsg (tLst tNil) (gName 1)) (tSeq (tFor (iList K (tLst (tCons (tC (.ref f1)) (tCons (tC (.ref f2)) (tCons (tC (.ref f3)) (tCons (tC (.ref f4)) tNil)))))) (gName 2) (t_catch K C fun E => tCallV 2 (fun f => f = f1 ∨ f = f2 ∨ f = f3 ∨ f = f4) (spB C b_net) E (tCons (tVar 0) tNil)))
    (tSeq (t_catch K C fun E => tCallS (spB C b_lots_next) E (tCons (tVar 0) (tCons (tCB (rTupQ K) (tCons (tLc (iTup K (tOp (rIxT K) (tVar 0) (tC (.int 0)))) (gName 4) tYes (tTup (tCons (tC (.int 0)) tNil)) [4]) tNil)) tNil)))
      (tRet (tVar 1))))
/-- what is caught is told -/
theorem catch_ok {K : PySem.W.Frag} {G0 H0 : Hp} {C : Addr} {te : K = K} (hte : PySem.W.exmOne K (.ref C) (.ref C) = some true) {σ : L2.St} {G H : Hp} {Γ : List Sl} {D : Ends} {xs : List PD} {n : Int} (s : SR (W0 K G0 H0) G H σ Γ) (h1 : Γ[1]? = some (Sl.l xs)) (hz : xs.length < 100000) (h3 : 3 < Γ.length)
    (k : ∀ (σ' : L2.St) (H' : Hp), SR (W0 K G0 H0) G H' σ' ((Γ.set 3 .no).set 1 (.l (xs ++ [.int n]))) → D.nx σ' H') : XT C n H (WE (wAs K (.ref C) 3 (t_suite K C) (fun _ _ _ _ => False) D) σ) := fun d H' sm hd => by
  refine ⟨true, hte, fun _ a ha => ?_, fun z => nomatch z⟩
  obtain ⟨p, ws, e1, e2, e3, e4, e5⟩ := s.ll 1 xs h1
  have f : Fw Nm G H G H' := ⟨fun b o e _ => sm b o e, fun b o e => ⟨o, sm b o e⟩, fun _ _ _ => rfl, fun b o e => sm b o (s.sub b o e)⟩
  have s2 := s.step0 f
  have e2' := sm p _ e2
  have hσ1 : (σ.set 3 (some (V.ref a)))[1]? = some (some (V.ref p)) := by rw [List.getElem?_set_ne (by decide)]; exact e1
  have hσ3 : (σ.set 3 (some (V.ref a)))[3]? = some (some (V.ref a)) := List.getElem?_set_self (by rw [s.len]; exact h3)
  refine ⟨.ref p, hσ1, .inl ⟨rfl, _, SqL.of e2'⟩, ?_⟩
  refine ⟨.ref a, hσ3, rfl, rfl, d, _, .int n, rfl, hd, rfl, ?_⟩
  refine ⟨p, ws, .int n, rfl, rfl, e2', Nat.lt_of_lt_of_le (by rw [e5.length]; exact hz) (by decide : 100000 ≤ sizeLine), ?_⟩
  show D.nx ((σ.set 3 (some (V.ref a))).set 3 none) (upd H' p (.lst (ws ++ [.int n])))
  have s3 : SR (W0 K G0 H0) G H' (σ.set 3 none) (Γ.set 3 .no) := s2.weak (by rw [List.length_set, List.length_set]; exact s.len) fun i x e hx => by
    by_cases hi : i = 3
    · subst hi
      rw [List.getElem?_set_self h3] at e
      exact absurd (Option.some.inj e).symm hx
    · rw [List.getElem?_set_ne (Ne.symm hi)] at e ⊢
      exact ⟨e, rfl⟩
  have es : (σ.set 3 (some (V.ref a))).set 3 none = σ.set 3 none := by rw [List.set_set]
  rw [es]
  have h1' : (Γ.set 3 .no)[1]? = some (Sl.l xs) := by rw [List.getElem?_set_ne (by decide)]; exact h1
  have hσ1' : (σ.set 3 none)[1]? = some (some (V.ref p)) := by rw [List.getElem?_set_ne (by decide)]; exact e1
  exact k _ _ (s3.grow h1' hσ1' e2' (e5.append (.cons (.int n) .nil)))
def q_law_refused (ds : List PD) (d : PD) : Prop := ∃ (net : Net) (n : Int), great net n ∧ ds = [encN net] ∧ d = .list (List.replicate 5 (.int n))
theorem r_law_refused {K : PySem.W.Frag} {C f1 f2 f3 f4 : Addr} (hte : PySem.W.exmOne K (.ref C) (.ref C) = some true) (G H : Hp) (ds : List PD) (d : PD) (h : q_law_refused ds d) : DS (W0 K G H) (t_law_refused K C f1 f2 f3 f4) (ds.map Sl.d ++ List.replicate 4 Sl.no) No (fun z => z = d) No No := by
  obtain ⟨net, n, g, rfl, rfl⟩ := h
  have B := g.1
  have hf := B.ok.few
  unfold t_law_refused
  refine ds_seq (ds_own0 ?_)
  refine ds_seq (ds_forV (vs := [.ref f1, .ref f2, .ref f3, .ref f4]) (fun σ H Q q => q) (by rw [sizeLine_eq]; exact Nat.le_of_ble_eq_true rfl) (fun j Γ => j ≤ 4 ∧ ∃ b, Γ = [Sl.d (encN net), .l (List.replicate j (.int n)), b, .no, .no]) ⟨Nat.zero_le _, .no, rfl⟩ ?_ ?_)
  · rintro j v Γ' hv ⟨hj, b, rfl⟩
    have hj4 : j < 4 := (List.getElem?_eq_some_iff.mp hv).1
    obtain ⟨f, rfl, hS⟩ : ∃ f : Addr, v = .ref f ∧ (f = f1 ∨ f = f2 ∨ f = f3 ∨ f = f4) := by
      have hm := List.mem_of_getElem? hv
      simp only [List.mem_cons, List.not_mem_nil, or_false] at hm
      rcases hm with e | e | e | e
      · exact ⟨f1, e, .inl rfl⟩
      · exact ⟨f2, e, .inr (.inl rfl)⟩
      · exact ⟨f3, e, .inr (.inr (.inl rfl))⟩
      · exact ⟨f4, e, .inr (.inr (.inr rfl))⟩
    intro σ1 G1 H1 D s1 nn rr bb cc
    refine ⟨f, s1.vv 2 _ rfl, hS, ?_⟩
    refine dav_cons (dv_var (x := encN net) rfl) da_nil σ1 G1 H1 s1 _ fun vs G2 H2 ys s2 f2 p hv2 => ?_
    subst p
    refine ⟨[encN net], G2, n, hv2, s2.sub, ⟨net, g, rfl⟩, catch_ok (te := rfl) hte s2 rfl (by rw [List.length_replicate]; omega) (by show 3 < 5; decide) fun σ' H' s' => ?_⟩
    refine nn σ' G2 H' _ s' (f2.grow s1.sub) ⟨hj4, .v (.ref f), ?_⟩
    rw [List.replicate_succ']
    rfl
  · rintro Γ' ⟨_, b, rfl⟩
    refine ds_seq (DS.imp (N := fun Γ => ∃ b, Γ = [Sl.d (encN net), .l (List.replicate 5 (.int n)), b, .no, .no]) ?_ fun Γ2 e => ?_)
    · intro σ1 G1 H1 D s1 nn rr bb cc
      have m := dv_map (W := W0 K G H) (Γ := [Sl.d (encN net), .l (List.replicate 4 (.int n)), b, .no, .no]) (vs := [4]) (j := 4) (f := fun _ => .tuple [.int 0]) (te := tTup (tCons (tC (.int 0)) tNil)) (div_t (K := K) (te := tOp (rIxT K) (tVar 0) (tC (.int 0))) (dv_at (K := K) (dv_var (i := 0) (x := encN net) rfl) at0)) (by rw [Ls_len]; omega) (by simp) (fun i y hy => dv_tup (dav_cons dv_int da_nil) (Nat.le_of_ble_eq_true rfl))
      unfold t_catch tDrop tCallS
      refine dav_cons (dv_var (i := 0) (x := encN net) rfl) (dav_cons (dv_cb (dav_cons m da_nil) (rc_tupL (K := K))) da_nil) σ1 G1 H1 s1 _ fun vs G2 H2 ys s2 f2 p hv2 => ?_
      subst p
      refine ⟨_, G2, n, hv2, s2.sub, ⟨net, _, g, rfl⟩, catch_ok (te := rfl) hte s2 rfl (by rw [List.length_replicate]; omega) (by show 3 < 5; decide) fun σ' H' s' => ?_⟩
      exact nn σ' G2 H' _ s' (f2.grow s1.sub) ⟨b, rfl⟩
    · obtain ⟨b2, rfl⟩ := e
      exact ds_freeze 1 rfl (ds_rv (dv_var rfl))
abbrev n_law_refused : List Str := ["_law_net_here", "_law_found", "_law_work", "wrong", "_law_top"]
theorem sc_law_refused : FnScope n_law_refused ["_law_net_here"] (defScope s_law_refused) := ⟨rfl, rfl, rfl, by decide +kernel, rfl, by decide +kernel, by decide +kernel⟩
theorem spX_B {C : Addr} {rel : List PD → PD → Prop} {bad : List PD → Int → Prop} (vs : List V) (H : Hp) (Q : VK) (E : XK) (h : spB C bad vs H Q E) : spX C rel bad vs H Q E := .inr h
theorem c_law_refused {P : Program} {w : World} {K : PySem.W.Frag} {mg : Str → Option Value} {base : Heap} {C fI cc cda : Addr} {fdI : FuncData} (X : Tx P K mg C fI cc cda fdI) : Cal P w K mg base CX0 17 "_law_refused" ["_law_net_here"] (spF q_law_refused) := by
  obtain ⟨f1, fd1, F1, m1, k1, b1⟩ := ((c_lot_rounds (w := w) (base := base) X).mono (k := 16) (by decide)).ex
  obtain ⟨f2, fd2, F2, m2, k2, b2⟩ := ((c_last_lots (w := w) (base := base) X).mono (k := 16) (by decide)).ex
  obtain ⟨f3, fd3, F3, m3, k3, b3⟩ := ((c_known_rounds (w := w) (base := base) X).mono (k := 16) (by decide)).ex
  obtain ⟨f4, fd4, F4, m4, k4, b4⟩ := ((c_is_sure (w := w) (base := base) X).mono (k := 16) (by decide)).ex
  obtain ⟨f5, fd5, F5, m5, k5, b5⟩ := ((c_lots_next (w := w) (base := base) X).mono (k := 16) (by decide)).ex
  have held : ∀ f : Addr, (f = f1 ∨ f = f2 ∨ f = f3 ∨ f = f4) → ∃ (fd : FuncData) (ps : List Str), FnOk P w K mg base (L2.CX P w) 16 f fd ps (spB C b_net) ∧ PySem.W.keepIn K (.ref f) = true ∧ Binds K fd ps [] := by
    intro f hf
    rcases hf with rfl | rfl | rfl | rfl
    · exact ⟨fd1, _, F1.imp spX_B, k1, b1⟩
    · exact ⟨fd2, _, F2.imp spX_B, k2, b2⟩
    · exact ⟨fd3, _, F3.imp spX_B, k3, b3⟩
    · exact ⟨fd4, _, F4.imp spX_B, k4, b4⟩
  refine cal_mk (k := 16) (N := n_law_refused) (t := t_law_refused K C f1 f2 f3 f4) X.d_law_refused sc_law_refused (fun _ _ _ _ _ _ us hl => match us, hl with | [_], _ => rfl) (fun f cdv A outer s H E hr => ?_) (fun ds d h => by obtain ⟨_, _, _, rfl, rfl⟩ := h; rfl) (fun G H ds d h => r_law_refused X.rt.te G H ds d h)
  have nm : Names (cxOf CX0 P w K mg base n_law_refused "_law_refused" (defScope s_law_refused) f cdv A outer s H E).nox "Refused" (.ref C) := ⟨rfl, by decide, .inl X.rt.gC⟩
  exact pss_cons (ps_set (i := 1) sc_law_refused.nd rfl (Or.inl rfl) (pe_lst pa_nil))
    (pss_cons (ps_for PassesOwn.never rfl (pi_list (pe_lst (pa_cons (pe_glob (v := .ref f1) (by rfl) m1 rfl) (pa_cons (pe_glob (v := .ref f2) (by rfl) m2 rfl) (pa_cons (pe_glob (v := .ref f3) (by rfl) m3 rfl) (pa_cons (pe_glob (v := .ref f4) (by rfl) m4 rfl) pa_nil)))))) (pg_name (i := 2) sc_law_refused.nd rfl (Or.inl rfl))
      (pss_one (L2.ps_try_as (i := 3) (tb := fun W => tDrop (tCallV 2 (fun f => f = f1 ∨ f = f2 ∨ f = f3 ∨ f = f4) (spB C b_net) (WE W) (tCons (tVar 0) tNil))) (ts := t_suite K C) (Wout := fun _ _ _ _ => False) rfl rfl sc_law_refused.nd rfl rfl nm takes0
        (fun W pn xe tk _ => pss_one (ps_expr (pe_callV (CX := L2.CX P w) (k := 16) held hr rfl (Or.inl rfl) (fun σ => passAt tk σ) (pa_cons (pv 0) pa_nil))))
        (fun a oe cls d pn hz hf => pss_one (ps_expr (pe_bm PySem.F.plainAttrs_list PySem.F.slot_list_append PySem.F.type_list_append mt_append (pv 1) (pa_cons (pe_xf X.rt.xf X.rt.noat hz hf (pv 3)) pa_nil)))))))
    (pss_cons (L2.ps_try_as (i := 3) (tb := fun W => tDrop (tCallS (spB C b_lots_next) (WE W) (tCons (tVar 0) (tCons (tCB (rTupQ K) (tCons (tLc (iTup K (tOp (rIxT K) (tVar 0) (tC (.int 0)))) (gName 4) tYes (tTup (tCons (tC (.int 0)) tNil)) [4]) tNil)) tNil)))) (ts := t_suite K C) (Wout := fun _ _ _ _ => False) rfl rfl sc_law_refused.nd rfl rfl nm takes0
        (fun W pn xe tk _ => pss_one (ps_expr (pe_callS (F5.imp spX_B) hr (by rfl) m5 k5 b5 (fun σ => passAt tk σ) (pa_cons (pv 0) (pa_cons (pe_callTy cq_tup (by rfl) X.T.tuple_ (by decide +kernel) (pa_cons (pe_lc (own := [("_law_top", 4)]) rfl sc_law_refused.nd (pi_tup (pe_ix ix_tup (pv 0) pe_int (fun _ _ => rfl))) (blkOk_by (by rfl)) (fun _ _ _ _ _ => (pg_name (i := 4) sc_law_refused.nd rfl (Or.inl rfl))) (fun _ _ _ _ _ => pts_nil) (fun _ _ _ _ _ => pe_tup (pa_cons pe_int pa_nil))) pa_nil)) pa_nil)))))
        (fun a oe cls d pn hz hf => pss_one (ps_expr (pe_bm PySem.F.plainAttrs_list PySem.F.slot_list_append PySem.F.type_list_append mt_append (pv 1) (pa_cons (pe_xf X.rt.xf X.rt.noat hz hf (pv 3)) pa_nil)))))
    (pss_one (ps_ret (pv 1)))))
end K24

set_option Elab.async false
set_option linter.all false
set_option maxRecDepth 100000
set_option maxHeartbeats 0
/-! K24H: the head (printed by headgen2.py). -/
namespace K24
open PySem PySem.Spec PyProof.Rows L2
abbrev PW : Program := PySem.Challenge.pw_newsbehind_k24_whole_lots_round_by_round

def e_is_integer : He.DefD := ⟨("is_integer", none), "is_integer", "is_integer", defArgs s_is_integer, defBody s_is_integer, defScope s_is_integer, [], []⟩
def e_is_number : He.DefD := ⟨("is_number", none), "is_number", "is_number", defArgs s_is_number, defBody s_is_number, defScope s_is_number, [], []⟩
def e_is_index : He.DefD := ⟨("is_index", none), "is_index", "is_index", defArgs s_is_index, defBody s_is_index, defScope s_is_index, [], []⟩
def e_is_worth : He.DefD := ⟨("is_worth", none), "is_worth", "is_worth", defArgs s_is_worth, defBody s_is_worth, defScope s_is_worth, [], []⟩
def e_is_head : He.DefD := ⟨("is_head", none), "is_head", "is_head", defArgs s_is_head, defBody s_is_head, defScope s_is_head, [], []⟩
def e_parts_of : He.DefD := ⟨("parts_of", none), "parts_of", "parts_of", defArgs s_parts_of, defBody s_parts_of, defScope s_parts_of, [], []⟩
def e_branches : He.DefD := ⟨("branches", none), "branches", "branches", defArgs s_branches, defBody s_branches, defScope s_branches, [], []⟩
def e_made : He.DefD := ⟨("made", none), "made", "made", defArgs s_made, defBody s_made, defScope s_made, [], []⟩
def e_told_by : He.DefD := ⟨("told_by", none), "told_by", "told_by", defArgs s_told_by, defBody s_told_by, defScope s_told_by, [], []⟩
def e_told : He.DefD := ⟨("told", none), "told", "told", defArgs s_told, defBody s_told, defScope s_told, [], []⟩
def e_wanted : He.DefD := ⟨("wanted", none), "wanted", "wanted", defArgs s_wanted, defBody s_wanted, defScope s_wanted, [], []⟩
def e_first_lots : He.DefD := ⟨("first_lots", none), "first_lots", "first_lots", defArgs s_first_lots, defBody s_first_lots, defScope s_first_lots, [], []⟩
def e_check_few : He.DefD := ⟨("check_few", none), "check_few", "check_few", defArgs s_check_few, defBody s_check_few, defScope s_check_few, [], []⟩
def e_rows_from : He.DefD := ⟨("rows_from", none), "rows_from", "rows_from", defArgs s_rows_from, defBody s_rows_from, defScope s_rows_from, [], []⟩
def e_lots_next : He.DefD := ⟨("lots_next", none), "lots_next", "lots_next", defArgs s_lots_next, defBody s_lots_next, defScope s_lots_next, [], []⟩
def e_lot_rounds : He.DefD := ⟨("lot_rounds", none), "lot_rounds", "lot_rounds", defArgs s_lot_rounds, defBody s_lot_rounds, defScope s_lot_rounds, [], []⟩
def e_last_lots : He.DefD := ⟨("last_lots", none), "last_lots", "last_lots", defArgs s_last_lots, defBody s_last_lots, defScope s_last_lots, [], []⟩
def e_known_rounds : He.DefD := ⟨("known_rounds", none), "known_rounds", "known_rounds", defArgs s_known_rounds, defBody s_known_rounds, defScope s_known_rounds, [], []⟩
def e_is_sure : He.DefD := ⟨("is_sure", none), "is_sure", "is_sure", defArgs s_is_sure, defBody s_is_sure, defScope s_is_sure, [], []⟩
def e_law_draw : He.DefD := ⟨("_law_draw", none), "_law_draw", "_law_draw", defArgs s_law_draw, defBody s_law_draw, defScope s_law_draw, [], []⟩
def e_law_any : He.DefD := ⟨("_law_any", none), "_law_any", "_law_any", defArgs s_law_any, defBody s_law_any, defScope s_law_any, [], []⟩
def e_law_of : He.DefD := ⟨("_law_of", none), "_law_of", "_law_of", defArgs s_law_of, defBody s_law_of, defScope s_law_of, [], []⟩
def e_law_rule : He.DefD := ⟨("_law_rule", none), "_law_rule", "_law_rule", defArgs s_law_rule, defBody s_law_rule, defScope s_law_rule, [], []⟩
def e_law_net : He.DefD := ⟨("_law_net", none), "_law_net", "_law_net", defArgs s_law_net, defBody s_law_net, defScope s_law_net, [], []⟩
def e_law_parts : He.DefD := ⟨("_law_parts", none), "_law_parts", "_law_parts", defArgs s_law_parts, defBody s_law_parts, defScope s_law_parts, [], []⟩
def e_law_branches : He.DefD := ⟨("_law_branches", none), "_law_branches", "_law_branches", defArgs s_law_branches, defBody s_law_branches, defScope s_law_branches, [], []⟩
def e_law_made : He.DefD := ⟨("_law_made", none), "_law_made", "_law_made", defArgs s_law_made, defBody s_law_made, defScope s_law_made, [], []⟩
def e_law_told : He.DefD := ⟨("_law_told", none), "_law_told", "_law_told", defArgs s_law_told, defBody s_law_told, defScope s_law_told, [], []⟩
def e_law_wants : He.DefD := ⟨("_law_wants", none), "_law_wants", "_law_wants", defArgs s_law_wants, defBody s_law_wants, defScope s_law_wants, [], []⟩
def e_law_entries : He.DefD := ⟨("_law_entries", none), "_law_entries", "_law_entries", defArgs s_law_entries, defBody s_law_entries, defScope s_law_entries, [], []⟩
def e_law_range : He.DefD := ⟨("_law_range", none), "_law_range", "_law_range", defArgs s_law_range, defBody s_law_range, defScope s_law_range, [], []⟩
def e_law_turn : He.DefD := ⟨("_law_turn", none), "_law_turn", "_law_turn", defArgs s_law_turn, defBody s_law_turn, defScope s_law_turn, [], []⟩
def e_law_words : He.DefD := ⟨("_law_words", none), "_law_words", "_law_words", defArgs s_law_words, defBody s_law_words, defScope s_law_words, [], []⟩
def e_law_ways : He.DefD := ⟨("_law_ways", none), "_law_ways", "_law_ways", defArgs s_law_ways, defBody s_law_ways, defScope s_law_ways, [], []⟩
def e_law_many_rows : He.DefD := ⟨("_law_many_rows", none), "_law_many_rows", "_law_many_rows", defArgs s_law_many_rows, defBody s_law_many_rows, defScope s_law_many_rows, [], []⟩
def e_law_few : He.DefD := ⟨("_law_few", none), "_law_few", "_law_few", defArgs s_law_few, defBody s_law_few, defScope s_law_few, [], []⟩
def e_law_small_net : He.DefD := ⟨("_law_small_net", none), "_law_small_net", "_law_small_net", defArgs s_law_small_net, defBody s_law_small_net, defScope s_law_small_net, [], []⟩
def e_law_brought : He.DefD := ⟨("_law_brought", none), "_law_brought", "_law_brought", defArgs s_law_brought, defBody s_law_brought, defScope s_law_brought, [], []⟩
def e_law_lots_next : He.DefD := ⟨("_law_lots_next", none), "_law_lots_next", "_law_lots_next", defArgs s_law_lots_next, defBody s_law_lots_next, defScope s_law_lots_next, [], []⟩
def e_law_lot_rounds : He.DefD := ⟨("_law_lot_rounds", none), "_law_lot_rounds", "_law_lot_rounds", defArgs s_law_lot_rounds, defBody s_law_lot_rounds, defScope s_law_lot_rounds, [], []⟩
def e_law_doubled : He.DefD := ⟨("_law_doubled", none), "_law_doubled", "_law_doubled", defArgs s_law_doubled, defBody s_law_doubled, defScope s_law_doubled, [], []⟩
def e_law_one_way : He.DefD := ⟨("_law_one_way", none), "_law_one_way", "_law_one_way", defArgs s_law_one_way, defBody s_law_one_way, defScope s_law_one_way, [], []⟩
def e_law_refused : He.DefD := ⟨("_law_refused", none), "_law_refused", "_law_refused", defArgs s_law_refused, defBody s_law_refused, defScope s_law_refused, [], []⟩
def e_law_right : He.DefD := ⟨("_law_right", none), "_law_right", "_law_right", defArgs s_law_right, defBody s_law_right, defScope s_law_right, [], []⟩
def e_law : He.DefD := ⟨("law", none), "law", "law", defArgs s_law, defBody s_law, defScope s_law, [], []⟩
def fns : List He.DefD := [e_is_integer, e_is_number, e_is_index, e_is_worth, e_is_head, e_parts_of, e_branches, e_made, e_told_by, e_told, e_wanted, e_first_lots, e_check_few, e_rows_from, e_lots_next, e_lot_rounds, e_last_lots, e_known_rounds, e_is_sure, e_law_draw, e_law_any, e_law_of, e_law_rule, e_law_net, e_law_parts, e_law_branches, e_law_made, e_law_told, e_law_wants, e_law_entries, e_law_range, e_law_turn, e_law_words, e_law_ways, e_law_many_rows, e_law_few, e_law_small_net, e_law_brought, e_law_lots_next, e_law_lot_rounds, e_law_doubled, e_law_one_way, e_law_refused, e_law_right, e_law]
def fas : List He.Fa := [.glo "is_integer", .glo "is_number", .glo "is_index", .glo "is_worth", .glo "is_head", .glo "parts_of", .glo "branches", .glo "made", .glo "told_by", .glo "told", .glo "wanted", .glo "first_lots", .glo "check_few", .glo "rows_from", .glo "lots_next", .glo "lot_rounds", .glo "last_lots", .glo "known_rounds", .glo "is_sure", .glo "_law_draw", .glo "_law_any", .glo "_law_of", .glo "_law_rule", .glo "_law_net", .glo "_law_parts", .glo "_law_branches", .glo "_law_made", .glo "_law_told", .glo "_law_wants", .glo "_law_entries", .glo "_law_range", .glo "_law_turn", .glo "_law_words", .glo "_law_ways", .glo "_law_many_rows", .glo "_law_few", .glo "_law_small_net", .glo "_law_brought", .glo "_law_lots_next", .glo "_law_lot_rounds", .glo "_law_doubled", .glo "_law_one_way", .glo "_law_refused", .glo "_law_right", .glo "law", .free "len", .free "isinstance", .free "tuple", .free "all", .free "int", .free "bool", .free "str", .free "min", .free "max", .free "sum", .free "sorted", .free "range", .free "set", .free "enumerate", .free "abs", .free "zip", .free "list", .free "repr", .free "super", .int "MOST_rules" 1001, .int "MOST_ROW" 64, .int "MOST_lots" 4096, .glo "Refused"]
def cR (K : PySem.W.Frag) : Addr := He.ga K "Refused"
def iR (K : PySem.W.Frag) : Addr := He.ma K (cR K) "__init__"
def fdR (K : PySem.W.Frag) : Option FuncData := match K.lookup (iR K) with
  | some ⟨_, _, .func fd, _⟩ => some fd
  | _ => none
def cellR (K : PySem.W.Frag) : Addr := match (fdR K).map (·.closure) with
  | some [(_, c)] => c
  | _ => 0
def codeR (K : PySem.W.Frag) : Addr := match (fdR K).map (·.code) with
  | some (Value.ref c) => c
  | _ => 0
def closB (K : PySem.W.Frag) : Bool := match (fdR K).map (·.closure) with
  | some [(n, _)] => n == "__class__"
  | _ => false
def codeB (K : PySem.W.Frag) : Bool := match (fdR K).map (·.code) with
  | some (Value.ref _) => true
  | _ => false
def oexB (K : PySem.W.Frag) (C : Addr) : Bool := match K.lookup C with
  | some ⟨.type t, _, .cls cd, sl⟩ => (match cd.mro, sl.toList with
    | .ref C' :: bm, [_, _, _, _, some (.builtin n), _] => t == "type" && (C' == C && (n == "ValueError.__new__" && (!cd.hasDel && (cd.hasDict && PySem.HandSPX.refsVE bm))))
    | _, _ => false)
  | _ => false
def recB (K : PySem.W.Frag) : Bool := match K.lookup (codeR K) with
  | some ⟨_, _, .fields vs, _⟩ => (match vs[2]? with
    | some (Value.str file _) => (PW.main.file : Str) == file
    | _ => false)
  | _ => false
def cellB (K : PySem.W.Frag) : Bool := match K.lookup (cellR K) with
  | some ⟨_, _, .cell (some (.ref D)), _⟩ => D == cR K
  | _ => false
def alongB (K : PySem.W.Frag) : Bool := match PySem.W.clsIn K (cR K) with
  | some cd => He.eqO (PySem.W.alongIn K "__init__" ((cd.mro.dropWhile (· != .ref (cR K))).drop 1)) (some (some (.builtin "ValueError.__init__")))
  | none => false
def rBs (K : PySem.W.Frag) : List Bool := [oexB K (cR K), He.eqO (PySem.W.findIn K (.ref (cR K)) "__setattr__") (some (some (.builtin "object.__setattr__"))), decide (PySem.W.subIn K (.ref (cR K)) (.type "BaseException") = some true), decide (PySem.W.typeIn K (.ref (cR K)) = some (.type "type")), PySem.W.keepIn K (.ref (cR K)),
  He.eqO (PySem.W.findIn K (.ref (cR K)) "__init__") (some (some (.ref (iR K)))), decide (PySem.W.typeIn K (.ref (iR K)) = some (.type "function")), He.eqO (PySem.W.findIn K (.ref (cR K)) "at") (some none), PySem.W.codeIn K (.ref (codeR K)) "Refused.__init__", recB K, cellB K, closB K, codeB K,
  decide (PySem.W.mroIn K (cR K) (.ref (cR K)) = some true), decide (PySem.W.subIn K (.ref (cR K)) (.type "ValueError") = some true), He.eqO (PySem.W.nsIn K cStatics "thirdparty.any") (some none), alongB K, xfB K (cR K), decide (PySem.W.exmOne K (.ref (cR K)) (.ref (cR K)) = some true)]
abbrev FnI : Type := Option (Str × Str × Arguments × FuncBody × Scope × Addr × Addr × Value)
def fnI (K : PySem.W.Frag) : FnI := (fdR K).map fun fd => (fd.name, fd.qualname, fd.params, fd.body, fd.scope, fd.globals, fd.builtins, fd.defaults)
def valI : FnI := some ("__init__", "Refused.__init__", defArgs s_init, .stmts (defBody s_init), defScope s_init, mainGlobals, builtinsNs, .none)
abbrev AlR : Type := He.AlD × List Bool × FnI
def obsR (K : PySem.W.Frag) : AlR := (He.obsD fas fns K, rBs K, fnI K)
def valR : AlR := (He.valD fns, List.replicate 19 true, valI)
def kR (g : Addr → Option Obj) : PySem.W.Frag := He.frG g (cStatics :: He.asD g 5)
def hookR : PySem.W.Hook where
  α := AlR
  obs := fun s => obsR (kR s.heap.get?)
  val := fun _ => valR
  says := fun _ h => ∃ K : PySem.W.Frag, K.In h ∧ obsR K = valR
  of := fun _ _ e => ⟨_, He.frG_in, e⟩
  keeps := fun _ _ _ ⟨K, hK, c⟩ k => ⟨K, PySem.W.Frag.In.keeps hK k, c⟩
abbrev R : PySem.W.OpenRow := PySem.W.OpenLaw.row PySem.Challenge.rw_newsbehind_k24_whole_lots_round_by_round
def ob (s : PySem.W.SharedT) : AlR := obsR (kR (HandSHeadRun.getT s))
theorem ob_eq (s : PySem.W.SharedT) : ob s = hookR.obs s.abs := by
  have e : HandSHeadRun.getT s = s.abs.heap.get? := funext (HandSHeadRun.getT_eq s)
  show obsR (kR (HandSHeadRun.getT s)) = obsR (kR s.abs.heap.get?)
  rw [e]
def loose1 : List Str := ["is_integer", "is_number", "is_index", "is_worth", "is_head", "parts_of", "branches", "made", "told_by", "told", "wanted", "first_lots", "check_few", "rows_from", "lots_next", "lot_rounds", "last_lots", "known_rounds", "is_sure", "_law_draw", "_law_any", "_law_of", "_law_rule", "_law_net", "_law_parts", "_law_branches", "_law_made", "_law_told", "_law_wants", "_law_entries"]
def loose2 : List Str := ["_law_range", "_law_turn", "_law_words", "_law_ways", "_law_many_rows", "_law_few", "_law_small_net", "_law_brought", "_law_lots_next", "_law_lot_rounds", "_law_doubled", "_law_one_way", "_law_refused", "_law_right", "MOST_rules", "MOST_ROW", "MOST_lots", "NewsError", "Refused"]
def loose : List Str := loose1 ++ loose2
theorem run (w : World) : HandSHeadRun.RunEq R (PySem.W.view R.prog [55]) hookR ob 20000 loose w := by
  intro os
  kernel_rfl
theorem b_at {K : PySem.W.Frag} (c : obsR K = valR) (i : Nat) (hi : i < 19) {b : Bool} (h : (rBs K)[i]? = some b) : b = true := by
  have e : rBs K = List.replicate 19 true := congrArg (fun z : AlR => z.2.1) c
  rw [e, List.getElem?_replicate, if_pos hi] at h
  exact (Option.some.inj h).symm
theorem sayD {K : PySem.W.Frag} (c : obsR K = valR) : He.SaysD fas fns K := congrArg (fun z : AlR => z.1) c
theorem oexB_ok {K : PySem.W.Frag} {C : Addr} (b0 : oexB K C = true) : ∃ nm q N bs bm sn sub ab col dd k0 k1 k2 k3 k5, K.lookup C = some (excClassObj nm q C N bs bm true sn sub ab col dd k0 k1 k2 k3 k5 "ValueError.__new__") ∧ PySem.HandSPX.refsVE bm = true := by
  unfold oexB at b0
  split at b0
  · rename_i t dd cd sl z
    split at b0
    · rename_i C' bm k0 k1 k2 k3 n k5 e1 e2
      obtain ⟨e3, b0⟩ := He.ba b0
      obtain ⟨e4, b0⟩ := He.ba b0
      obtain ⟨e5, b0⟩ := He.ba b0
      obtain ⟨e6, b0⟩ := He.ba b0
      obtain ⟨e7, e8⟩ := He.ba b0
      have f3 : t = "type" := beq_iff_eq.mp e3
      have f4 : C' = C := beq_iff_eq.mp e4
      have f5 : n = "ValueError.__new__" := beq_iff_eq.mp e5
      have f6 : cd.hasDel = false := by simpa using e6
      obtain ⟨sl⟩ := sl
      obtain ⟨⟩ := cd
      simp only at e1 e2 e7 f6
      subst f3 f4 f5 f6 e1 e2 e7
      exact ⟨_, _, _, _, _, _, _, _, _, _, _, _, _, _, _, z, e8⟩
    · cases b0
  · cases b0
theorem rt_of {K : PySem.W.Frag} {h : Heap} {mg : Str → Option Value} (X : K.In h) (G : h.Ns mainGlobals mg) (c : obsR K = valR) : ∃ fd, RT PW K mg (cR K) (iR K) (cellR K) (codeR K) fd := by
  have d := sayD c
  have eI : fnI K = valI := congrArg (fun z : AlR => z.2.2) c
  have b0 := b_at c 0 (by decide) rfl
  have b9 := b_at c 9 (by decide) rfl
  have b10 := b_at c 10 (by decide) rfl
  have b11 := b_at c 11 (by decide) rfl
  have b12 := b_at c 12 (by decide) rfl
  have b16 := b_at c 16 (by decide) rfl
  unfold fnI at eI
  cases q : fdR K with
  | none => rw [q] at eI; cases eI
  | some fd =>
    rw [q] at eI
    have lk : ∃ oc od osl, K.lookup (iR K) = some ⟨oc, od, .func fd, osl⟩ := by
      unfold fdR at q
      cases z : K.lookup (iR K) with
      | none => rw [z] at q; cases q
      | some o =>
        obtain ⟨oc, od, dt, osl⟩ := o
        rw [z] at q
        cases dt with
        | func f2 =>
          cases q
          exact ⟨oc, od, osl, rfl⟩
        | _ => cases q
    obtain ⟨oc, od, osl, lk⟩ := lk
    have ecl : fd.closure = [(("__class__" : Str), cellR K)] := by
      unfold closB at b11
      unfold cellR
      rw [q] at b11 ⊢
      simp only [Option.map_some] at b11 ⊢
      generalize fd.closure = l at b11 ⊢
      match l, b11 with
      | [(n, a)], b11 =>
        have e : n = "__class__" := beq_iff_eq.mp b11
        rw [e]
    have eco : fd.code = .ref (codeR K) := by
      unfold codeB at b12
      unfold codeR
      rw [q] at b12 ⊢
      simp only [Option.map_some] at b12 ⊢
      generalize fd.code = l at b12 ⊢
      cases l with
      | ref a => rfl
      | _ => cases b12
    obtain ⟨n1, n2, n3, n4, n5, n6, n7, n8, n9, n10, n11, n12, n13, n14, n15⟩ := fd
    simp only [Option.map_some, valI, Option.some.injEq, Prod.mk.injEq] at eI
    obtain ⟨h1, h2, h3, h4, h5, h6, h7, h8⟩ := eI
    simp only at ecl eco
    subst h1 h2 h3 h4 h5 h6 h7 h8 ecl eco
    refine ⟨_, { gC := He.glo_ok X G (d.fact 67 (f := .glo "Refused") rfl), oex := ⟨?_, He.eqO_ok (b_at c 1 (by decide) rfl), of_decide_eq_true (b_at c 2 (by decide) rfl), of_decide_eq_true (b_at c 3 (by decide) rfl), b_at c 4 (by decide) rfl⟩, iC := He.eqO_ok (b_at c 5 (by decide) rfl), tI := of_decide_eq_true (b_at c 6 (by decide) rfl), noat := He.eqO_ok (b_at c 7 (by decide) rfl), fn := ⟨oc, od, _, _, _, _, _, osl, rfl, lk⟩, code := b_at c 8 (by decide) rfl, rec_ := ?_, cell := ?_, self_ := of_decide_eq_true (b_at c 13 (by decide) rfl), ve := of_decide_eq_true (b_at c 14 (by decide) rfl), nosup := He.free_ok X G (d.fact 63 (f := .free "super") rfl), opq := He.eqO_ok (b_at c 15 (by decide) rfl), along := ?_, top := by decide +kernel, xf := xfB_ok (b_at c 17 (by decide) rfl), te := of_decide_eq_true (b_at c 18 (by decide) rfl) }⟩
    · exact oexB_ok b0
    · unfold recB at b9
      cases z : K.lookup (codeR K) with
      | none => rw [z] at b9; cases b9
      | some o =>
        obtain ⟨oc2, od2, dt2, sl2⟩ := o
        rw [z] at b9
        cases dt2 with
        | fields vs =>
          simp only at b9
          cases y : vs[2]? with
          | none => rw [y] at b9; cases b9
          | some v =>
            rw [y] at b9
            cases v with
            | str file tf => exact ⟨_, _, _, _, _, _, rfl, y, b9⟩
            | _ => cases b9
        | _ => cases b9
    · unfold cellB at b10
      cases z : K.lookup (cellR K) with
      | none => rw [z] at b10; cases b10
      | some o =>
        obtain ⟨oc2, od2, dt2, sl2⟩ := o
        rw [z] at b10
        cases dt2 with
        | cell ov =>
          cases ov with
          | none => cases b10
          | some v =>
            cases v with
            | ref D =>
              have e : D = cR K := beq_iff_eq.mp b10
              subst e
              exact ⟨_, _, _, rfl⟩
            | _ => cases b10
        | _ => cases b10
    · intro cd hcd
      unfold alongB at b16
      rw [hcd] at b16
      exact He.eqO_ok b16
theorem dat_of {K : PySem.W.Frag} {h : Heap} {mg : Str → Option Value} (X : K.In h) (G : h.Ns mainGlobals mg) (d : He.SaysD fas fns K) {x : Str} {st : Stmt} (i : Nat) {d0 : He.DefD} (hi : fns[i]? = some ⟨(x, none), x, x, defArgs st, defBody st, defScope st, [], []⟩) (j : Nat) (hj : fas[j]? = some (.glo x)) : Dat K mg x st := by
  obtain ⟨fd, F⟩ := d.def_ i hi
  exact ⟨⟨_, fd, F, He.glo_ok X G (d.fact j hj)⟩⟩
theorem tx_of {K : PySem.W.Frag} {h : Heap} {mg : Str → Option Value} (X : K.In h) (G : h.Ns mainGlobals mg) (c : obsR K = valR) : ∃ fd, Tx PW K mg (cR K) (iR K) (cellR K) (codeR K) fd := by
  have d := sayD c
  obtain ⟨fd, rt⟩ := rt_of X G c
  have bI : Binds K fd ["self", "at"] [] := by
    obtain ⟨oc, od, kV, doc, pm, an, ct, osl, rfl, _⟩ := rt.fn
    exact .all fun us hl => match us, hl with | [_, _], _ => rfl
  exact ⟨fd, { T := { len := He.free_ok X G (d.fact 45 (f := .free "len") rfl), isinstance := He.free_ok X G (d.fact 46 (f := .free "isinstance") rfl), tuple_ := He.free_ok X G (d.fact 47 (f := .free "tuple") rfl), all := He.free_ok X G (d.fact 48 (f := .free "all") rfl), int_ := He.free_ok X G (d.fact 49 (f := .free "int") rfl), bool_ := He.free_ok X G (d.fact 50 (f := .free "bool") rfl), str_ := He.free_ok X G (d.fact 51 (f := .free "str") rfl), min := He.free_ok X G (d.fact 52 (f := .free "min") rfl), max := He.free_ok X G (d.fact 53 (f := .free "max") rfl), sum := He.free_ok X G (d.fact 54 (f := .free "sum") rfl), sorted := He.free_ok X G (d.fact 55 (f := .free "sorted") rfl), range := He.free_ok X G (d.fact 56 (f := .free "range") rfl), set_ := He.free_ok X G (d.fact 57 (f := .free "set") rfl), enumerate := He.free_ok X G (d.fact 58 (f := .free "enumerate") rfl), abs := He.free_ok X G (d.fact 59 (f := .free "abs") rfl), zip := He.free_ok X G (d.fact 60 (f := .free "zip") rfl), list_ := He.free_ok X G (d.fact 61 (f := .free "list") rfl), repr := He.free_ok X G (d.fact 62 (f := .free "repr") rfl), MOST_rules := He.int_ok X G (d.fact 64 (f := .int "MOST_rules" 1001) rfl), MOST_ROW := He.int_ok X G (d.fact 65 (f := .int "MOST_ROW" 64) rfl), MOST_lots := He.int_ok X G (d.fact 66 (f := .int "MOST_lots" 4096) rfl) }, rt := rt, bI := bI, d_is_integer := dat_of X G d 0 (d0 := e_is_integer) rfl 0 rfl, d_is_number := dat_of X G d 1 (d0 := e_is_number) rfl 1 rfl, d_is_index := dat_of X G d 2 (d0 := e_is_index) rfl 2 rfl, d_is_worth := dat_of X G d 3 (d0 := e_is_worth) rfl 3 rfl, d_is_head := dat_of X G d 4 (d0 := e_is_head) rfl 4 rfl, d_parts_of := dat_of X G d 5 (d0 := e_parts_of) rfl 5 rfl, d_branches := dat_of X G d 6 (d0 := e_branches) rfl 6 rfl, d_made := dat_of X G d 7 (d0 := e_made) rfl 7 rfl, d_told_by := dat_of X G d 8 (d0 := e_told_by) rfl 8 rfl, d_told := dat_of X G d 9 (d0 := e_told) rfl 9 rfl, d_wanted := dat_of X G d 10 (d0 := e_wanted) rfl 10 rfl, d_first_lots := dat_of X G d 11 (d0 := e_first_lots) rfl 11 rfl, d_check_few := dat_of X G d 12 (d0 := e_check_few) rfl 12 rfl, d_rows_from := dat_of X G d 13 (d0 := e_rows_from) rfl 13 rfl, d_lots_next := dat_of X G d 14 (d0 := e_lots_next) rfl 14 rfl, d_lot_rounds := dat_of X G d 15 (d0 := e_lot_rounds) rfl 15 rfl, d_last_lots := dat_of X G d 16 (d0 := e_last_lots) rfl 16 rfl, d_known_rounds := dat_of X G d 17 (d0 := e_known_rounds) rfl 17 rfl, d_is_sure := dat_of X G d 18 (d0 := e_is_sure) rfl 18 rfl, d_law_draw := dat_of X G d 19 (d0 := e_law_draw) rfl 19 rfl, d_law_any := dat_of X G d 20 (d0 := e_law_any) rfl 20 rfl, d_law_of := dat_of X G d 21 (d0 := e_law_of) rfl 21 rfl, d_law_rule := dat_of X G d 22 (d0 := e_law_rule) rfl 22 rfl, d_law_net := dat_of X G d 23 (d0 := e_law_net) rfl 23 rfl, d_law_parts := dat_of X G d 24 (d0 := e_law_parts) rfl 24 rfl, d_law_branches := dat_of X G d 25 (d0 := e_law_branches) rfl 25 rfl, d_law_made := dat_of X G d 26 (d0 := e_law_made) rfl 26 rfl, d_law_told := dat_of X G d 27 (d0 := e_law_told) rfl 27 rfl, d_law_wants := dat_of X G d 28 (d0 := e_law_wants) rfl 28 rfl, d_law_entries := dat_of X G d 29 (d0 := e_law_entries) rfl 29 rfl, d_law_range := dat_of X G d 30 (d0 := e_law_range) rfl 30 rfl, d_law_turn := dat_of X G d 31 (d0 := e_law_turn) rfl 31 rfl, d_law_words := dat_of X G d 32 (d0 := e_law_words) rfl 32 rfl, d_law_ways := dat_of X G d 33 (d0 := e_law_ways) rfl 33 rfl, d_law_many_rows := dat_of X G d 34 (d0 := e_law_many_rows) rfl 34 rfl, d_law_few := dat_of X G d 35 (d0 := e_law_few) rfl 35 rfl, d_law_small_net := dat_of X G d 36 (d0 := e_law_small_net) rfl 36 rfl, d_law_brought := dat_of X G d 37 (d0 := e_law_brought) rfl 37 rfl, d_law_lots_next := dat_of X G d 38 (d0 := e_law_lots_next) rfl 38 rfl, d_law_lot_rounds := dat_of X G d 39 (d0 := e_law_lot_rounds) rfl 39 rfl, d_law_doubled := dat_of X G d 40 (d0 := e_law_doubled) rfl 40 rfl, d_law_one_way := dat_of X G d 41 (d0 := e_law_one_way) rfl 41 rfl, d_law_refused := dat_of X G d 42 (d0 := e_law_refused) rfl 42 rfl, d_law_right := dat_of X G d 43 (d0 := e_law_right) rfl 43 rfl }⟩
end K24

set_option Elab.async false
set_option linter.all false
set_option maxRecDepth 100000
/-! K24R11: the law's own judgment of one net. -/
namespace K24
open PySem PySem.Spec L2
def heads (ls : Lots) : List Int := ls.map fun l => l.headD 0
def lasts (ls : Lots) : List Int := ls.map fun l => l.getLastD 0
/-- what is proved of a net in plain Lean -/
structure Fine (net : Net) (m : Nat) : Prop where
  T : okT net
  st : Stop net m
  sum : (m : Int) ≤ net.1.sum
  few : m ≤ 38
  sure : sure (itL net m) = !(knowns net m).contains none
  one : oneWay net = true → ∀ j, dbl net (heads (itL net j)) (lasts (itL net j)) = heads (itL net (j + 1)) ∧ dbl net (lasts (itL net j)) (heads (itL net j)) = lasts (itL net (j + 1))
def q_law_right (ds : List PD) (d : PD) : Prop := ∃ (net : Net) (m : Nat), Fine net m ∧ ds = [encN net] ∧ d = .bool true
theorem heads_len (ls : Lots) : (heads ls).length = ls.length := List.length_map _
theorem lasts_len (ls : Lots) : (lasts ls).length = ls.length := List.length_map _
theorem ends_in {net : Net} (T : okT net) {ls : Lots} (o : okL net ls) : (∀ z ∈ heads ls, 0 ≤ z ∧ z < 64) ∧ ∀ z ∈ lasts ls, 0 ≤ z ∧ z < 64 := by
  have key : ∀ l ∈ ls, ∀ z ∈ l, 0 ≤ z ∧ z < 64 := fun l hl z hz => by
    obtain ⟨i, hi⟩ := List.mem_iff_getElem?.mp hl
    have hlt : i < ls.length := (List.getElem?_eq_some_iff.mp hi).1
    have e : ls.getD i [] = l := by rw [List.getD_eq_getElem?_getD, hi]; rfl
    have h2 := o.nn i hlt z (by rw [e]; exact hz)
    have hi2 : i < net.1.length := by rw [← o.len]; exact hlt
    have hm : tp net i ∈ net.1 := by
      unfold tp
      rw [List.getD_eq_getElem?_getD, List.getElem?_eq_getElem hi2]
      exact List.getElem_mem hi2
    have := T.tops _ hm
    omega
  constructor
  · intro z hz
    obtain ⟨l, hl, rfl⟩ := List.mem_map.mp hz
    have hne := o.ne l hl
    cases l with
    | nil => exact absurd rfl hne
    | cons a r => exact key _ hl a List.mem_cons_self
  · intro z hz
    obtain ⟨l, hl, rfl⟩ := List.mem_map.mp hz
    have hne := o.ne l hl
    have : l.getLastD 0 ∈ l := by
      rw [List.getLastD_eq_getLast?, List.getLast?_eq_some_getLast hne]
      exact List.getLast_mem hne
    exact key _ hl _ this
def encE (a b : List Int) : PD := .tuple [encT a, encT b]
theorem eqv_encE {a b c d : List Int} : PyData.eqv (encE a b) (encE c d) = decide (a = c ∧ b = d) := by
  unfold encE
  simp only [PyData.eqv, PyData.eqvAll, eqv_encT]
  by_cases h : a = c <;> by_cases h2 : b = d <;> simp [h, h2]
theorem nice_encE {a b : List Int} (ha : a.length ≤ 40) (hb : b.length ≤ 40) (h1 : ∀ z ∈ a, 0 ≤ z ∧ z < 64) (h2 : ∀ z ∈ b, 0 ≤ z ∧ z < 64) : Nice 2 (encE a b) := nice_tup (Nat.le_of_ble_eq_true rfl) fun x hx => by
  rcases List.mem_cons.mp hx with e | e
  · rw [e]; exact lot_nice ha h1
  · rw [List.mem_singleton.mp e]; exact lot_nice hb h2
theorem upto_last {t : Int} (h : 0 ≤ t) : (upto t).getLastD 0 = t := by
  unfold upto
  have e : (t + 1).toNat = t.toNat + 1 := by omega
  rw [e, List.range_succ, List.map_append, List.getLastD_eq_getLast?]
  simp
  omega
theorem upto_head {t : Int} (h : 0 ≤ t) : (upto t).headD 0 = 0 := by
  unfold upto
  have e : (t + 1).toNat = t.toNat + 1 := by omega
  rw [e, List.range_succ_eq_map]
  rfl
theorem heads_first {net : Net} {most : Int} (o : okN net most) : heads (firstL net) = List.replicate net.1.length 0 := by
  unfold heads firstL
  rw [List.map_map, List.eq_replicate_iff]
  refine ⟨List.length_map _, fun z hz => ?_⟩
  obtain ⟨t, ht, rfl⟩ := List.mem_map.mp hz
  exact upto_head (o.tops t ht).1
theorem lasts_first {net : Net} {most : Int} (o : okN net most) : lasts (firstL net) = net.1 := by
  unfold lasts firstL
  rw [List.map_map]
  have : net.1.map ((fun l => List.getLastD l 0) ∘ upto) = net.1.map id := List.map_congr_left fun t ht => upto_last (o.tops t ht).1
  rw [this, List.map_id]
section
variable {W : Wd} {Γ : List Sl} {K : PySem.W.Frag} {tv te : TE}
theorem dv_headIf2 {l : List Nat} (h : DV W tv Γ (.list (l.map fun j : Nat => PyData.int (j : Int)))) : DV W (tIf (tTest (tOp (rNeD K) tv (tLst tNil))) (tOp (rIxL K) tv (tC (.int 0))) (tC .non)) Γ (optD (l.head?.map fun j : Nat => (j : Int))) := by
  have el : (l.map fun j : Nat => PyData.int (j : Int)) = Ls (l.map fun j : Nat => (j : Int)) := by
    unfold Ls
    rw [List.map_map]
    rfl
  have t : DTv W (tTest (tOp (rNeD K) tv (tLst tNil))) Γ (!(l.map fun j : Nat => (j : Int)).isEmpty) := dt_test (DV.to (dv_op (el ▸ h) (dv_lst (xs := []) da_nil (Nat.zero_le _)) (rd_neD (ints_lay _) nil_lay)) (by rw [eqv_nil]))
  cases l with
  | nil => exact de_if (b := false) t (fun z => nomatch z) fun _ => dv_non
  | cons a l => exact de_if (b := true) t (fun _ => dv_atL h at0) fun z => nomatch z
theorem dv_rep {x : PD} {k : Nat} (h : DV W te Γ x) (hn : Nice k x) (hk : k ≤ 3) (h5 : (∃ l, x = .list l) ∨ (∃ l, x = .tuple l) ∨ ∃ b, x = .bool b) : DV W (tCB (rRepr K) (tCons te tNil)) Γ (.str x.shown) := dv_cb (dav_cons h da_nil) (rc_reprN hn hk h5)
/-- repr(a) != repr(b) of one datum -/
theorem dt_rep {ta tb : TE} {x : PD} {k : Nat} (h : DV W ta Γ x) (h2 : DV W tb Γ x) (hn : Nice k x) (hk : k ≤ 3) (h5 : (∃ l, x = .list l) ∨ (∃ l, x = .tuple l) ∨ ∃ b, x = .bool b) : DTv W (tTest (tOp rNe (tCB (rRepr K) (tCons ta tNil)) (tCB (rRepr K) (tCons tb tNil)))) Γ false :=
  dt_test (DV.to (dv_op (dv_rep h hn hk h5) (dv_rep h2 hn hk h5) rd_neS) (by rw [decide_eq_true rfl]; rfl))
theorem dv_repE {ta tb : TE} {x : PD} {k : Nat} (h : DV W ta Γ x) (h2 : DV W tb Γ x) (hn : Nice k x) (hk : k ≤ 3) (h5 : (∃ l, x = .list l) ∨ (∃ l, x = .tuple l) ∨ ∃ b, x = .bool b) : DV W (tOp rEq (tCB (rRepr K) (tCons ta tNil)) (tCB (rRepr K) (tCons tb tNil))) Γ (.bool true) :=
  DV.to (dv_op (dv_rep h hn hk h5) (dv_rep h2 hn hk h5) rd_eqS) (by rw [decide_eq_true rfl])
end
theorem known_small {net : Net} {m i : Nat} (hm : m ≤ 38) : Nice 0 (optD (knownAt net m i)) := by
  unfold knownAt
  cases h : ((List.range (m + 1)).filter (oneAt net i)).head? with
  | none => exact trivial
  | some j =>
    have hj : j ∈ (List.range (m + 1)).filter (oneAt net i) := List.mem_of_mem_head? h
    have := List.mem_range.mp (List.mem_filter.mp hj).1
    show 0 ≤ (j : Int) ∧ (j : Int) < 64
    omega
theorem r_law_right {K : PySem.W.Frag} {w : World} {C : Addr} (G H : Hp) (ds : List PD) (d : PD) (h : q_law_right ds d) : DS (W0 K G H) (t_law_right K w (spF q_law_lot_rounds) (spF q_law_one_way) (spF q_law_doubled) (spF q_first_lots) (spX C q_lot_rounds b_net) (spX C q_last_lots b_net) (spX C q_known_rounds b_net) (spX C q_is_sure b_net)) (ds.map Sl.d ++ List.replicate (n_law_right.length - p_law_right.length) Sl.no) No (fun z => z = d) No No := by
  obtain ⟨net, m, F, rfl, rfl⟩ := h
  have T := F.T
  have S := T.s
  have hf := S.ok.few
  have hm := F.few
  have ln : ∀ j, Nice 2 (encLs (itL net j)) := fun j => lots_nice T (it_ok S j)
  have rn : Nice 3 (.tuple (rounds net m)) := nice_tup (by rw [rounds_len]; omega) fun x hx => by
    obtain ⟨j, _, rfl⟩ := List.mem_map.mp hx
    exact ln j
  have kn : Nice 1 (.tuple ((knowns net m).map optD)) := nice_tup (by rw [List.length_map, knowns_len]; omega) fun x hx => by
    obtain ⟨o, ho, rfl⟩ := List.mem_map.mp hx
    obtain ⟨i, _, rfl⟩ := List.mem_map.mp ho
    exact known_small hm
  have bn : ∀ b, Nice 0 (.bool b) := fun b => trivial
  have e1 : (((Ls net.1).length : Nat) : Int).toNat = net.1.length := by rw [Ls_len]; simp
  have r0 : atI (rounds net m) 0 = some (encLs (firstL net)) := by
    refine atI_nn (by decide) ?_
    unfold rounds
    rw [List.getElem?_map]
    show Option.map _ ((List.range (m + 1))[0]?) = _
    rw [List.getElem?_range (by omega)]
    rfl
  have cF : ∀ (Γ : List Sl) (E : XK), Γ[0]? = some (Sl.d (encN net)) → DV (W0 K G H) (tCallK0 (spF q_first_lots) (fun zs => zs) E (tCons (tVar 0) tNil)) Γ (encLs (firstL net)) := fun Γ E e => dv_callK (gD := fun l => l) (dav_cons (dv_var e) da_nil) (fun h => h) ⟨net, 60, S.ok, rfl, rfl⟩
  unfold t_law_right
  refine ds_seq (ds_asg (P := fun z => z = .list (rounds net m)) (dv_call (dav_cons (dv_var rfl) da_nil) ⟨net, m, T, F.st, F.sum, by omega, rfl, rfl⟩) fun z e => ?_)
  subst e
  refine ds_seq (ds_if (b := false) (dt_or2 (a := false) (b := false) (dt_rep (cF _ _ rfl) (dv_atL (dv_var rfl) r0) (ln 0) (by decide) (.inr (.inl ⟨_, rfl⟩))) (dt_or2 (a := false) (b := false) (dt_rep (dv_callX (dav_cons (dv_var rfl) da_nil) ⟨net, m, T, F.st, by omega, rfl, rfl⟩) (dv_cb (dav_cons (dv_var rfl) da_nil) rc_tupL) rn (by decide) (.inr (.inl ⟨_, rfl⟩)))
    (dt_rep (dv_callKX (gD := fun l => l) (dav_cons (dv_var rfl) da_nil) (fun h => h) ⟨net, m, T, F.st, by omega, rfl, rfl⟩) (dv_cb (dav_cons (dv_var rfl) da_nil) rc_tupL) rn (by decide) (.inr (.inl ⟨_, rfl⟩))))) (fun z => nomatch z) fun _ => ds_next ?_)
  refine ds_seq (ds_if (b := false) (dt_or2 (a := false) (b := false) (dt_rep (dv_callKX (gD := fun l => l) (dav_cons (dv_var rfl) da_nil) (fun h => h) ⟨net, m, T, F.st, by omega, rfl, rfl⟩) (dv_lastL (dv_var rfl) (rounds_last net m)) (ln m) (by decide) (.inr (.inl ⟨_, rfl⟩)))
    (dt_rep (dv_callX (dav_cons (dv_var rfl) da_nil) ⟨net, m, T, F.st, by omega, rfl, rfl⟩) (dv_lastL (dv_var rfl) (rounds_last net m)) (ln m) (by decide) (.inr (.inl ⟨_, rfl⟩)))) (fun z => nomatch z) fun _ => ds_next ?_)
  refine ds_seq (ds_own0 ?_)
  refine ds_seq (ds_forv (xs := rng 0 net.1.length) (e1 ▸ div_r1 (dv_lenT (dv_at (dv_var rfl) at0)) (by omega) (by rw [Ls_len]; omega)) (fun i Γ => ∃ a b c e f g, Γ = [Sl.d (encN net), .d (.list (rounds net m)), .l (((knowns net m).take i).map optD), a, b, c, e, f, g]) ⟨_, _, _, _, _, _, rfl⟩ ?_ ?_)
  · rintro i x Γ' hx ⟨a, b, c, e, f, g, rfl⟩
    obtain ⟨hi, rfl⟩ := rng_get hx
    rw [Int.zero_add]
    refine dg_name ?_
    have er : (((rounds net m).length : Nat) : Int).toNat = m + 1 := by rw [rounds_len]; simp
    have fl := dv_filtR (W := W0 K G H) (Γ := [Sl.d (encN net), .d (.list (rounds net m)), .l (((knowns net m).take i).map optD), .d (.int (i : Int)), b, c, e, f, g]) (wi := iRng1 (tCons (tCB (rLenQ K) (tCons (tVar 1) tNil)) tNil)) (n := m + 1) (X := fun j : Nat => PyData.int (j : Int))
      (Γx := fun j : Nat => [Sl.d (encN net), .d (.list (rounds net m)), .l (((knowns net m).take i).map optD), .d (.int (i : Int)), b, c, e, .d (.int (j : Int)), g]) (c := oneAt net i) (f := fun j : Nat => .int (j : Int)) (vs := [7]) (g := gName 7) (tt := tTest (tOp rEq (tCB (rLenQ K) (tCons (tOp (rIxT K) (tOp (rIxL K) (tVar 1) (tVar 7)) (tVar 3)) tNil)) (tC (.int 1)))) (te := tVar 7)
      (by rw [← rng0, ← er]; exact div_r1 (dv_lenL (dv_var rfl)) (by omega) (by rw [rounds_len]; omega)) (by omega) (fun j _ N q => dgw_name (by simp) q) (fun j hj => dt_test (dv_len1 (dv_lot (ls := itL net j) (dv_op (dv_var rfl) (dv_var rfl) (rd_ixL (nth_nat (by
        unfold rounds
        rw [List.getElem?_map, List.getElem?_range hj]
        rfl)))) (dv_var rfl) (by rw [(it_ok S j).len]; exact hi)))) (fun j _ _ => dv_var rfl)
    refine ds_seq (ds_asg (P := fun z => z = _) fl fun z ez => ?_)
    subst ez
    refine ds_append (i := 2) (P := fun z => z = optD (knownAt net m i)) rfl (dv_headIf2 (dv_var rfl)) (by rw [List.length_map, List.length_take, knowns_len]; omega) fun z ez => ?_
    subst ez
    rw [knowns_take net m i hi, List.map_append]
    exact ⟨_, _, _, _, _, _, rfl⟩
  · rintro Γ' ⟨a, b, c, e, f, g, rfl⟩
    have e2 : (knowns net m).take (rng 0 net.1.length).length = knowns net m := by rw [rng_len, ← knowns_len net m, List.take_length]
    rw [e2]
    refine ds_freeze 2 rfl ?_
    show DS _ _ [Sl.d (encN net), .d (.list (rounds net m)), .d (.list ((knowns net m).map optD)), a, b, c, e, f, g] _ _ _ _
    have ni : ∀ Γ : List Sl, Γ[2]? = some (Sl.d (.list ((knowns net m).map optD))) → DV (W0 K G H) (tOp (rIn K true) (tC .non) (tVar 2)) Γ (.bool (sure (itL net m))) := fun Γ e => DV.to (dv_op dv_non (dv_var e) (rd_notInN rfl)) (by rw [F.sure])
    refine ds_seq (ds_if (b := false) (dt_or2 (a := false) (b := false) (dt_rep (dv_callKX (gD := fun l => l) (dav_cons (dv_var rfl) da_nil) (fun h => h) ⟨net, m, T, F.st, by omega, rfl, rfl⟩) (dv_cb (dav_cons (dv_var rfl) da_nil) rc_tupL) kn (by decide) (.inr (.inl ⟨_, rfl⟩)))
      (dt_rep (dv_callKX (gD := fun l => l) (dav_cons (dv_var rfl) da_nil) (fun h => h) ⟨net, m, T, F.st, by omega, rfl, rfl⟩) (ni _ rfl) (bn _) (by decide) (.inr (.inr ⟨_, rfl⟩)))) (fun z => nomatch z) fun _ => ds_next ?_)
    refine ds_seq (DS.imp (N := fun Γ => ∃ a b c e f g, Γ = [Sl.d (encN net), .d (.list (rounds net m)), .d (.list ((knowns net m).map optD)), a, b, c, e, f, g]) ?_ fun Γ2 hΓ => ?_)
    · refine ds_if (dt_B (dv_call (x := .bool (oneWay net)) (dav_cons (dv_var rfl) da_nil) ⟨net, okS_B S, rfl, rfl⟩)) (fun ho => ?_) fun _ => ds_next ⟨_, _, _, _, _, _, rfl⟩
      have one := F.one ho
      have i0 : (.tuple [.tuple (List.replicate ((Ls net.1).length : Int).toNat [PyData.int 0]).flatten, .tuple (Ls net.1)] : PD) = encE (heads (itL net 0)) (lasts (itL net 0)) := by
        show _ = encE (heads (firstL net)) (lasts (firstL net))
        rw [heads_first S.ok, lasts_first S.ok, e1]
        unfold encE encT Ls
        rw [List.map_replicate]
        congr 3
        generalize net.1.length = n
        induction n with
        | zero => rfl
        | succ n ih => rw [List.replicate_succ, List.flatten_cons, ih, List.replicate_succ]; rfl
      refine ds_seq (ds_asg (P := fun z => z = encE (heads (itL net 0)) (lasts (itL net 0))) (DV.to (dv_tup (dav_cons (dv_op (dv_tup (dav_cons dv_int da_nil) (Nat.le_of_ble_eq_true rfl)) (dv_lenT (dv_at (dv_var rfl) at0)) (rd_repU (by simp) (by rw [Ls_len]; have := S.ok.one; omega) (by rw [Ls_len]; omega) (Nat.le_of_ble_eq_true rfl))) (dav_cons (dv_at (dv_var rfl) at0) da_nil)) (Nat.le_of_ble_eq_true rfl)) i0) fun z ez => ?_)
      subst ez
      refine ds_forv (div_l (dv_var rfl)) (fun j Γ => ∃ a b e f g, Γ = [Sl.d (encN net), .d (.list (rounds net m)), .d (.list ((knowns net m).map optD)), a, b, .d (encE (heads (itL net j)) (lasts (itL net j))), e, f, g]) ⟨_, _, _, _, _, rfl⟩ ?_ ?_
      · rintro j y Γ' hy ⟨a, b, e, f, g, rfl⟩
        have hj : j < m + 1 := by
          have := (List.getElem?_eq_some_iff.mp hy).1
          rwa [rounds_len] at this
        unfold rounds at hy
        rw [List.getElem?_map, List.getElem?_range hj] at hy
        cases hy
        have o := it_ok S j
        obtain ⟨in1, in2⟩ := ends_in T o
        have hl1 : (heads (itL net j)).length ≤ 40 := by rw [heads_len, o.len]; omega
        have hl2 : (lasts (itL net j)).length ≤ 40 := by rw [lasts_len, o.len]; omega
        have ne := nice_encE hl1 hl2 in1 in2
        have sel : ∀ (sel : List Int → Int) (te : TE), (∀ (Γ : List Sl) (l : List Int), l ∈ itL net j → Γ[8]? = some (Sl.d (encT l)) → DV (W0 K G H) te Γ (.int (sel l))) →
            DV (W0 K G H) (tLc (iTup K (tVar 6)) (gName 8) tYes te [8]) [Sl.d (encN net), .d (.list (rounds net m)), .d (.list ((knowns net m).map optD)), a, b, .d (encE (heads (itL net j)) (lasts (itL net j))), .d (encLs (itL net j)), f, g] (.list (Ls ((itL net j).map sel))) := fun sel te hs => by
          have mp := dv_map (W := W0 K G H) (Γ := [Sl.d (encN net), .d (.list (rounds net m)), .d (.list ((knowns net m).map optD)), a, b, .d (encE (heads (itL net j)) (lasts (itL net j))), .d (encLs (itL net j)), f, g]) (vs := [8]) (j := 8) (xs := (itL net j).map encT) (f := fun d => .int (sel (unT d))) (te := te) (div_t (K := K) (te := tVar 6) (dv_var rfl)) (by rw [List.length_map, o.len]; omega) (by simp) (fun i y hy => by
            obtain ⟨l, hl, rfl⟩ := List.mem_map.mp (List.mem_of_getElem? hy)
            rw [unT_enc]
            exact hs _ l hl rfl)
          refine DV.to mp ?_
          unfold Ls
          rw [List.map_map, List.map_map]
          congr 1
          apply List.map_congr_left
          intro l _
          show PyData.int (sel (unT (encT l))) = _
          rw [unT_enc]
          rfl
        have d1 := sel (fun l => l.headD 0) (tOp (rIxT K) (tVar 8) (tC (.int 0))) fun Γ l hl e => by
          have hne := o.ne l hl
          exact dv_at (dv_var e) (head_at (List.length_pos_iff.mpr hne))
        have d2 := sel (fun l => l.getLastD 0) (tOp (rIxT K) (tVar 8) (tUn (rU fun i => .int (-i)) (tC (.int 1)))) fun Γ l hl e => by
          have hne := o.ne l hl
          obtain ⟨l', x', rfl⟩ : ∃ l' x', l = l' ++ [x'] := ⟨l.dropLast, l.getLast hne, (List.dropLast_concat_getLast hne).symm⟩
          refine dv_last (dv_var e) ?_
          unfold Ls
          rw [List.map_append]
          have : (l' ++ [x']).getLastD 0 = x' := by simp [List.getLastD_eq_getLast?]
          rw [this]
          exact atL
        have both : DV (W0 K G H) (tTup (tCons (tCB (rTupQ K) (tCons (tLc (iTup K (tVar 6)) (gName 8) tYes (tOp (rIxT K) (tVar 8) (tC (.int 0))) [8]) tNil)) (tCons (tCB (rTupQ K) (tCons (tLc (iTup K (tVar 6)) (gName 8) tYes (tOp (rIxT K) (tVar 8) (tUn (rU fun i => .int (-i)) (tC (.int 1)))) [8]) tNil)) tNil))) [Sl.d (encN net), .d (.list (rounds net m)), .d (.list ((knowns net m).map optD)), a, b, .d (encE (heads (itL net j)) (lasts (itL net j))), .d (encLs (itL net j)), f, g] (encE (heads (itL net j)) (lasts (itL net j))) :=
          dv_tup (dav_cons (dv_cb (dav_cons d1 da_nil) rc_tupL) (dav_cons (dv_cb (dav_cons d2 da_nil) rc_tupL) da_nil)) (Nat.le_of_ble_eq_true rfl)
        refine dg_name (ds_seq (ds_if (b := false) (dt_test (DV.to (dv_op (dv_var rfl) both (rd_neD (nice_shaped ne (by decide)) (nice_shaped ne (by decide)))) (by rw [eqv_encE, decide_eq_true ⟨rfl, rfl⟩]; rfl))) (fun z => nomatch z) fun _ => ds_next ?_))
        refine ds_asg (P := fun z => z = encE (heads (itL net (j + 1))) (lasts (itL net (j + 1)))) (dv_call (dav_cons (dv_var rfl) (dav_cons (dv_var rfl) da_nil)) ⟨net, heads (itL net j), lasts (itL net j), okS_B S, by rw [heads_len, o.len], by rw [lasts_len, o.len], fun z hz => (in1 z hz).1, fun z hz => (in2 z hz).1, rfl, by rw [(one j).1, (one j).2]; rfl⟩) fun z ez => ?_
        subst ez
        exact ⟨_, _, _, _, _, rfl⟩
      · rintro Γ' ⟨a, b, e, f, g, rfl⟩
        exact ⟨_, _, _, _, _, _, rfl⟩
    · obtain ⟨a, b, c, e, f, g, rfl⟩ := hΓ
      exact ds_rv (dv_andV2 (a := true) (b := true) (dv_repE (dv_callX (dav_cons (dv_var rfl) da_nil) ⟨net, m, T, F.st, by omega, rfl, rfl⟩) (dv_cb (dav_cons (dv_var rfl) da_nil) rc_tupL) kn (by decide) (.inr (.inl ⟨_, rfl⟩)))
        (dv_repE (dv_callX (dav_cons (dv_var rfl) da_nil) ⟨net, m, T, F.st, by omega, rfl, rfl⟩) (ni _ rfl) (bn _) (by decide) (.inr (.inr ⟨_, rfl⟩))))
end K24

set_option Elab.async false
set_option linter.all false
set_option maxRecDepth 100000
/-! K24S2: the defs called by keywords; _law_right keeps its promise (printed by gen4.py). -/
namespace K24
open PySem PySem.Spec PyProof.Rows L2
abbrev KBindsBy (x : Str) (st : Stmt) (ps ks : List Str) (g : List Value → List Value) : Prop := ∀ (kV doc pm : Value) (an : Option Addr) (cdv ct : Value) (ws : List Value), ws.length = ps.length → bindArgs (PySem.W.fnOf x x (defArgs st) (defBody st) (defScope st) .none kV doc pm an cdv ct) ⟨[], ks.zip ws⟩ = pure (ps.zip (g ws))
section
variable {P : Program} {w : World} {K : PySem.W.Frag} {mg : Str → Option Value} {base : Heap} {x : Str} {st : Stmt} {N ps ks : List Str} {k : Nat} {g : List Value → List Value}
theorem kb_of {f : Addr} {fd : FuncData} (F : FunD K x x (defArgs st) (defBody st) (defScope st) [] [] f fd) (h : KBindsBy x st ps ks g) (s : Shared) (ws : List Value) (hl : ws.length = ps.length) : BindsTo s fd ⟨[], ks.zip ws⟩ (ps.zip (g ws)) := by
  obtain ⟨oc, od, dV, kV, doc, pm, an, cdv, ct, osl, rfl, lk, hcd, hD, hK⟩ := F.ex
  rcases hD with ⟨_, rfl⟩ | ⟨e, _⟩
  · exact .of_eq (h kV doc pm an cdv ct ws hl)
  · exact absurd rfl e
theorem calk_mk {rel : List PD → PD → Prop} {t : TS} (D : Dat K mg x st) (S : FnScope N ps (defScope st)) (hb : KBindsBy x st ps ks g)
    (hp : ∀ (f : Addr) (cdv : Value) (A : Around) (outer : List Env) (s : Shared) (H : Hp) (E : XK), Room k (A.deeper (envOfC x (defScope st) s.heap.objs.size f cdv)) → PSs (cxOf CX0 P w K mg base N x (defScope st) f cdv A outer s H E).nox (defBody st) t)
    (hl : ∀ ds d, rel ds d → ds.length = ps.length)
    (hr : ∀ (G H : Hp) (ds : List PD) (d : PD), rel ds d → DS (W0 K G H) t (ds.map Sl.d ++ List.replicate (N.length - ps.length) Sl.no) No (fun z => z = d) No No) : CalK P w K mg base CX0 (k + 1) x ps ks (spF rel) g := by
  obtain ⟨f, fd, F, hm⟩ := D.ex
  exact ⟨f, fd, F.ok S (spF_len hl) (fun cdv A outer s H vs Q E hrm h => ⟨t, (hp f cdv A outer s H E hrm).nox, body0 (N := N) (m := ps.length) h hl K fun G ds d hd => hr G H ds d hd⟩), hm, F.kp, fun s ws _ hl => kb_of F hb s ws hl⟩
theorem calkX_mk {C : Addr} {rel : List PD → PD → Prop} {bad : List PD → Int → Prop} {t : XK → TS} (D : Dat K mg x st) (S : FnScope N ps (defScope st)) (hb : KBindsBy x st ps ks g)
    (hp : ∀ (f : Addr) (cdv : Value) (A : Around) (outer : List Env) (s : Shared) (H : Hp) (E : XK), Room k (A.deeper (envOfC x (defScope st) s.heap.objs.size f cdv)) → PSs (cxOf (L2.CX P w) P w K mg base N x (defScope st) f cdv A outer s H E) (defBody st) (t E))
    (hl : ∀ ds d, rel ds d → ds.length = ps.length) (hlb : ∀ ds n, bad ds n → ds.length = ps.length)
    (hr : ∀ (vs : List V) (H : Hp) (Q : VK) (E : XK), spX C rel bad vs H Q E → t E { nx := fun _ H' => Q .non H', rt := Q } (L2.start N vs) H) : CalK P w K mg base (L2.CX P w) (k + 1) x ps ks (spX C rel bad) g := by
  obtain ⟨f, fd, F, hm⟩ := D.ex
  exact ⟨f, fd, F.ok S (spX_len hl hlb) (fun cdv A outer s H vs Q E hrm h => ⟨t E, hp f cdv A outer s H E hrm, hr vs H Q E h⟩), hm, F.kp, fun s ws _ hl => kb_of F hb s ws hl⟩
theorem CalK.mono {CX : CXT} {j : Nat} {sp : Sp} (c : CalK P w K mg base CX j x ps ks sp g) (h : j ≤ k) : CalK P w K mg base CX k x ps ks sp g := by
  obtain ⟨f, fd, a, b⟩ := c.ex
  exact ⟨f, fd, a.mono h, b⟩
theorem calg_mk {rel : List PD → PD → Prop} {t : TS} (D : Dat K mg x st) (S : FnScope N ps (defScope st)) (hb : BindsBy x st ps)
    (hp : ∀ (f : Addr) (cdv : Value) (A : Around) (outer : List Env) (s : Shared) (H : Hp) (E : XK), A.guards = some [] → Room k (A.deeper (envOfC x (defScope st) s.heap.objs.size f cdv)) → PSs (cxOf CX0 P w K mg base N x (defScope st) f cdv A outer s H E).nox (defBody st) t)
    (hl : ∀ ds d, rel ds d → ds.length = ps.length)
    (hr : ∀ (G H : Hp) (ds : List PD) (d : PD), rel ds d → DS (W0 K G H) t (ds.map Sl.d ++ List.replicate (N.length - ps.length) Sl.no) No (fun z => z = d) No No) : CalG P w K mg base (k + 1) x ps (spF rel) := by
  obtain ⟨f, fd, F, hm⟩ := D.ex
  exact ⟨f, fd, fnG_of F S (spF_len hl) (fun cdv A outer s H vs Q E hg hrm h => ⟨t, (hp f cdv A outer s H E hg hrm).nox, body0 (N := N) (m := ps.length) h hl K fun G ds d hd => hr G H ds d hd⟩), hm, F.kp, F.bindsN hb⟩
end
theorem k_first_lots {P : Program} {w : World} {K : PySem.W.Frag} {mg : Str → Option Value} {base : Heap} {C fI cc cda : Addr} {fdI : FuncData} (X : Tx P K mg C fI cc cda fdI) : CalK P w K mg base CX0 1 "first_lots" p_first_lots p_first_lots (spF q_first_lots) (fun ws => ws) :=
  calk_mk (k := 0) X.d_first_lots sc_first_lots (fun _ _ _ _ _ _ ws hl => match ws, hl with | [_], _ => rfl) (fun f cdv A outer s H E hr => pd_first_lots X.T hr) (fun ds d h => by obtain ⟨_, _, _, rfl, rfl⟩ := h; rfl) (fun G H ds d h => r_first_lots G H ds d h)
theorem k_lots_next {P : Program} {w : World} {K : PySem.W.Frag} {mg : Str → Option Value} {base : Heap} {C fI cc cda : Addr} {fdI : FuncData} (X : Tx P K mg C fI cc cda fdI) : CalK P w K mg base (L2.CX P w) 13 "lots_next" p_lots_next ["lots", "net"] (spX C q_lots_next b_lots_next) List.reverse :=
  calkX_mk (k := 12) (t := fun E => t_lots_next K w E (spX C q_check_few b_check_few) (spF q_wanted) (spF q_rows_from) (spF (q_branches 4))) X.d_lots_next sc_lots_next (fun _ _ _ _ _ _ ws hl => match ws, hl with | [_, _], _ => rfl) (fun f cdv A outer s H E hr => pd_lots_next X.T ((c_check_few X).mono (by decide)) ((c_wanted X).mono (by decide)) ((c_rows_from X).mono (by decide)) ((c_branches X 4).mono (by decide)) hr px_of) (fun ds d h => by obtain ⟨_, _, _, _, rfl, rfl⟩ := h; rfl) (fun ds n h => by obtain ⟨_, _, _, rfl⟩ := h; rfl)
    (fun vs H Q E h => bodyX (K := K) (N := n_lots_next) (m := p_lots_next.length) h (fun ds d h => by obtain ⟨_, _, _, _, rfl, rfl⟩ := h; rfl) (fun ds n h => by obtain ⟨_, _, _, rfl⟩ := h; rfl) (fun G ds d h => r_lots_next G H ds d h) (fun G ds n h x => x_lots_next G H ds n h x))
theorem k_lot_rounds {P : Program} {w : World} {K : PySem.W.Frag} {mg : Str → Option Value} {base : Heap} {C fI cc cda : Addr} {fdI : FuncData} (X : Tx P K mg C fI cc cda fdI) : CalK P w K mg base (L2.CX P w) 14 "lot_rounds" p_lot_rounds p_lot_rounds (spX C q_lot_rounds b_net) (fun ws => ws) :=
  calkX_mk (k := 13) (t := fun E => t_lot_rounds K w E (spX C q_lots_next b_lots_next) (spF q_first_lots)) X.d_lot_rounds sc_lot_rounds (fun _ _ _ _ _ _ ws hl => match ws, hl with | [_], _ => rfl) (fun f cdv A outer s H E hr => pd_lot_rounds X.T ((c_lots_next X).mono (by decide)) ((c_first_lots X).mono (by decide)) hr px_of) (fun ds d h => by obtain ⟨_, _, _, _, _, rfl, rfl⟩ := h; rfl) (fun ds n h => by obtain ⟨_, _, rfl⟩ := h; rfl)
    (fun vs H Q E h => bodyX (K := K) (N := n_lot_rounds) (m := p_lot_rounds.length) h (fun ds d h => by obtain ⟨_, _, _, _, _, rfl, rfl⟩ := h; rfl) (fun ds n h => by obtain ⟨_, _, rfl⟩ := h; rfl) (fun G ds d h => r_lot_rounds G H ds d h) (fun G ds n h x => x_lot_rounds G H ds n h x))
theorem k_last_lots {P : Program} {w : World} {K : PySem.W.Frag} {mg : Str → Option Value} {base : Heap} {C fI cc cda : Addr} {fdI : FuncData} (X : Tx P K mg C fI cc cda fdI) : CalK P w K mg base (L2.CX P w) 15 "last_lots" p_last_lots p_last_lots (spX C q_last_lots b_net) (fun ws => ws) :=
  calkX_mk (k := 14) (t := fun E => t_last_lots K w E (spX C q_lot_rounds b_net)) X.d_last_lots sc_last_lots (fun _ _ _ _ _ _ ws hl => match ws, hl with | [_], _ => rfl) (fun f cdv A outer s H E hr => pd_last_lots X.T ((c_lot_rounds X).mono (by decide)) hr px_of) (fun ds d h => by obtain ⟨_, _, _, _, _, rfl, rfl⟩ := h; rfl) (fun ds n h => by obtain ⟨_, _, rfl⟩ := h; rfl)
    (fun vs H Q E h => bodyX (K := K) (N := n_last_lots) (m := p_last_lots.length) h (fun ds d h => by obtain ⟨_, _, _, _, _, rfl, rfl⟩ := h; rfl) (fun ds n h => by obtain ⟨_, _, rfl⟩ := h; rfl) (fun G ds d h => r_last_lots G H ds d h) (fun G ds n h x => x_last_lots G H ds n h x))
theorem k_known_rounds {P : Program} {w : World} {K : PySem.W.Frag} {mg : Str → Option Value} {base : Heap} {C fI cc cda : Addr} {fdI : FuncData} (X : Tx P K mg C fI cc cda fdI) : CalK P w K mg base (L2.CX P w) 15 "known_rounds" p_known_rounds p_known_rounds (spX C q_known_rounds b_net) (fun ws => ws) :=
  calkX_mk (k := 14) (t := fun E => t_known_rounds K w E (spX C q_lot_rounds b_net)) X.d_known_rounds sc_known_rounds (fun _ _ _ _ _ _ ws hl => match ws, hl with | [_], _ => rfl) (fun f cdv A outer s H E hr => pd_known_rounds X.T ((c_lot_rounds X).mono (by decide)) hr px_of) (fun ds d h => by obtain ⟨_, _, _, _, _, rfl, rfl⟩ := h; rfl) (fun ds n h => by obtain ⟨_, _, rfl⟩ := h; rfl)
    (fun vs H Q E h => bodyX (K := K) (N := n_known_rounds) (m := p_known_rounds.length) h (fun ds d h => by obtain ⟨_, _, _, _, _, rfl, rfl⟩ := h; rfl) (fun ds n h => by obtain ⟨_, _, rfl⟩ := h; rfl) (fun G ds d h => r_known_rounds G H ds d h) (fun G ds n h x => x_known_rounds G H ds n h x))
theorem k_is_sure {P : Program} {w : World} {K : PySem.W.Frag} {mg : Str → Option Value} {base : Heap} {C fI cc cda : Addr} {fdI : FuncData} (X : Tx P K mg C fI cc cda fdI) : CalK P w K mg base (L2.CX P w) 16 "is_sure" p_is_sure p_is_sure (spX C q_is_sure b_net) (fun ws => ws) :=
  calkX_mk (k := 15) (t := fun E => t_is_sure K w E (spX C q_last_lots b_net)) X.d_is_sure sc_is_sure (fun _ _ _ _ _ _ ws hl => match ws, hl with | [_], _ => rfl) (fun f cdv A outer s H E hr => pd_is_sure X.T ((c_last_lots X).mono (by decide)) hr px_of) (fun ds d h => by obtain ⟨_, _, _, _, _, rfl, rfl⟩ := h; rfl) (fun ds n h => by obtain ⟨_, _, rfl⟩ := h; rfl)
    (fun vs H Q E h => bodyX (K := K) (N := n_is_sure) (m := p_is_sure.length) h (fun ds d h => by obtain ⟨_, _, _, _, _, rfl, rfl⟩ := h; rfl) (fun ds n h => by obtain ⟨_, _, rfl⟩ := h; rfl) (fun G ds d h => r_is_sure G H ds d h) (fun G ds n h x => x_is_sure G H ds n h x))
theorem c_law_right {P : Program} {w : World} {K : PySem.W.Frag} {mg : Str → Option Value} {base : Heap} {C fI cc cda : Addr} {fdI : FuncData} (X : Tx P K mg C fI cc cda fdI) : CalG P w K mg base 17 "_law_right" p_law_right (spF q_law_right) :=
  calg_mk (k := 16) X.d_law_right sc_law_right (fun _ _ _ _ _ _ us hl => match us, hl with | [_], _ => rfl) (fun f cdv A outer s H E hg hr => pd_law_right X.T ((c_law_lot_rounds X).mono (by decide)) ((c_law_one_way X).mono (by decide)) ((c_law_doubled X).mono (by decide)) ((k_first_lots X).mono (by decide)) ((c_lot_rounds X).mono (by decide)) ((k_lot_rounds X).mono (by decide)) ((c_last_lots X).mono (by decide)) ((k_last_lots X).mono (by decide)) ((c_known_rounds X).mono (by decide)) ((k_known_rounds X).mono (by decide)) ((c_is_sure X).mono (by decide)) ((k_is_sure X).mono (by decide)) hr hg)
    (fun ds d h => by obtain ⟨_, _, _, rfl, rfl⟩ := h; rfl) (fun G H ds d h => r_law_right G H ds d h)
end K24

set_option Elab.async false
set_option linter.all false
set_option maxRecDepth 100000
/-! K24G: the deal: a list [cells, blend] that changes; _law_any, _law_of. -/
namespace K24
open PySem PySem.Spec PyProof.Rows L2
def DealZ (p q : Addr) (zs : List Int) (b : Int) (H : Hp) : Prop := H p = some (.lst [.ref q, .int b]) ∧ H q = some (.lst (zs.map V.int)) ∧ (∀ z ∈ zs, 0 ≤ z) ∧ zs.length ≤ 48 ∧ 0 ≤ b ∧ b < 2147483647
def DealAt (p q : Addr) (H : Hp) : Prop := p ≠ q ∧ ∃ zs b, DealZ p q zs b H
abbrev Mpq (p q : Addr) : Addr → Prop := fun a => a = p ∨ a = q
theorem DealZ.mono {p q : Addr} {zs : List Int} {b : Int} {H H' : Hp} (d : DealZ p q zs b H) (h : ∀ a o, Mpq p q a → H a = some o → H' a = some o) : DealZ p q zs b H' :=
  ⟨h p _ (.inl rfl) d.1, h q _ (.inr rfl) d.2.1, d.2.2⟩
theorem dealLive {p q a : Addr} {H : Hp} (d : DealAt p q H) (m : Mpq p q a) (e : H a = none) : False := by
  obtain ⟨_, zs, b, h1, h2, _⟩ := d
  rcases m with rfl | rfl
  · rw [h1] at e; cases e
  · rw [h2] at e; cases e
def WD (K : PySem.W.Frag) (G H : Hp) (p q : Addr) (h : DealAt p q H) : Wd :=
  ⟨K, Mpq p q, DealAt p q, G, H, fun H H' d k => ⟨d.1, let ⟨zs, b, z⟩ := d.2; ⟨zs, b, z.mono k⟩⟩, fun H a d m e => dealLive d m e, h⟩
def spD (pre : List PD → Prop) (post : List PD → PD → Prop) : Sp := fun vs H Q _ => ∃ (p q : Addr) (rest : List V) (ds : List PD) (G : Hp), vs = .ref p :: rest ∧ DqAll G rest ds ∧ Same G H ∧ G p = none ∧ G q = none ∧ DealAt p q H ∧ pre ds ∧
  ∀ (v : V) (G' H' : Hp) (d : PD), Fw (Mpq p q) G H G' H' → DealAt p q H' → post ds d → Dq G' v d → Q v H'
theorem spD_len {pre : List PD → Prop} {post : List PD → PD → Prop} {n : Nat} {ps : List Str} (h : ∀ ds, pre ds → ds.length = n) (hn : ps.length = n + 1) : ∀ vs H Q E, spD pre post vs H Q E → vs.length = ps.length := fun vs H Q E ⟨p, q, rest, ds, G, e, hv, _, _, _, _, hp, _⟩ => by
  rw [e, List.length_cons, hv.length, h ds hp, hn]
/-- a world in which the deal changes -/
structure Dl (W : Wd) (p q : Addr) : Prop where
  m : W.M = Mpq p q
  ph : W.Ph = DealAt p q
theorem dl_WD {K : PySem.W.Frag} {G H : Hp} {p q : Addr} (h : DealAt p q H) : Dl (WD K G H p q h) p q := ⟨rfl, rfl⟩
section
variable {W : Wd} {Γ : List Sl} {ta tb tc te : TE} {P P1 : PD → Prop} {p q : Addr} {K : PySem.W.Frag} {pre : List PD → Prop} {post : List PD → PD → Prop}
theorem de_callD {i : Nat} {tr : TA} {P1 : List PD → Prop} {E : XK} (D : Dl W p q) (h0 : Γ[i]? = some (Sl.v (.ref p))) (h : DA W tr Γ P1) (hp : ∀ ds, P1 ds → pre ds) (k : ∀ ds d, P1 ds → post ds d → P d) : DE W (tCall (spD pre post) [] E (tCons (tVar i) tr)) Γ P := fun σ G H s Q qq => by
  refine ⟨.ref p, s.vv i _ h0, h σ G H s _ fun vs G1 H1 ds s1 f1 p1 hv => ⟨p, q, vs, ds, G1, by rw [List.append_nil], hv, s1.sub, s1.mz p (by rw [D.m]; exact .inl rfl), s1.mz q (by rw [D.m]; exact .inr rfl), D.ph ▸ s1.ph, hp ds p1, fun v G2 H2 d f2 dl po dv => ?_⟩⟩
  have f2' : Fw W.M G1 H1 G2 H2 := by rw [D.m]; exact f2
  exact qq v G2 H2 d (s1.step f2' (by rw [D.ph]; exact dl)) (f1.trans f2') (k ds d p1 po) dv
/-- the deal read, changed -/
theorem SR.deal {G H : Hp} {σ : L2.St} (s : SR W G H σ Γ) (D : Dl W p q) : p ≠ q ∧ ∃ zs b, DealZ p q zs b H := by
  have := s.ph
  rw [D.ph] at this
  exact this
theorem SR.dealQ {G H : Hp} {σ : L2.St} {zs zs' : List Int} {b : Int} (s : SR W G H σ Γ) (D : Dl W p q) (ne : p ≠ q) (d : DealZ p q zs b H) (h0 : ∀ z ∈ zs', 0 ≤ z) (hl : zs'.length ≤ 48) : SR W G (upd H q (.lst (zs'.map V.int))) σ Γ ∧ DealZ p q zs' b (upd H q (.lst (zs'.map V.int))) := by
  have hz : DealZ p q zs' b (upd H q (.lst (zs'.map V.int))) := ⟨by rw [upd_ne ne]; exact d.1, upd_same, h0, hl, d.2.2.2.2⟩
  have gq := s.mz q (by rw [D.m]; exact .inr rfl)
  refine ⟨s.step ⟨fun a o h n => ?_, fun a o h => ?_, fun _ _ _ => rfl, fun a o h => ?_⟩ (by rw [D.ph]; exact ⟨ne, _, _, hz⟩), hz⟩
  · rw [D.m] at n
    rw [upd_ne fun e => n (.inr e)]
    exact h
  · by_cases e : a = q
    · rw [e]; exact ⟨_, upd_same⟩
    · exact ⟨o, by rw [upd_ne e]; exact h⟩
  · rw [upd_ne (ne_of_none h gq)]
    exact s.sub a o h
theorem SR.dealP {G H : Hp} {σ : L2.St} {zs : List Int} {b b' : Int} (s : SR W G H σ Γ) (D : Dl W p q) (ne : p ≠ q) (d : DealZ p q zs b H) (h0 : 0 ≤ b') (h1 : b' < 2147483647) : SR W G (upd H p (.lst [.ref q, .int b'])) σ Γ := by
  have hz : DealZ p q zs b' (upd H p (.lst [.ref q, .int b'])) := ⟨upd_same, by rw [upd_ne (Ne.symm ne)]; exact d.2.1, d.2.2.1, d.2.2.2.1, h0, h1⟩
  have gq := s.mz p (by rw [D.m]; exact .inl rfl)
  refine s.step ⟨fun a o h n => ?_, fun a o h => ?_, fun _ _ _ => rfl, fun a o h => ?_⟩ (by rw [D.ph]; exact ⟨ne, _, _, hz⟩)
  · rw [D.m] at n
    rw [upd_ne fun e => n (.inl e)]
    exact h
  · by_cases e : a = p
    · rw [e]; exact ⟨_, upd_same⟩
    · exact ⟨o, by rw [upd_ne e]; exact h⟩
  · rw [upd_ne (ne_of_none h gq)]
    exact s.sub a o h
abbrev tD0 (K : PySem.W.Frag) : TE := tOp (rIxL K) (tVar 0) (tC (.int 0))
theorem deal0 {σ : L2.St} {H : Hp} {zs : List Int} {b : Int} {Q : VK} (h : σ[0]? = some (some (.ref p))) (d : DealZ p q zs b H) (qq : Q (.ref q) H) : tD0 K σ H Q := ⟨.ref p, h, p, _, 0, .ref q, rfl, rfl, SqL.of d.1, rfl, qq⟩
theorem deal1 {σ : L2.St} {H : Hp} {zs : List Int} {b : Int} {Q : VK} (h : σ[0]? = some (some (.ref p))) (d : DealZ p q zs b H) (qq : Q (.int b) H) : tOp (rIxL K) (tVar 0) (tC (.int 1)) σ H Q := ⟨.ref p, h, p, _, 1, .int b, rfl, rfl, SqL.of d.1, rfl, qq⟩
theorem de_deal1 (D : Dl W p q) (h0 : Γ[0]? = some (Sl.v (.ref p))) : DE W (tOp (rIxL K) (tVar 0) (tC (.int 1))) Γ (fun d => ∃ b, d = .int b ∧ 0 ≤ b ∧ b < 2147483647) := fun σ G H s Q qq => by
  obtain ⟨ne, zs, b, d⟩ := s.deal D
  exact deal1 (s.vv 0 _ h0) d (qq _ G H _ s (Fw.refl s.sub) ⟨b, rfl, d.2.2.2.2⟩ (.int b))
/-- deal[0] != [] -/
theorem deal_ne {σ : L2.St} {G H : Hp} {zs : List Int} {b : Int} {Q : Bool → Hp → Prop} (s : SR W G H σ Γ) (h0 : Γ[0]? = some (Sl.v (.ref p))) (d : DealZ p q zs b H) (qq : ∀ H', SR W G H' σ Γ → DealZ p q zs b H' → Q (!zs.isEmpty) H') : tTest (tOp (rNeD K) (tD0 K) (tLst tNil)) σ H Q := by
  refine deal0 (s.vv 0 _ h0) d ⟨Nat.zero_le _, fun l hl => ?_⟩
  have d' : DealZ p q zs b (upd H l (.lst [])) := d.mono fun a o m h => by rw [upd_ne (ne_of_none h hl)]; exact h
  refine ⟨.list (Ls zs), .list [], Dp.lst (SqL.of d'.2.1) (DqAll.dp _ _ (DqAll.ofInts zs)), Dp.lst (SqL.of upd_same) (DqAll.dp _ _ DqAll.nil), ints_lay zs, nil_lay, _, rfl, ?_⟩
  rw [eqv_nil]
  exact qq _ (s.step0 (Fw.own s.sub hl)) d'
theorem deal_last {σ : L2.St} {H : Hp} {zs : List Int} {z b : Int} {Q : Bool → Hp → Prop} (h : σ[0]? = some (some (.ref p))) (d : DealZ p q (zs ++ [z]) b H) (qq : Q (decide (z = 0)) H) : tTest (tOp rEq (tOp (rIxL K) (tD0 K) (tUn (rU fun i => .int (-i)) (tC (.int 1)))) (tC (.int 0))) σ H Q := by
  refine deal0 h d ⟨1, rfl, q, _, -1, .int z, rfl, rfl, SqL.of d.2.1, ?_, rfl, _, rfl, ?_⟩
  · rw [List.map_append]
    have e : ∀ l : List V, atI (l ++ [V.int z]) (-1) = some (V.int z) := fun l => by
      unfold atI ixN
      rw [List.length_append, List.length_singleton, if_neg (by decide), if_pos (by omega)]
      show (l ++ [V.int z])[_]? = _
      have e2 : (-1 + ((l.length + 1 : Nat) : Int)).toNat = l.length := by omega
      rw [e2, List.getElem?_append_right (Nat.le_refl _), Nat.sub_self]
      rfl
    exact e _
  · rw [dInt]
    exact qq
theorem deal_pop {σ : L2.St} {G H : Hp} {zs : List Int} {z b : Int} {Q : VK} (s : SR W G H σ Γ) (D : Dl W p q) (h0 : Γ[0]? = some (Sl.v (.ref p))) (d : DealZ p q (zs ++ [z]) b H) (qq : ∀ H', SR W G H' σ Γ → DealZ p q zs b H' → Q (.int z) H') : tBM0 K "list" rPop (tD0 K) σ H Q := by
  have ne := (s.deal D).1
  refine deal0 (s.vv 0 _ h0) d ⟨.inl ⟨rfl, _, SqL.of d.2.1⟩, q, _, .int z, rfl, rfl, d.2.1, ?_, ?_⟩
  · rw [List.map_append, List.length_append, List.map_singleton, List.length_singleton, Nat.add_sub_cancel, List.getElem?_append_right (Nat.le_refl _), Nat.sub_self]
    rfl
  · rw [List.map_append, List.map_singleton, List.dropLast_concat]
    have hl := d.2.2.2.1
    rw [List.length_append, List.length_singleton] at hl
    obtain ⟨s', d'⟩ := s.dealQ D ne d (zs' := zs) (fun z hz => d.2.2.1 z (List.mem_append_left _ hz)) (by omega)
    exact qq _ s' d'
end
/-! ### _law_any -/
def any_post (ds : List PD) (d : PD) : Prop := ∃ b i : Int, ds = [.int b] ∧ d = .int i ∧ 0 ≤ i ∧ i < b
def any_pre (ds : List PD) : Prop := ∃ b : Int, ds = [.int b] ∧ 0 < b ∧ b < 1000000
theorem r_law_any {K : PySem.W.Frag} {w : World} (p q : Addr) (G H : Hp) (dl : DealAt p q H) (ds : List PD) (h : any_pre ds) : DS (WD K G H p q dl) (t_law_any K w) (Sl.v (.ref p) :: ds.map Sl.d ++ List.replicate (n_law_any.length - p_law_any.length) Sl.no) No (any_post ds) No No := by
  obtain ⟨bd, rfl, b0, b1⟩ := h
  have D := dl_WD (K := K) (G := G) dl
  generalize eW : WD K G H p q dl = W at D ⊢
  show DS W (t_law_any K w) [Sl.v (.ref p), Sl.d (.int bd), Sl.no] No (any_post [.int bd]) No No
  refine ds_seq (fun σ G H E s n r _ _ => ?_)
  -- the while
  obtain ⟨ne, zs0, bb0, d0⟩ := s.deal D
  refine ⟨fun m σ' H' => SR W G H' σ' [Sl.v (.ref p), Sl.d (.int bd), Sl.no] ∧ ∃ zs b, DealZ p q zs b H' ∧ zs.length = m, ⟨_, s, zs0, bb0, d0, rfl⟩, ?_⟩
  rintro m σ' H' ⟨s', zs, b, d, rfl⟩
  suffices hn : ∀ H2, SR W G H2 σ' [Sl.v (.ref p), Sl.d (.int bd), Sl.no] → E.nx σ' H2 by
    refine deal_ne s' rfl d fun H1 s1 d1 => ?_
    rcases List.eq_nil_or_concat zs with e | ⟨ys, y, e⟩
    · subst e
      exact hn H1 s1
    · subst e
      show (if (!(ys.concat y).isEmpty) = true then _ else _)
      rw [List.concat_eq_append] at d1 ⊢
      rw [if_pos (by simp)]
      refine deal_last (s1.vv 0 _ rfl) d1 ?_
      by_cases hy : y = 0
      · rw [decide_eq_true hy]
        refine ⟨fun σ3 H3 => SR W G H3 σ3 [Sl.v (.ref p), Sl.d (.int bd), Sl.no] ∧ ∃ zs b, DealZ p q zs b H3 ∧ zs.length = ys.length, fun σ3 H3 ⟨a1, zs3, b3, d3, e3⟩ => ⟨ys.length, by simp, a1, zs3, b3, d3, e3⟩, ?_⟩
        refine deal_pop s1 D rfl d1 fun H2 s2 d2 => ?_
        exact ⟨s2, ys, b, d2, rfl⟩
      · rw [decide_eq_false hy]
        exact hn H1 s1
  intro H2 s2
  refine n σ' G H2 _ s2 (Same.refl _) ?_
  -- the rest
  refine ds_seq (fun σ G H E s n r _ _ => ?_)
  obtain ⟨ne, zs, b, d⟩ := s.deal D
  refine deal_ne s rfl d fun H1 s1 d1 => ?_
  rcases List.eq_nil_or_concat zs with e | ⟨ys, z, e⟩
  · subst e
    refine n σ G H1 _ s1 (Same.refl _) ?_
    have e1 : DE W (tOp qMod (tCB rInt1 (tCons (tOp qAdd (tOp qMul (tOp (rIxL K) (tVar 0) (tC (.int 1))) (tC (.int 40693))) (tC (.int 71))) tNil)) (tC (.int 2147483647))) [Sl.v (.ref p), Sl.d (.int bd), Sl.no] (fun d => ∃ b, d = .int b ∧ 0 ≤ b ∧ b < 2147483647) := by
      refine de_op (P1 := fun d => ∃ b : Int, d = .int b) (P2 := fun _ d => d = .int 2147483647) ?_ (fun _ _ => dv_int) ?_
      · refine de_cb (P1 := fun l => ∃ b : Int, l = [.int b]) (da_cons (P1 := fun d => ∃ b : Int, d = .int b) (P2 := fun _ l => l = []) ?_ (fun _ _ => da_nil) ?_) ?_
        · refine de_op (P1 := fun d => ∃ b : Int, d = .int b) (P2 := fun _ d => d = .int 71) ?_ (fun _ _ => dv_int) ?_
          · refine de_op (P1 := fun d => ∃ b : Int, d = .int b ∧ 0 ≤ b ∧ b < 2147483647) (P2 := fun _ d => d = .int 40693) (de_deal1 D rfl) (fun _ _ => dv_int) ?_
            rintro x y ⟨b, rfl, h0, h1⟩ rfl G H v u s hv hu Q qq
            exact rd_mul (.inr (by decide)) G H v u s hv hu Q fun w G' H' z f e dz => qq w G' H' z f ⟨_, e⟩ dz
          · rintro x y ⟨b, rfl⟩ rfl G H v u s hv hu Q qq
            exact rd_add G H v u s hv hu Q fun w G' H' z f e dz => qq w G' H' z f ⟨_, e⟩ dz
        · rintro x xs ⟨b, rfl⟩ rfl
          exact ⟨b, rfl⟩
        · rintro xs ⟨b, rfl⟩ G H vs s hv Q qq
          exact rc_int G H vs s hv Q fun w G' H' z f e dz => qq w G' H' z f ⟨_, e⟩ dz
      · rintro x y ⟨b, rfl⟩ rfl G H v u s hv hu Q qq
        exact rd_mod (by decide) G H v u s hv hu Q fun w G' H' z f e dz => qq w G' H' z f ⟨_, e, by omega, by omega⟩ dz
    refine ds_seq (fun σ G H E s n r _ _ => ?_)
    refine e1 σ G H s _ fun v G' H' d s' f' pd dv => ?_
    obtain ⟨b', rfl, h0, h1⟩ := pd
    cases dv
    obtain ⟨ne, zs, b, d⟩ := s'.deal D
    refine ⟨.ref p, s'.vv 0 _ rfl, p, _, 1, 1, rfl, rfl, d.1, rfl, ?_⟩
    refine n σ G' _ _ (s'.dealP D ne d h0 h1) (f'.grow s.sub) ?_
    refine ds_ret (P := fun d => ∃ i : Int, d = .int i ∧ 0 ≤ i ∧ i < bd) ?_ (fun d ⟨i, e, h⟩ => ⟨bd, i, rfl, e, h⟩)
    refine de_op (P1 := fun d => ∃ b : Int, d = .int b) (P2 := fun _ d => d = .int bd) ?_ (fun _ _ => dv_var rfl) ?_
    · refine de_cb (P1 := fun l => ∃ b : Int, l = [.int b]) (da_cons (P1 := fun d => ∃ b : Int, d = .int b) (P2 := fun _ l => l = []) ?_ (fun _ _ => da_nil) ?_) ?_
      · refine de_op (P1 := fun d => ∃ b : Int, d = .int b ∧ 0 ≤ b ∧ b < 2147483647) (P2 := fun _ d => d = .int 64) (de_deal1 D rfl) (fun _ _ => dv_int) ?_
        rintro x y ⟨b, rfl, h0, h1⟩ rfl G H v u s hv hu Q qq
        exact rd_fdiv ⟨by decide, by decide⟩ G H v u s hv hu Q fun w G' H' z f e dz => qq w G' H' z f ⟨_, e⟩ dz
      · rintro x xs ⟨b, rfl⟩ rfl
        exact ⟨b, rfl⟩
      · rintro xs ⟨b, rfl⟩ G H vs s hv Q qq
        exact rc_int G H vs s hv Q fun w G' H' z f e dz => qq w G' H' z f ⟨_, e⟩ dz
    · rintro x y ⟨b, rfl⟩ rfl G H v u s hv hu Q qq
      exact rd_mod b0 G H v u s hv hu Q fun w G' H' z f e dz => qq w G' H' z f ⟨_, e, Int.emod_nonneg _ (by omega), Int.emod_lt_of_pos _ b0⟩ dz
  · subst e
    rw [List.concat_eq_append] at d1 ⊢
    rw [if_pos (by simp)]
    refine deal_pop s1 D rfl d1 fun H2 s2 d2 => ?_
    refine .inl ⟨z, rfl, ?_⟩
    have s3 := s2.setD (i := 2) (v := .int z) (x := .int z) (.int z)
    have hl := d1.2.2.2.1
    rw [List.length_append, List.length_singleton] at hl
    have z0 : 0 ≤ z := d1.2.2.1 z (List.mem_append_right _ List.mem_cons_self)
    have w2 : CDivW z bd := wide_div (b := 20) b0 (by omega) (by decide) (by decide)
    -- the append
    show tBM K "list" rAppend (tD0 K) (tCons (tOp qDivW (tVar 2) (tVar 1)) tNil) _ H2 _
    refine deal0 (s3.vv 0 _ rfl) d2 ⟨.inl ⟨rfl, _, SqL.of d2.2.1⟩, ?_⟩
    obtain ⟨v2, e2, dv2⟩ := s3.dd 2 _ rfl
    obtain ⟨v1, e1, dv1⟩ := s3.dd 1 _ rfl
    refine ⟨v2, e2, v1, e1, ?_⟩
    cases dv2
    cases dv1
    refine ⟨z, bd, rfl, rfl, w2, q, _, .int (z / bd), rfl, rfl, d2.2.1, ?_, ?_⟩
    · rw [List.length_map]
      exact Nat.lt_of_lt_of_le (show ys.length < 100000 by omega) (by decide : 100000 ≤ sizeLine)
    · have ee : ys.map V.int ++ [V.int (z / bd)] = (ys ++ [z / bd]).map V.int := by rw [List.map_append]; rfl
      rw [ee]
      obtain ⟨s4, d4⟩ := s3.dealQ D ne d2 (zs' := ys ++ [z / bd]) (fun y hy => by
        rcases List.mem_append.mp hy with hy | hy
        · exact d2.2.2.1 y hy
        · rw [List.mem_singleton.mp hy]
          exact Int.ediv_nonneg z0 (by omega)) (by rw [List.length_append, List.length_singleton]; omega)
      refine (ds_ret (N := No) (R := any_post [.int bd]) (B := No) (C := No) (P := fun d => d = .int (z % bd)) (dv_op (dv_var rfl) (dv_var rfl) (rd_mod b0)) (fun d e => ⟨bd, _, rfl, e, Int.emod_nonneg _ (by omega), Int.emod_lt_of_pos _ b0⟩)) _ G _ _ s4 (fun _ _ _ _ _ _ z => z.elim) ?_ (fun _ _ _ _ _ _ z => z.elim) (fun _ _ _ _ _ _ z => z.elim)
      exact r
end K24

set_option Elab.async false
set_option linter.all false
set_option maxRecDepth 100000
/-! K24G2: what the deal draws: _law_of, _law_rule, _law_net, _law_small_net. -/
namespace K24
open PySem PySem.Spec PyProof.Rows L2
section
variable {P : Program} {w : World} {K : PySem.W.Frag} {mg : Str → Option Value} {base : Heap}
theorem cal_mkD {x : Str} {st : Stmt} {N ps : List Str} {k m : Nat} {pre : List PD → Prop} {post : List PD → PD → Prop} {t : TS} (D : Dat K mg x st) (S : FnScope N ps (defScope st)) (hb : BindsBy x st ps)
    (hp : ∀ (f : Addr) (cdv : Value) (A : Around) (outer : List Env) (s : Shared) (H : Hp) (E : XK), Room k (A.deeper (envOfC x (defScope st) s.heap.objs.size f cdv)) → PSs (cxOf CX0 P w K mg base N x (defScope st) f cdv A outer s H E).nox (defBody st) t)
    (hl : ∀ ds, pre ds → ds.length = m) (hm : ps.length = m + 1)
    (hr : ∀ (p q : Addr) (G H : Hp) (dl : DealAt p q H) (ds : List PD), pre ds → DS (WD K G H p q dl) t (Sl.v (.ref p) :: ds.map Sl.d ++ List.replicate (N.length - ps.length) Sl.no) No (post ds) No No) : Cal P w K mg base CX0 (k + 1) x ps (spD pre post) := by
  obtain ⟨f, fd, F, hmg⟩ := D.ex
  refine ⟨f, fd, F.ok S (spD_len hl hm) (fun cdv A outer s H vs Q E hrm h => ⟨t, (hp f cdv A outer s H E hrm).nox, ?_⟩), hmg, F.kp, F.bindsN hb⟩
  obtain ⟨p, q, rest, ds, G, rfl, hv, hs, gp, gq, dl, hpre, kq⟩ := h
  have e : L2.start N (.ref p :: rest) = some (.ref p) :: rest.map some ++ List.replicate (N.length - ps.length) none := by
    unfold L2.start
    rw [List.length_cons, hv.length, hl ds hpre, hm]
    rfl
  rw [e]
  have s0 := sr0 (K := K) hs hv (N.length - ps.length)
  refine hr p q G H dl ds hpre _ G H _ ?_ (fun _ _ _ _ _ _ z => z.elim) (fun v G' H' z f ph e dv => kq v G' H' z f ph e dv) (fun _ _ _ _ _ _ z => z.elim) (fun _ _ _ _ _ _ z => z.elim)
  refine ⟨by simp [hv.length], Fw.refl hs, fun a m => by rcases m with rfl | rfl <;> assumption, dl, fun i x e => ?_, fun i xs e => ?_, fun i x e => ?_, fun i j xs ys r e1 e2 => ?_⟩
  · cases i with
    | zero => cases e
    | succ i => exact s0.dd i x e
  · cases i with
    | zero => cases e
    | succ i =>
      obtain ⟨a, vs', b1, b2, b3, b4, b5⟩ := s0.ll i xs e
      exact ⟨a, vs', b1, b2, b3, b4, b5⟩
  · cases i with
    | zero =>
      cases e
      rfl
    | succ i => exact s0.vv i x e
  · cases i with
    | zero => cases e1
    | succ i =>
      obtain ⟨a, vs', b1, b2, b3, b4, b5⟩ := s0.ll i xs e1
      have b6 : H a = none := b3
      rw [b2] at b6
      cases b6
theorem cal_noneD {x : Str} {st : Stmt} {ps : List Str} {pre : List PD → Prop} {post : List PD → PD → Prop} (D : Dat K mg x st) (hb : BindsBy x st ps) (hn : ∀ ds, ¬ pre ds) : Cal P w K mg base CX0 0 x ps (spD pre post) := by
  obtain ⟨f, fd, F, hm⟩ := D.ex
  have no : ∀ vs H Q E, ¬ spD pre post vs H Q E := fun vs H Q E ⟨_, _, _, ds, _, _, _, _, _, _, _, hp, _⟩ => hn ds hp
  exact ⟨f, fd, ⟨fun vs H Q E h => absurd h (no vs H Q E), fun A outer s H args us vs Q E _ _ _ _ h => absurd h (no vs H Q E)⟩, hm, F.kp, F.bindsN hb⟩
end
section
variable {W : Wd} {Γ : List Sl} {ta tb tc te : TE} {tt : TT} {t u : TS} {tr : TA} {N B C : List Sl → Prop} {R : PD → Prop} {P P1 : PD → Prop} {p q : Addr} {K : PySem.W.Frag} {x : PD}
abbrev q_any : Sp := spD any_pre any_post
theorem de_any {i : Nat} {b : Int} {E : XK} (D : Dl W p q) (h0 : Γ[i]? = some (Sl.v (.ref p))) (hb : DV W te Γ (.int b)) (b0 : 0 < b) (b1 : b < 1000000) : DE W (tCall q_any [] E (tCons (tVar i) (tCons te tNil))) Γ (fun d => ∃ j : Int, d = .int j ∧ 0 ≤ j ∧ j < b) :=
  de_callD D h0 (dav_cons hb da_nil) (fun ds e => ⟨b, e, b0, b1⟩) fun ds d e ⟨b', j, e1, e2, h⟩ => by
    rw [e] at e1
    cases e1
    exact ⟨j, e2, h⟩
/-- e1 + any -/
theorem de_addI {a : Int} {A A' : Int → Prop} (ha : DV W ta Γ (.int a)) (hb : DE W tb Γ (fun d => ∃ j : Int, d = .int j ∧ A j)) (k : ∀ j, A j → A' (a + j)) : DE W (tOp qAdd ta tb) Γ (fun d => ∃ j : Int, d = .int j ∧ A' j) :=
  de_op (P1 := fun d => d = .int a) (P2 := fun _ d => ∃ j : Int, d = .int j ∧ A j) ha (fun _ _ => hb) (by
    rintro x y rfl ⟨j, rfl, hj⟩ G H v u s hv hu Q qq
    exact rd_add G H v u s hv hu Q fun w G' H' z f e dz => qq w G' H' z f ⟨_, e, k j hj⟩ dz)
theorem da_i {A : Int → Prop} {Q : List PD → Prop} (h : DE W te Γ (fun d => ∃ j : Int, d = .int j ∧ A j)) (hr : DA W tr Γ Q) : DA W (tCons te tr) Γ (fun xs => ∃ (j : Int) (ys : List PD), xs = .int j :: ys ∧ A j ∧ Q ys) :=
  da_cons (P2 := fun _ => Q) h (fun _ _ => hr) fun x xs ⟨j, e, a⟩ h2 => ⟨j, xs, by rw [e], a, h2⟩
theorem da_p {A : PD → Prop} {Q : List PD → Prop} (h : DE W te Γ A) (hr : DA W tr Γ Q) : DA W (tCons te tr) Γ (fun xs => ∃ (d : PD) (ys : List PD), xs = d :: ys ∧ A d ∧ Q ys) :=
  da_cons (P2 := fun _ => Q) h (fun _ _ => hr) fun x xs a h2 => ⟨x, xs, rfl, a, h2⟩
theorem da_v {Q : List PD → Prop} (h : DV W te Γ x) (hr : DA W tr Γ Q) : DA W (tCons te tr) Γ (fun xs => ∃ (ys : List PD), xs = x :: ys ∧ Q ys) :=
  da_cons (P2 := fun _ => Q) h (fun _ _ => hr) fun x xs e h2 => ⟨xs, by rw [e], h2⟩
theorem de_tupR {P1 : List PD → Prop} (h : DA W tr Γ P1) (k : ∀ xs, P1 xs → xs.length ≤ 100000 ∧ P (.tuple xs)) : DE W (tTup tr) Γ P := de_tup h (fun xs p => sz (k xs p).1) fun xs p => (k xs p).2
/-- if t: return e -/
theorem ds_ifR {b : Bool} (h : DTv W tt Γ b) (h1 : b = true → DS W t Γ No R B C) (h2 : b = false → DS W u Γ N R B C) : DS W (tSeq (tIfS tt t tNext) u) Γ N R B C :=
  ds_seq (ds_if h (fun e => (h1 e).imp fun _ z => z.elim) fun e => ds_next (h2 e))
theorem dt_eqI {a b : Int} (h : DV W ta Γ (.int a)) (h2 : DV W tb Γ (.int b)) : DTv W (tTest (tOp rEq ta tb)) Γ (decide (a = b)) := dt_test (dv_op h h2 rd_eqI)
theorem dt_ltI {a b : Int} (h : DV W ta Γ (.int a)) (h2 : DV W tb Γ (.int b)) : DTv W (tTest (tOp qLt ta tb)) Γ (decide (a < b)) := dt_test (dv_op h h2 rd_lt)
theorem dt_gtI {a b : Int} (h : DV W ta Γ (.int a)) (h2 : DV W tb Γ (.int b)) : DTv W (tTest (tOp qGt ta tb)) Γ (decide (b < a)) := dt_test (dv_op h h2 rd_gt)
/-- [e for _ in range(m)] -/
theorem de_lcL {ti : TA} {m : Int} {A : Int → Prop} {F : PD → Prop} {j : Nat} {vs : List Nat} (h : DA W ti Γ (fun xs => ∃ (n : Int) (ys : List PD), xs = .int n :: ys ∧ A n ∧ ys = [])) (hA : ∀ n, A n → 0 ≤ n ∧ n ≤ m) (hm : m < 1000) (hj : j ∈ vs) (he : ∀ x, DE W te ((wipeS Γ vs).set j (Sl.d x)) F) :
    DE W (tLc (iRng1 ti) (gName j) tYes te vs) Γ (fun d => ∃ l : List PD, d = .list l ∧ (∃ n, A n ∧ (l.length : Int) = n) ∧ ∀ y ∈ l, F y) := by
  refine de_lc (di_r1 (P2 := fun xs => ∃ n, A n ∧ xs = rng 0 n.toNat) h fun ds ⟨n, ys, e, a, e2⟩ => ⟨n, by rw [e, e2], by have := hA n a; omega, by have := hA n a; omega, n, a, rfl⟩) ?_
  rintro xs ⟨n, a, rfl⟩
  have hn := hA n a
  refine ⟨by rw [rng_len]; omega, fun i acc => acc.length = i ∧ ∀ y ∈ acc, F y, ⟨rfl, fun y hy => nomatch hy⟩, fun i x acc hx ha _ => dgw_name hj (dt_yes.imp fun b hb => ?_), fun acc ha => ⟨acc, rfl, ⟨n, a, ?_⟩, ha.2⟩⟩
  · subst hb
    rw [if_pos rfl]
    refine (he x).imp fun d hd => ⟨by rw [List.length_append, ha.1]; rfl, fun y hy => ?_⟩
    rcases List.mem_append.mp hy with hy | hy
    · exact ha.2 y hy
    · rw [List.mem_singleton.mp hy]; exact hd
  · rw [ha.1, rng_len]
    omega
/-- tuple(list) -/
theorem de_tupOf {Q : List PD → Prop} (h : DE W te Γ (fun d => ∃ l : List PD, d = .list l ∧ Q l)) : DE W (tCB (rTupQ K) (tCons te tNil)) Γ (fun d => ∃ l : List PD, d = .tuple l ∧ Q l) := by
  refine de_cb (P1 := fun xs => ∃ l : List PD, xs = [.list l] ∧ Q l) (da_cons (P2 := fun _ l => l = []) h (fun _ _ => da_nil) ?_) ?_
  · rintro x xs ⟨l, rfl, h⟩ rfl
    exact ⟨l, rfl, h⟩
  · rintro xs ⟨l, rfl, h⟩ G H vs s hv Q qq
    exact rc_tupL G H vs s hv Q fun w G' H' z f e dz => qq w G' H' z f ⟨l, e, h⟩ dz
theorem ints_of {F : Int → Prop} : ∀ {l : List PD}, (∀ y ∈ l, ∃ j : Int, y = .int j ∧ F j) → ∃ ns : List Int, l = Ls ns ∧ ∀ j ∈ ns, F j
  | [], _ => ⟨[], rfl, fun _ h => nomatch h⟩
  | a :: l, h => by
    obtain ⟨j, rfl, hj⟩ := h a List.mem_cons_self
    obtain ⟨ns, rfl, hn⟩ := ints_of (l := l) fun y hy => h y (List.mem_cons_of_mem _ hy)
    refine ⟨j :: ns, rfl, fun z hz => ?_⟩
    rcases List.mem_cons.mp hz with rfl | hz
    · exact hj
    · exact hn z hz
end
/-! ### _law_of -/
def of_pre (ds : List PD) : Prop := ∃ l : List PD, ds = [.list l] ∧ l ≠ [] ∧ l.length < 1000
def of_post (ds : List PD) (d : PD) : Prop := ∃ l : List PD, ds = [.list l] ∧ d ∈ l
theorem r_law_of {K : PySem.W.Frag} {w : World} (p q : Addr) (G H : Hp) (dl : DealAt p q H) (ds : List PD) (h : of_pre ds) : DS (WD K G H p q dl) (t_law_of K w q_any) (Sl.v (.ref p) :: ds.map Sl.d ++ List.replicate (n_law_of.length - p_law_of.length) Sl.no) No (of_post ds) No No := by
  obtain ⟨l, rfl, hn, hl⟩ := h
  have D := dl_WD (K := K) (G := G) dl
  have hp : 0 < l.length := List.length_pos_iff.mpr hn
  refine ds_ret (P := fun d => d ∈ l) ?_ fun d e => ⟨l, rfl, e⟩
  refine de_op (P1 := fun d => d = .list l) (P2 := fun _ d => ∃ j : Int, d = .int j ∧ 0 ≤ j ∧ j < (l.length : Int)) (dv_var rfl) (fun _ _ => de_any D rfl (dv_lenL (dv_var rfl)) (by omega) (by omega)) ?_
  rintro x y rfl ⟨j, rfl, h0, h1⟩ G H v u s hv hu Q qq
  have hj : j.toNat < l.length := by omega
  exact rd_ixL (atI_nn h0 (List.getElem?_eq_getElem hj)) G H v u s hv hu Q fun w G' H' z f e dz => qq w G' H' z f (by rw [e]; exact List.getElem_mem hj) dz
/-! ### _law_rule -/
def Made (n : Nat) (deep : Nat) (d : PD) : Prop := ∃ r, d = enc r ∧ okR n r ∧ dep r ≤ deep + 1 ∧ (brs r).length ≤ 3 ^ deep
def rule_pre (m : Nat) (ds : List PD) : Prop := ∃ (n : Nat) (top : Int) (deep : Nat) (ar : Bool), 1 ≤ n ∧ n ≤ 3 ∧ 1 ≤ top ∧ top ≤ 3 ∧ deep < m ∧ m ≤ 4 ∧ ds = [.int (n : Int), .int top, .int (deep : Int), .bool ar]
def rule_post (ds : List PD) (d : PD) : Prop := ∃ (n : Nat) (top : Int) (deep : Nat) (ar : Bool), ds = [.int (n : Int), .int top, .int (deep : Int), .bool ar] ∧ Made n deep d
theorem made_all {n deep : Nat} : ∀ {l : List PD}, (∀ y ∈ l, Made n deep y) → ∃ ps : List Rl, l = encs ps ∧ okRs n ps ∧ deps ps ≤ deep + 1 ∧ (brss ps).length ≤ ps.length * 3 ^ deep
  | [], _ => ⟨[], rfl, trivial, Nat.zero_le _, Nat.zero_le _⟩
  | a :: l, h => by
    obtain ⟨r, rfl, h1, h2, h3⟩ := h a List.mem_cons_self
    obtain ⟨ps, rfl, g1, g2, g3⟩ := made_all (l := l) fun y hy => h y (List.mem_cons_of_mem _ hy)
    refine ⟨r :: ps, rfl, ⟨h1, g1⟩, Nat.max_le.mpr ⟨h2, g2⟩, ?_⟩
    show (brs r ++ brss ps).length ≤ _
    rw [List.length_append, List.length_cons, Nat.succ_mul]
    omega
theorem made_node {n deep : Nat} {k : Kd} {ps : List Rl} (ho : okK k ps.length) (h1 : okRs n ps) (h2 : deps ps ≤ deep) (h3 : (brss ps).length ≤ 3 ^ deep) : Made n deep (encK k (encs ps)) := ⟨.node k ps, rfl, ⟨ho, h1⟩, Nat.succ_le_succ h2, h3⟩
theorem made_one {n deep : Nat} {k : Kd} {r : Rl} (d0 : 0 < deep) (ho : okK k 1) (h : okR n r) (h2 : dep r ≤ deep) (h3 : (brs r).length ≤ 3 ^ (deep - 1)) : Made n deep (encK k [enc r]) := by
  have e : 3 ^ deep = 3 * 3 ^ (deep - 1) := by
    obtain ⟨m, rfl⟩ : ∃ m, deep = m + 1 := ⟨deep - 1, by omega⟩
    rw [Nat.pow_succ, Nat.add_sub_cancel, Nat.mul_comm]
  refine made_node (ps := [r]) ho ⟨h, trivial⟩ (Nat.max_le.mpr ⟨h2, Nat.zero_le _⟩) ?_
  show (brs r ++ []).length ≤ _
  rw [List.append_nil]
  omega
theorem r_law_rule {K : PySem.W.Frag} {w : World} (m : Nat) (p q : Addr) (G H : Hp) (dl : DealAt p q H) (ds : List PD) (h : rule_pre (m + 1) ds) : DS (WD K G H p q dl) (t_law_rule K w (spD (rule_pre m) rule_post) q_any (spD of_pre of_post)) (Sl.v (.ref p) :: ds.map Sl.d ++ List.replicate (n_law_rule.length - p_law_rule.length) Sl.no) No (rule_post ds) No No := by
  obtain ⟨n, top, deep, ar, n1, n3, t1, t3, hd, hm, rfl⟩ := h
  have D := dl_WD (K := K) (G := G) dl
  generalize eW : WD K G H p q dl = W at D ⊢
  have post : ∀ d, Made n deep d → rule_post [.int (n : Int), .int top, .int (deep : Int), .bool ar] d := fun d h => ⟨n, top, deep, ar, rfl, h⟩
  have top1 : ∀ {Γ : List Sl}, Γ[2]? = some (Sl.d (.int top)) → DV W (tOp qAdd (tVar 2) (tC (.int 1))) Γ (.int (top + 1)) := fun e => dv_op (dv_var e) dv_int rd_add
  have top2 : ∀ {Γ : List Sl}, Γ[2]? = some (Sl.d (.int top)) → DV W (tOp qAdd (tVar 2) (tC (.int 2))) Γ (.int (top + 2)) := fun e => dv_op (dv_var e) dv_int rd_add
  have hrec : ∀ {Γ : List Sl}, 0 < deep → Γ[0]? = some (Sl.v (.ref p)) → Γ[1]? = some (Sl.d (.int (n : Int))) → Γ[2]? = some (Sl.d (.int top)) → Γ[3]? = some (Sl.d (.int (deep : Int))) → Γ[4]? = some (Sl.d (.bool ar)) →
      DE W (tCall (spD (rule_pre m) rule_post) [] E0 (tCons (tVar 0) (tCons (tVar 1) (tCons (tVar 2) (tCons (tOp qSub (tVar 3) (tC (.int 1))) (tCons (tVar 4) tNil)))))) Γ (Made n (deep - 1)) := fun hp e0 e1 e2 e3 e4 => by
    have e5 : (deep : Int) - 1 = ((deep - 1 : Nat) : Int) := by omega
    refine de_callD (P1 := fun ds => ds = [.int (n : Int), .int top, .int ((deep - 1 : Nat) : Int), .bool ar]) D e0 (dav_cons (dv_var e1) (dav_cons (dv_var e2) (dav_cons (DV.to (dv_op (dv_var e3) dv_int rd_sub) (by rw [e5])) (dav_cons (dv_var e4) da_nil)))) (fun ds e => ⟨n, top, deep - 1, ar, n1, n3, t1, t3, by omega, by omega, e⟩) ?_
    rintro ds d rfl ⟨n', top', deep', ar', e, h⟩
    simp only [List.cons.injEq, PyData.int.injEq, PyData.bool.injEq, Int.ofNat_inj, and_true] at e
    obtain ⟨rfl, _, rfl, _⟩ := e
    exact h
  show DS W _ [Sl.v (.ref p), Sl.d (.int (n : Int)), Sl.d (.int top), Sl.d (.int (deep : Int)), Sl.d (.bool ar), Sl.no, Sl.no, Sl.no, Sl.no, Sl.no, Sl.no] No _ No No
  refine ds_seq (ds_asg (P := fun d => ∃ f : Int, d = .int f ∧ 0 ≤ f ∧ f < 14 ∧ (deep = 0 → f < 4)) (de_if (dt_gtI (dv_var rfl) dv_int) (fun e => ?_) (fun e => ?_)) ?_)
  · have := of_decide_eq_true e
    exact (de_any D rfl dv_int (by decide) (by decide)).imp fun d ⟨j, e, a, b⟩ => ⟨j, e, a, b, fun z => by omega⟩
  · exact (de_any D rfl dv_int (by decide) (by decide)).imp fun d ⟨j, e, a, b⟩ => ⟨j, e, a, by omega, fun z => b⟩
  rintro _ ⟨f, rfl, f0, f14, fd⟩
  show DS W _ [Sl.v (.ref p), Sl.d (.int (n : Int)), Sl.d (.int top), Sl.d (.int (deep : Int)), Sl.d (.bool ar), Sl.d (.int f), Sl.no, Sl.no, Sl.no, Sl.no, Sl.no] No _ No No
  -- is
  refine ds_ifR (dt_eqI (dv_var rfl) dv_int) (fun _ => ds_ret (P := Made n deep) (de_tupR (da_v dv_str (da_i (de_any D rfl (top1 rfl) (by omega) (by omega)) da_nil)) ?_) post) fun e1 => ?_
  · rintro xs ⟨ys, rfl, j, zs, rfl, ⟨h0, h1⟩, rfl⟩
    exact ⟨by simp, .is j, rfl, ⟨h0, by omega⟩, Nat.succ_le_succ (Nat.zero_le _), Nat.zero_le _⟩
  have e1 := of_decide_eq_false e1
  -- hear
  refine ds_ifR (dt_ltI (dv_var rfl) dv_int) (fun _ => ds_ret (P := Made n deep) (de_tupR (da_v dv_str (da_i (de_any D rfl (dv_var rfl) (by omega) (by omega)) da_nil)) ?_) post) fun e2 => ?_
  · rintro xs ⟨ys, rfl, j, zs, rfl, ⟨h0, h1⟩, rfl⟩
    refine ⟨by simp, .hear j.toNat, ?_, ⟨by omega, by omega⟩, Nat.succ_le_succ (Nat.zero_le _), Nat.one_le_pow _ _ (by decide)⟩
    show _ = PyData.tuple [.str "hear", .int ((j.toNat : Nat) : Int)]
    rw [show ((j.toNat : Nat) : Int) = j by omega]
  have e2 := of_decide_eq_false e2
  have d0 : 0 < deep := by
    rcases Nat.eq_zero_or_pos deep with z | z
    · exact absurd (fd z) e2
    · exact z
  have pw : 3 ^ deep = 3 * 3 ^ (deep - 1) := by
    obtain ⟨k, rfl⟩ : ∃ k, deep = k + 1 := ⟨deep - 1, by omega⟩
    rw [Nat.pow_succ, Nat.add_sub_cancel, Nat.mul_comm]
  -- least, most, add
  refine ds_ifR (dt_ltI (dv_var rfl) dv_int) (fun _ => ?_) fun e3 => ?_
  · refine ds_seq (ds_asg (de_tupOf (de_lcL (A := fun z => 1 ≤ z ∧ z < 3) (m := 2) (da_i (de_addI (A' := fun z => 1 ≤ z ∧ z < 3) dv_int (de_any D rfl dv_int (by decide) (by decide)) (by intro j h; omega)) da_nil) (by intro n h; omega) (by decide) List.mem_cons_self (fun x => hrec d0 rfl rfl rfl rfl rfl))) ?_)
    rintro _ ⟨l, rfl, ⟨z, hz, hl⟩, hF⟩
    obtain ⟨ps, rfl, g1, g2, g3⟩ := made_all hF
    rw [encs_len] at hl
    refine ds_ret (P := Made n deep) (de_tupR (da_p (A := fun d => d ∈ [PyData.str "least", PyData.str "most", PyData.str "add"]) ?_ (da_v (dv_var rfl) da_nil)) ?_) post
    · refine de_callD (P1 := fun ds => ds = [.list [PyData.str "least", PyData.str "most", PyData.str "add"]]) D rfl (dav_cons (dv_lst (dav_cons dv_str (dav_cons dv_str (dav_cons dv_str da_nil)))) da_nil) (fun ds e => ⟨_, e, by simp, by simp⟩) ?_
      rintro ds d rfl ⟨l, e, hd⟩
      cases e
      exact hd
    · have g4 : (brss ps).length ≤ 3 ^ deep := by
        have : ps.length * 3 ^ (deep - 1) ≤ 2 * 3 ^ (deep - 1) := Nat.mul_le_mul_right _ (by omega)
        omega
      rintro xs ⟨d, ys, rfl, hd, zs, rfl, rfl⟩
      refine ⟨by simp, ?_⟩
      simp only [List.mem_cons, List.not_mem_nil, or_false] at hd
      rcases hd with rfl | rfl | rfl
      · exact made_node (k := .least) ⟨by omega, by omega⟩ g1 (by omega) g4
      · exact made_node (k := .most) ⟨by omega, by omega⟩ g1 (by omega) g4
      · exact made_node (k := .add) ⟨by omega, by omega⟩ g1 (by omega) g4
  -- middle
  refine ds_ifR (dt_and2 (dt_eqI (dv_var rfl) dv_int) (dt_eqI (dv_var rfl) dv_int)) (fun e => ?_) fun _ => ?_
  · have e4 : deep = 1 := by
      rw [Bool.and_eq_true] at e
      have := of_decide_eq_true e.2
      omega
    have hz : DE W (tCall (spD (rule_pre m) rule_post) [] E0 (tCons (tVar 0) (tCons (tVar 1) (tCons (tVar 2) (tCons (tC (.int 0)) (tCons (tVar 4) tNil)))))) [Sl.v (.ref p), Sl.d (.int (n : Int)), Sl.d (.int top), Sl.d (.int (deep : Int)), Sl.d (.bool ar), Sl.d (.int f), Sl.no, Sl.no, Sl.no, Sl.no, Sl.no] (Made n 0) → True := fun _ => trivial
    have hmid : ∀ x : PD, DE W (tCall (spD (rule_pre m) rule_post) [] E0 (tCons (tVar 0) (tCons (tVar 1) (tCons (tVar 2) (tCons (tC (.int 0)) (tCons (tVar 4) tNil)))))) [Sl.v (.ref p), Sl.d (.int (n : Int)), Sl.d (.int top), Sl.d (.int (deep : Int)), Sl.d (.bool ar), Sl.d (.int f), Sl.no, Sl.no, Sl.no, Sl.no, Sl.d x] (Made n 0) := fun x => by
      refine de_callD (P1 := fun ds => ds = [.int (n : Int), .int top, .int ((0 : Nat) : Int), .bool ar]) D rfl (dav_cons (dv_var rfl) (dav_cons (dv_var rfl) (dav_cons dv_int (dav_cons (dv_var rfl) da_nil)))) (fun ds e => ⟨n, top, 0, ar, n1, n3, t1, t3, by omega, by omega, e⟩) ?_
      rintro ds d rfl ⟨n', top', deep', ar', e, h⟩
      simp only [List.cons.injEq, PyData.int.injEq, PyData.bool.injEq, Int.ofNat_inj, and_true] at e
      obtain ⟨rfl, _, rfl, _⟩ := e
      exact h
    refine ds_ret (P := Made n deep) (de_op (P1 := fun d => d = .tuple [.str "middle"]) (dv_tup (dav_cons dv_str da_nil)) (fun _ _ => de_tupOf (de_lcL (A := fun z => z = 3) (m := 3) (da_i (dv_int.imp fun d e => ⟨3, e, rfl⟩) da_nil) (by intro n h; omega) (by decide) List.mem_cons_self hmid)) ?_) post
    rintro x y rfl ⟨l, rfl, ⟨z, hz, hl⟩, hF⟩ G H v u s hv hu Q qq
    obtain ⟨ps, rfl, g1, g2, g3⟩ := made_all hF
    rw [encs_len] at hl
    have hl3 : ps.length = 3 := by omega
    refine rd_catT (by simp) (fun z => ?_) (by rw [encs_len]; simp; omega) G H v u s hv hu Q fun w G' H' z f e dz => qq w G' H' z f ?_ dz
    · have := congrArg List.length z
      rw [encs_len, hl3] at this
      cases this
    · rw [e]
      subst e4
      refine made_node (k := .middle) hl3 g1 g2 ?_
      rw [hl3] at g3
      exact g3
  -- the inner rule
  refine ds_seq (ds_asg (hrec d0 rfl rfl rfl rfl rfl) ?_)
  rintro _ ⟨r, rfl, r1, r2, r3⟩
  show DS W _ [Sl.v (.ref p), Sl.d (.int (n : Int)), Sl.d (.int top), Sl.d (.int (deep : Int)), Sl.d (.bool ar), Sl.d (.int f), Sl.no, Sl.d (enc r), Sl.no, Sl.no, Sl.no] No _ No No
  have r2 : dep r ≤ deep := by omega
  -- times
  refine ds_ifR (dt_eqI (dv_var rfl) dv_int) (fun _ => ds_ret (P := Made n deep) (de_tupR (da_v dv_str (da_i (de_any D rfl dv_int (by omega) (by omega)) (da_v (dv_var rfl) da_nil))) ?_) post) fun _ => ?_
  · rintro xs ⟨ys, rfl, j, zs, rfl, ⟨h0, h1⟩, ws, rfl, rfl⟩
    exact ⟨by simp, made_one (k := .times j) d0 ⟨rfl, by omega, by omega⟩ r1 r2 r3⟩
  -- part
  refine ds_ifR (dt_eqI (dv_var rfl) dv_int) (fun _ => ds_ret (P := Made n deep) (de_tupR (da_v dv_str (da_i (de_addI (A' := fun z => 1 ≤ z ∧ z < 4) dv_int (de_any D rfl dv_int (by omega) (by omega)) (by intro j h; omega)) (da_v (dv_var rfl) da_nil))) ?_) post) fun _ => ?_
  · rintro xs ⟨ys, rfl, j, zs, rfl, ⟨h0, h1⟩, ws, rfl, rfl⟩
    exact ⟨by simp, made_one (k := .part j) d0 ⟨rfl, by omega, by omega⟩ r1 r2 r3⟩
  -- clip
  refine ds_ifR (dt_eqI (dv_var rfl) dv_int) (fun _ => ?_) fun _ => ?_
  · refine ds_seq (ds_asg (de_any D rfl (top1 rfl) (by omega) (by omega)) ?_)
    rintro _ ⟨lo, rfl, l0, l1⟩
    refine ds_ret (P := Made n deep) (de_tupR (da_v dv_str (da_v (dv_var rfl) (da_i (de_addI (A' := fun z => lo ≤ z ∧ z < lo + 3) (dv_var rfl) (de_any D rfl dv_int (by omega) (by omega)) (by intro j h; omega)) (da_v (dv_var rfl) da_nil)))) ?_) post
    rintro xs ⟨ys, rfl, vs, rfl, j, zs, rfl, ⟨h0, h1⟩, ws, rfl, rfl⟩
    exact ⟨by simp, made_one (k := .clip lo j) d0 ⟨rfl, by omega, by omega, by omega⟩ r1 r2 r3⟩
  -- bar
  refine ds_ifR (dt_eqI (dv_var rfl) dv_int) (fun _ => ds_ret (P := Made n deep) (de_tupR (da_v dv_str (da_i (de_any D rfl (top2 rfl) (by omega) (by omega)) (da_i (de_any D rfl (top1 rfl) (by omega) (by omega)) (da_i (de_any D rfl (top1 rfl) (by omega) (by omega)) (da_v (dv_var rfl) da_nil))))) ?_) post) fun _ => ?_
  · rintro xs ⟨ys, rfl, j, zs, rfl, ⟨h0, h1⟩, j2, z2, rfl, ⟨h2, h3⟩, j3, z3, rfl, ⟨h4, h5⟩, ws, rfl, rfl⟩
    exact ⟨by simp, made_one (k := .bar j j2 j3) d0 ⟨rfl, by omega, by omega, by omega, by omega, by omega, by omega⟩ r1 r2 r3⟩
  -- row
  refine ds_ifR (dt_eqI (dv_var rfl) dv_int) (fun _ => ?_) fun _ => ?_
  · refine ds_seq (ds_asg (de_lcL (A := fun z => 1 ≤ z ∧ z < 5) (m := 4) (da_i (de_addI (A' := fun z => 1 ≤ z ∧ z < 5) dv_int (de_any D rfl (top1 rfl) (by omega) (by omega)) (by intro j h; omega)) da_nil) (by intro n h; omega) (by decide) List.mem_cons_self (fun x => de_any D rfl (top1 rfl) (by omega) (by omega))) ?_)
    rintro _ ⟨l, rfl, ⟨z, hz, hl⟩, hF⟩
    obtain ⟨ns, rfl, hn⟩ := ints_of hF
    rw [Ls_len] at hl
    show DS W _ [Sl.v (.ref p), Sl.d (.int (n : Int)), Sl.d (.int top), Sl.d (.int (deep : Int)), Sl.d (.bool ar), Sl.d (.int f), Sl.no, Sl.d (enc r), Sl.no, Sl.d (.list (Ls ns)), Sl.no] No _ No No
    have row : ∀ ms : List Int, ms.Perm ns → Made n deep (.tuple [.str "row", .tuple (Ls ms), enc r]) := fun ms hp => made_one (k := .row ms) d0 ⟨rfl, by rw [hp.length_eq]; omega, by rw [hp.length_eq]; omega, fun w hw => by
      have := hn w (hp.mem_iff.mp hw)
      omega⟩ r1 r2 r3
    have two : DE W (tIf (tB (tVar 4)) (tVar 9) (tCB (rSortedI K) (tCons (tVar 9) tNil))) [Sl.v (.ref p), Sl.d (.int (n : Int)), Sl.d (.int top), Sl.d (.int (deep : Int)), Sl.d (.bool ar), Sl.d (.int f), Sl.no, Sl.d (enc r), Sl.no, Sl.d (.list (Ls ns)), Sl.no] (fun d => ∃ l : List PD, d = .list l ∧ ∃ ms : List Int, l = Ls ms ∧ ms.Perm ns) :=
      de_if (dt_B (dv_var rfl)) (fun _ => (dv_var rfl).imp fun d e => ⟨_, e, ns, rfl, List.Perm.refl _⟩) (fun _ => (dv_cb (dav_cons (dv_var rfl) da_nil) (rc_sorted (srt_perm ns) (srt_asc ns))).imp fun d e => ⟨_, e, srt ns, rfl, srt_perm ns⟩)
    refine ds_ret (P := Made n deep) (de_tupR (da_v dv_str (da_p (de_tupOf two) (da_v (dv_var rfl) da_nil))) ?_) post
    rintro xs ⟨ys, rfl, d, zs, rfl, ⟨l, rfl, ms, rfl, hp⟩, ws, rfl, rfl⟩
    exact ⟨by simp, row ms hp⟩
  -- from
  refine ds_ret (P := Made n deep) (de_tupR (da_v dv_str (da_i (de_any D rfl (top2 rfl) (by omega) (by omega)) (da_v (dv_var rfl) da_nil))) ?_) post
  rintro xs ⟨ys, rfl, j, zs, rfl, ⟨h0, h1⟩, ws, rfl, rfl⟩
  exact ⟨by simp, made_one (k := .frm j) d0 ⟨rfl, by omega, by omega⟩ r1 r2 r3⟩
end K24

set_option Elab.async false
set_option linter.all false
set_option maxRecDepth 100000
/-! K24G3: _law_net, _law_small_net, _law_draw; their facts. -/
namespace K24
open PySem PySem.Spec PyProof.Rows L2
structure Small (net : Net) : Prop where
  t : okT net
  tops : ∀ t ∈ net.1, 1 ≤ t ∧ t ≤ 3
  few : net.1.length ≤ 3
structure Raw (net : Net) : Prop where
  b : okB net
  tops : ∀ t ∈ net.1, 1 ≤ t ∧ t ≤ 3
  few : net.1.length ≤ 3
def net_pre (ds : List PD) : Prop := ∃ ar : Bool, ds = [.int 3, .int 3, .bool ar]
def net_post (ds : List PD) (d : PD) : Prop := ∃ net : Net, d = encN net ∧ Raw net
def small_post (ds : List PD) (d : PD) : Prop := ∃ net : Net, d = encN net ∧ Small net
theorem Made.mono {n a : Nat} {d : PD} (h : Made n a d) (ha : a ≤ 3) : Made n 3 d := by
  obtain ⟨r, e, h1, h2, h3⟩ := h
  exact ⟨r, e, h1, by omega, Nat.le_trans h3 (Nat.pow_le_pow_right (by decide) ha)⟩
theorem made_each {n : Nat} : ∀ {l : List PD}, (∀ y ∈ l, Made n 3 y) → ∃ ps : List Rl, l = encs ps ∧ okRs n ps ∧ deps ps ≤ 4 ∧ ∀ r ∈ ps, (brs r).length ≤ 27
  | [], _ => ⟨[], rfl, trivial, Nat.zero_le _, fun _ h => nomatch h⟩
  | a :: l, h => by
    obtain ⟨r, rfl, h1, h2, h3⟩ := h a List.mem_cons_self
    obtain ⟨ps, rfl, g1, g2, g3⟩ := made_each (l := l) fun y hy => h y (List.mem_cons_of_mem _ hy)
    refine ⟨r :: ps, rfl, ⟨h1, g1⟩, Nat.max_le.mpr ⟨h2, g2⟩, fun z hz => ?_⟩
    rcases List.mem_cons.mp hz with rfl | hz
    · exact h3
    · exact g3 z hz
theorem rl_brs {net : Net} {m : Nat} (h : ∀ r ∈ net.2, (brs r).length ≤ m) (i : Nat) : (brs (rl net i)).length ≤ m := by
  unfold rl
  rw [List.getD_eq_getElem?_getD]
  cases e : net.2[i]? with
  | none => exact Nat.zero_le _
  | some r => exact h r (List.mem_of_getElem? e)
abbrev q_rule : Sp := spD (rule_pre 4) rule_post
theorem r_law_net {K : PySem.W.Frag} {w : World} (p q : Addr) (G H : Hp) (dl : DealAt p q H) (ds : List PD) (h : net_pre ds) : DS (WD K G H p q dl) (t_law_net K w q_any q_rule) (Sl.v (.ref p) :: ds.map Sl.d ++ List.replicate (n_law_net.length - p_law_net.length) Sl.no) No (net_post ds) No No := by
  obtain ⟨ar, rfl⟩ := h
  have D := dl_WD (K := K) (G := G) dl
  generalize eW : WD K G H p q dl = W at D ⊢
  show DS W _ [Sl.v (.ref p), Sl.d (.int 3), Sl.d (.int 3), Sl.d (.bool ar), Sl.no, Sl.no, Sl.no] No _ No No
  refine ds_seq (ds_asg (de_addI (A' := fun z => 1 ≤ z ∧ z < 4) dv_int (de_any D rfl (dv_var rfl) (by omega) (by omega)) (by intro j h; omega)) ?_)
  rintro _ ⟨n, rfl, n1, n4⟩
  have en : n = ((n.toNat : Nat) : Int) := by omega
  generalize n.toNat = m at en
  subst en
  refine ds_seq (ds_asg (de_tupOf (de_lcL (A := fun z => z = (m : Int)) (m := 3) (F := fun d => ∃ j : Int, d = .int j ∧ 1 ≤ j ∧ j < 4) (da_i ((dv_var rfl).imp fun d e => ⟨_, e, rfl⟩) da_nil) (by intro n h; omega) (by decide) List.mem_cons_self (fun x => de_addI dv_int (de_any D rfl (dv_var rfl) (by omega) (by omega)) (by intro j h; omega)))) ?_)
  rintro _ ⟨l, rfl, ⟨z, hz, hl⟩, hF⟩
  obtain ⟨ts, rfl, ht⟩ := ints_of hF
  rw [Ls_len] at hl
  show DS W _ [Sl.v (.ref p), Sl.d (.int 3), Sl.d (.int 3), Sl.d (.bool ar), Sl.d (.int (m : Int)), Sl.d (.tuple (Ls ts)), Sl.no] No _ No No
  refine ds_ret (P := fun d => ∃ net : Net, d = encN net ∧ Raw net) (de_tupR (da_v (dv_var rfl) (da_p (de_tupOf (de_lcL (A := fun z => z = (m : Int)) (m := 3) (F := Made m 3) (da_i ((dv_var rfl).imp fun d e => ⟨_, e, rfl⟩) da_nil) (by intro n h; omega) (by decide) List.mem_cons_self (fun x => ?_))) da_nil)) ?_) (fun d h => h)
  · refine de_callD D rfl (da_v (dv_var rfl) (da_v (dv_var rfl) (da_i (de_any D rfl dv_int (by decide) (by decide)) (da_v (dv_var rfl) da_nil)))) ?_ ?_
    · rintro ds ⟨a, rfl, b, rfl, j, c, rfl, ⟨h0, h1⟩, e, rfl, rfl⟩
      exact ⟨m, 3, j.toNat, ar, by omega, by omega, by decide, by decide, by omega, Nat.le_refl _, by rw [show ((j.toNat : Nat) : Int) = j by omega]⟩
    · rintro ds d ⟨a, rfl, b, rfl, j, c, rfl, ⟨h0, h1⟩, e, rfl, rfl⟩ ⟨n', top', deep', ar', e, h⟩
      simp only [List.cons.injEq, PyData.int.injEq, PyData.bool.injEq, Int.ofNat_inj, and_true] at e
      obtain ⟨rfl, _, e3, _⟩ := e
      exact h.mono (by omega)
  · rintro xs ⟨ys, rfl, d, zs, rfl, ⟨l, rfl, ⟨z2, hz2, hl2⟩, hF2⟩, rfl⟩
    obtain ⟨ps, rfl, g1, g2, g3⟩ := made_each hF2
    rw [encs_len] at hl2
    have e1 : ts.length = m := by omega
    have e2 : ps.length = m := by omega
    have ht2 : ∀ t ∈ ((ts, ps) : Net).1, 1 ≤ t ∧ t ≤ 3 := fun t h => by have := ht t h; omega
    exact ⟨by simp, (ts, ps), rfl, ⟨⟨by rw [e1, e2], by show 1 ≤ ts.length; omega, by show ts.length ≤ 20; omega, fun t h => by have := ht2 t h; omega, by decide, by show okRs ts.length ps; rw [e1]; exact g1, g2⟩, fun i _ => Nat.le_trans (rl_brs (m := 27) g3 i) (by decide)⟩, ht2, by show ts.length ≤ 3; omega⟩
theorem small_of {net : Net} (r : Raw net) (h : fewB net 90 = true) : Small net := by
  unfold fewB at h
  rw [List.all_eq_true] at h
  exact ⟨⟨⟨r.b.ok, fun i hi => of_decide_eq_true (h i (List.mem_range.mpr hi)), r.b.brs⟩, fun t ht => by have := r.tops t ht; omega⟩, r.tops, r.few⟩
def dflt : Net := ([1, 1], [.node (.frm 1) [.hear 1], .hear 0])
theorem dflt_small : Small dflt := by
  have ht : ∀ t ∈ dflt.1, 1 ≤ t ∧ t ≤ 3 := fun t h => by
    simp only [dflt, List.mem_cons, List.not_mem_nil, or_false, or_self] at h
    omega
  have r : Raw dflt := ⟨⟨⟨rfl, by decide, by decide, fun t h => by have := ht t h; omega, by decide, ⟨⟨⟨rfl, by decide, by decide⟩, ⟨by decide, by decide⟩, trivial⟩, ⟨by decide, by decide⟩, trivial⟩, by decide⟩, fun i _ => Nat.le_trans (rl_brs (m := 1) (by
    intro r hr
    simp only [dflt, List.mem_cons, List.not_mem_nil, or_false] at hr
    rcases hr with rfl | rfl <;> decide) i) (by decide)⟩, ht, by decide⟩
  exact small_of r (by decide)
theorem r_law_small_net {K : PySem.W.Frag} {w : World} (p q : Addr) (G H : Hp) (dl : DealAt p q H) (ds : List PD) (h : net_pre ds) : DS (WD K G H p q dl) (t_law_small_net K w (spD net_pre net_post) (spF q_law_few)) (Sl.v (.ref p) :: ds.map Sl.d ++ List.replicate (n_law_small_net.length - p_law_small_net.length) Sl.no) No (small_post ds) No No := by
  obtain ⟨ar, rfl⟩ := h
  have D := dl_WD (K := K) (G := G) dl
  generalize eW : WD K G H p q dl = W at D ⊢
  show DS W _ [Sl.v (.ref p), Sl.d (.int 3), Sl.d (.int 3), Sl.d (.bool ar), Sl.no, Sl.no] No _ No No
  refine ds_seq (ds_forv (div_r1 dv_int (by decide) (by decide)) (fun i Γ' => ∃ a b, Γ' = [Sl.v (.ref p), Sl.d (.int 3), Sl.d (.int 3), Sl.d (.bool ar), a, b]) ⟨_, _, rfl⟩ ?_ ?_)
  · rintro i x Γ' hx ⟨a, b, rfl⟩
    refine dg_name (ds_seq (ds_asg (P := fun d => ∃ net : Net, d = encN net ∧ Raw net) ?_ ?_))
    · refine de_callD D rfl (da_v (dv_var rfl) (da_v (dv_var rfl) (da_v (dv_var rfl) da_nil))) ?_ ?_
      · rintro ds ⟨a, rfl, b, rfl, c, rfl, rfl⟩
        exact ⟨ar, rfl⟩
      · rintro ds d _ h
        exact h
    · rintro _ ⟨net, rfl, hR⟩
      refine ds_if (b := fewB net 90) (dt_B (dv_call (dav_cons (dv_var rfl) (dav_cons dv_int da_nil)) ⟨net, 90, hR.b, rfl, rfl⟩)) (fun e => ?_) (fun e => ds_next ⟨_, _, rfl⟩)
      exact ds_ret (P := fun d => d = encN net) (dv_var rfl) fun d e2 => ⟨net, e2, small_of hR e⟩
  · rintro Γ' ⟨a, b, rfl⟩
    refine ds_ret (P := fun d => d = encN dflt) (DV.to (x := PyData.tuple [.tuple [.int 1, .int 1], .tuple [.tuple [.str "from", .int 1, .tuple [.str "hear", .int 1]], .tuple [.str "hear", .int 0]]]) ?_ rfl) fun d e => ⟨dflt, e, dflt_small⟩
    exact dv_tup (dav_cons (dv_tup (dav_cons dv_int (dav_cons dv_int da_nil)) (by simp)) (dav_cons (dv_tup (dav_cons (dv_tup (dav_cons dv_str (dav_cons dv_int (dav_cons (dv_tup (dav_cons dv_str (dav_cons dv_int da_nil)) (by simp)) da_nil))) (by simp)) (dav_cons (dv_tup (dav_cons dv_str (dav_cons dv_int da_nil)) (by simp)) da_nil)) (by simp)) da_nil)) (by simp)
/-! ### _law_draw -/
def spW (K : PySem.W.Frag) : Sp := fun vs H Q _ => ∃ (a : Addr) (ns : List Int), vs = [.ref a, .int 24] ∧ SqL K H a (ns.map V.int) ∧ ∀ (p q : Addr) (H' : Hp), DealAt p q H' → Q (.ref p) H'
theorem Ls_drop (l : List Int) (k : Nat) : (Ls l).drop k = Ls (l.drop k) := by
  unfold Ls
  rw [List.map_drop]
theorem Ls_take (l : List Int) (k : Nat) : (Ls l).take k = Ls (l.take k) := by
  unfold Ls
  rw [List.map_take]
theorem sqL_same {K : PySem.W.Frag} {H H' : Hp} {a : Addr} {xs : List V} (h : SqL K H a xs) (s : Same H H') : SqL K H' a xs := by
  rcases h with (h | ⟨o, h⟩) | h
  · exact .inl (.inl (s _ _ h))
  · exact .inl (.inr ⟨o, s _ _ h⟩)
  · exact .inr h
theorem draw_cut {K : PySem.W.Frag} {G H : Hp} {a : Addr} {ns : List Int} {W : Wd} {Γ : List Sl} (hW : W = W0 K G H) (h0 : Γ[0]? = some (Sl.v (.ref a))) (hs : SqL K H a (ns.map V.int)) : DV W (tSl (rSlL K) (tVar 0) tNoPart (tPart (tC (.int 48)))) Γ (.list (Ls (ns.take (min 48 ns.length)))) := fun σ G1 H1 s Q qq => by
  subst hW
  have f0 : Fw Nm G H G1 H1 := s.fw
  refine ⟨.ref a, s.vv 0 _ h0, 48, rfl, a, _, rfl, sqL_same hs f0.all, fun l hl => ?_⟩
  have e : cutV (ns.map V.int) none (some 48) = (ns.take (min 48 ns.length)).map V.int := by
    unfold cutV
    have e2 : HT.sIx (ns.map V.int).length 0 none = 0 := rfl
    have e3 : HT.sIx (ns.map V.int).length (ns.map V.int).length (some 48) = min 48 ns.length := by
      rw [List.length_map]
      exact HT.sIx_nat ns.length ns.length 48
    rw [e2, e3, List.drop_zero, Nat.sub_zero, List.map_take]
  rw [e]
  obtain ⟨f, dd⟩ := new_l (vs := (ns.take (min 48 ns.length)).map V.int) s.sub hl (DqAll.ofInts _)
  exact qq _ _ _ _ (s.step0 f) f.any rfl dd
theorem r_law_draw {K : PySem.W.Frag} {w : World} (H : Hp) {a : Addr} {ns : List Int} (hs : SqL K H a (ns.map V.int)) : DS (W0 K (fun _ => none) H) (t_law_draw K w) [Sl.v (.ref a), Sl.d (.int 24), Sl.no, Sl.no, Sl.no] No (fun d => ∃ (zs : List Int) (b : Int), d = .list [.list (Ls zs), .int b] ∧ (∀ z ∈ zs, 0 ≤ z) ∧ zs.length ≤ 48 ∧ 0 ≤ b ∧ b < 2147483647) No No := by
  generalize eW : W0 K (fun _ => none) H = W
  have cut := draw_cut (Γ := [Sl.v (.ref a), Sl.d (.int 24), Sl.no, Sl.no, Sl.no]) eW.symm rfl hs
  have hc : (ns.take (min 48 ns.length)).length ≤ 48 := by
    rw [List.length_take]
    omega
  generalize ns.take (min 48 ns.length) = cs at cut hc
  have hab : ∀ c : Int, 0 ≤ (if c < 0 then -c else c) := fun c => by split <;> omega
  have e1 : DV W (tLc (iList K (tSl (rSlL K) (tVar 0) tNoPart (tPart (tC (.int 48))))) (gName 4) tYes (tCB rAbs (tCons (tCB rInt1 (tCons (tVar 4) tNil)) tNil)) [4]) [Sl.v (.ref a), Sl.d (.int 24), Sl.no, Sl.no, Sl.no] (.list (Ls (cs.map fun c => if c < 0 then -c else c))) := by
    refine DV.to (dv_map (f := fun d => match d with | .int c => .int (if c < 0 then -c else c) | d => d) (div_l cut) (by rw [Ls_len]; omega) List.mem_cons_self fun i x hx => ?_) ?_
    · unfold Ls at hx
      rw [List.getElem?_map] at hx
      cases e : cs[i]? with
      | none => rw [e] at hx; cases hx
      | some c =>
        rw [e] at hx
        cases hx
        exact dv_cb (dav_cons (dv_cb (dav_cons (dv_var rfl) da_nil) rc_int) da_nil) rc_abs
    · unfold Ls
      rw [List.map_map, List.map_map]
      rfl
  have hms : ∀ z ∈ cs.map (fun c : Int => if c < 0 then -c else c), 0 ≤ z := fun z hz => by
    obtain ⟨c, _, rfl⟩ := List.mem_map.mp hz
    exact hab c
  have hml : (cs.map (fun c : Int => if c < 0 then -c else c)).length ≤ 48 := by rw [List.length_map]; exact hc
  generalize cs.map (fun c : Int => if c < 0 then -c else c) = ms at e1 hms hml
  refine ds_seq (ds_asg e1 ?_)
  rintro _ rfl
  refine ds_seq (ds_asg (P := fun d => ∃ b : Int, d = .int b ∧ 0 ≤ b ∧ b < 2147483647) ((dv_op dv_int (dv_op dv_int (dv_var rfl) (rd_mul (.inl (by decide)))) rd_add).imp fun d e => ⟨_, e, by decide, by decide⟩) ?_)
  rintro _ ⟨b, rfl, b0, b1⟩
  refine ds_seq (ds_forv (div_l (dv_var rfl)) (fun i Γ' => ∃ (b : Int) (x : Sl), 0 ≤ b ∧ b < 2147483647 ∧ Γ' = [Sl.v (.ref a), Sl.d (.int 24), Sl.d (.list (Ls ms)), Sl.d (.int b), x]) ⟨b, _, b0, b1, rfl⟩ ?_ ?_)
  · rintro i x Γ' hx ⟨b, y, b0, b1, rfl⟩
    unfold Ls at hx
    rw [List.getElem?_map] at hx
    cases e : ms[i]? with
    | none => rw [e] at hx; cases hx
    | some c =>
      rw [e] at hx
      cases hx
      refine dg_name (ds_asg (dv_op (dv_cb (dav_cons (dv_op (dv_op (dv_op (dv_var rfl) dv_int (rd_mul (.inr (by decide)))) (dv_op (dv_var rfl) dv_int (rd_mod (by decide))) rd_add) dv_int rd_add) da_nil) rc_int) dv_int (rd_mod (by decide))) ?_)
      rintro _ rfl
      exact ⟨_, _, Int.emod_nonneg _ (by decide), Int.emod_lt_of_pos _ (by decide), rfl⟩
  · rintro Γ' ⟨b, x, b0, b1, rfl⟩
    have e2 : DV W (tLc (iList K (tVar 2)) (gName 4) (tTest (tOp qGe (tVar 4) (tOp qPow (tC (.int 10)) (tC (.int 18))))) (tVar 4) [4]) [Sl.v (.ref a), Sl.d (.int 24), Sl.d (.list (Ls ms)), Sl.d (.int b), x] (.list (((Ls ms).filter fun d => match d with | .int c => decide ((10 : Int) ^ (18 : Int).toNat ≤ c) | _ => false).map fun d => d)) := by
      refine dv_filt (div_l (dv_var rfl)) (by rw [Ls_len]; omega) List.mem_cons_self (fun i x hx => ?_) (fun i x hx _ => dv_var rfl)
      unfold Ls at hx
      rw [List.getElem?_map] at hx
      cases e : ms[i]? with
      | none => rw [e] at hx; cases hx
      | some c =>
        rw [e] at hx
        cases hx
        exact dt_test (dv_op (dv_var rfl) (dv_op dv_int dv_int (rd_pow ⟨by decide, by decide, by decide⟩)) rd_ge)
    have e3 : ∀ l : List Int, ((Ls l).filter fun d => match d with | .int c => decide ((10 : Int) ^ (18 : Int).toNat ≤ c) | _ => false) = Ls (l.filter fun c => decide ((10 : Int) ^ (18 : Int).toNat ≤ c)) := fun l => by
      unfold Ls
      rw [List.filter_map]
      rfl
    rw [e3, List.map_id'] at e2
    have e4 : (Ls (ms.filter fun c => decide ((10 : Int) ^ (18 : Int).toNat ≤ c))).reverse = Ls (ms.filter fun c => decide ((10 : Int) ^ (18 : Int).toNat ≤ c)).reverse := by
      unfold Ls
      rw [List.map_reverse]
    refine ds_ret (dv_lst (dav_cons (dv_rev e2) (dav_cons (dv_var rfl) da_nil)) (by simp)) ?_
    rintro _ rfl
    refine ⟨(ms.filter fun c => decide ((10 : Int) ^ (18 : Int).toNat ≤ c)).reverse, b, by rw [e4], fun z hz => hms z (List.mem_filter.mp (List.mem_reverse.mp hz)).1, ?_, b0, b1⟩
    rw [List.length_reverse]
    exact Nat.le_trans (List.length_filter_le _ _) hml
theorem run_law_draw {K : PySem.W.Frag} {w : World} {vs : List V} {H : Hp} {Q : VK} {E : XK} (h : spW K vs H Q E) : t_law_draw K w { nx := fun _ H' => Q .non H', rt := Q } (L2.start n_law_draw vs) H := by
  obtain ⟨a, ns, rfl, hs, kq⟩ := h
  show t_law_draw K w _ [some (.ref a), some (.int 24), none, none, none] H
  have s0 : SR (W0 K (fun _ => none) H) (fun _ => none) H [some (.ref a), some (.int 24), none, none, none] [Sl.v (.ref a), Sl.d (.int 24), Sl.no, Sl.no, Sl.no] := by
    refine ⟨rfl, Fw.refl (fun _ _ z => nomatch z), fun _ z => z.elim, trivial, fun i x e => ?_, fun i xs e => ?_, fun i x e => ?_, fun i j xs ys r e1 _ => ?_⟩
    · match i, e with
      | 0, e => cases e
      | 1, e => cases e; exact ⟨_, rfl, .int 24⟩
      | 2, e => cases e
      | 3, e => cases e
      | 4, e => cases e
      | i + 5, e => cases e
    · match i, e with
      | 0, e => cases e
      | 1, e => cases e
      | 2, e => cases e
      | 3, e => cases e
      | 4, e => cases e
      | i + 5, e => cases e
    · match i, e with
      | 0, e => cases e; rfl
      | 1, e => cases e
      | 2, e => cases e
      | 3, e => cases e
      | 4, e => cases e
      | i + 5, e => cases e
    · match i, e1 with
      | 0, e => cases e
      | 1, e => cases e
      | 2, e => cases e
      | 3, e => cases e
      | 4, e => cases e
      | i + 5, e => cases e
  refine r_law_draw H hs _ _ H _ s0 (fun _ _ _ _ _ _ z => z.elim) ?_ (fun _ _ _ _ _ _ z => z.elim) (fun _ _ _ _ _ _ z => z.elim)
  rintro v G' H' d f _ ⟨zs, b, rfl, z0, zl, b0, b1⟩ dv
  cases dv with
  | @lst p _ _ h1 h2 =>
    cases h2 with
    | cons a1 a2 =>
      cases a2 with
      | cons a3 a4 =>
        cases a4
        cases a3
        cases a1 with
        | @lst q _ _ h3 h4 =>
          have e := h4.ints
          subst e
          refine kq p q H' ⟨fun z => ?_, zs, b, f.sub _ _ h1, f.sub _ _ h3, z0, zl, b0, b1⟩
          subst z
          rw [h1] at h3
          cases zs with
          | nil => cases h3
          | cons z zs => cases h3
theorem cal_mkS {P : Program} {w : World} {K : PySem.W.Frag} {mg : Str → Option Value} {base : Heap} {x : Str} {st : Stmt} {N ps : List Str} {k : Nat} {sp : Sp} {t : TS} (D : Dat K mg x st) (S : FnScope N ps (defScope st)) (hb : BindsBy x st ps)
    (hp : ∀ (f : Addr) (cdv : Value) (A : Around) (outer : List Env) (s : Shared) (H : Hp) (E : XK), Room k (A.deeper (envOfC x (defScope st) s.heap.objs.size f cdv)) → PSs (cxOf CX0 P w K mg base N x (defScope st) f cdv A outer s H E).nox (defBody st) t)
    (hl : ∀ vs H Q E, sp vs H Q E → vs.length = ps.length)
    (hr : ∀ (vs : List V) (H : Hp) (Q : VK) (E : XK), sp vs H Q E → t { nx := fun _ H' => Q .non H', rt := Q } (L2.start N vs) H) : Cal P w K mg base CX0 (k + 1) x ps sp := by
  obtain ⟨f, fd, F, hm⟩ := D.ex
  exact ⟨f, fd, F.ok S hl (fun cdv A outer s H vs Q E hrm h => ⟨t, (hp f cdv A outer s H E hrm).nox, hr vs H Q E h⟩), hm, F.kp, F.bindsN hb⟩
/-! ### the facts -/
section
variable {P : Program} {w : World} {K : PySem.W.Frag} {mg : Str → Option Value} {base : Heap} {C fI cc cda : Addr} {fdI : FuncData} (X : Tx P K mg C fI cc cda fdI)
include X
theorem c_law_any : Cal P w K mg base CX0 1 "_law_any" p_law_any q_any :=
  cal_mkD (k := 0) (m := 1) X.d_law_any sc_law_any (fun _ _ _ _ _ _ us hl => match us, hl with | [_, _], _ => rfl) (fun f cdv A outer s H E hr => pd_law_any X.T hr) (fun ds ⟨b, e, _⟩ => by rw [e]; rfl) rfl (fun p q G H dl ds h => r_law_any p q G H dl ds h)
theorem c_law_of : Cal P w K mg base CX0 2 "_law_of" p_law_of (spD of_pre of_post) :=
  cal_mkD (k := 1) (m := 1) X.d_law_of sc_law_of (fun _ _ _ _ _ _ us hl => match us, hl with | [_, _], _ => rfl) (fun f cdv A outer s H E hr => pd_law_of X.T ((c_law_any X).mono (by decide)) hr) (fun ds ⟨b, e, _⟩ => by rw [e]; rfl) rfl (fun p q G H dl ds h => r_law_of p q G H dl ds h)
theorem c_law_rule : ∀ m : Nat, Cal P w K mg base CX0 (2 + m) "_law_rule" p_law_rule (spD (rule_pre m) rule_post)
  | 0 => (cal_noneD X.d_law_rule (fun _ _ _ _ _ _ us hl => match us, hl with | [_, _, _, _, _], _ => rfl) (fun ds ⟨_, _, _, _, _, _, _, _, h, _⟩ => absurd h (Nat.not_lt_zero _))).mono (by omega)
  | m + 1 => cal_mkD (k := 2 + m) (m := 4) X.d_law_rule sc_law_rule (fun _ _ _ _ _ _ us hl => match us, hl with | [_, _, _, _, _], _ => rfl) (fun f cdv A outer s H E hr => pd_law_rule X.T ((c_law_rule m).mono (by omega)) ((c_law_any X).mono (by omega)) ((c_law_of X).mono (by omega)) hr) (fun ds ⟨_, _, _, _, _, _, _, _, _, _, e⟩ => by rw [e]; rfl) rfl (fun p q G H dl ds h => r_law_rule m p q G H dl ds h)
theorem c_law_net : Cal P w K mg base CX0 7 "_law_net" p_law_net (spD net_pre net_post) :=
  cal_mkD (k := 6) (m := 3) X.d_law_net sc_law_net (fun _ _ _ _ _ _ us hl => match us, hl with | [_, _, _, _], _ => rfl) (fun f cdv A outer s H E hr => pd_law_net X.T ((c_law_any X).mono (by decide)) ((c_law_rule X 4).mono (by decide)) hr) (fun ds ⟨b, e⟩ => by rw [e]; rfl) rfl (fun p q G H dl ds h => r_law_net p q G H dl ds h)
theorem c_law_small_net : Cal P w K mg base CX0 8 "_law_small_net" p_law_small_net (spD net_pre small_post) :=
  cal_mkD (k := 7) (m := 3) X.d_law_small_net sc_law_small_net (fun _ _ _ _ _ _ us hl => match us, hl with | [_, _, _, _], _ => rfl) (fun f cdv A outer s H E hr => pd_law_small_net X.T ((c_law_net X).mono (by decide)) ((c_law_few X).mono (by decide)) hr) (fun ds ⟨b, e⟩ => by rw [e]; rfl) rfl (fun p q G H dl ds h => r_law_small_net p q G H dl ds h)
theorem c_law_draw : Cal P w K mg base CX0 1 "_law_draw" p_law_draw (spW K) :=
  cal_mkS (k := 0) X.d_law_draw sc_law_draw (fun _ _ _ _ _ _ us hl => match us, hl with | [_, _], _ => rfl) (fun f cdv A outer s H E hr => pd_law_draw X.T hr) (fun vs H Q E ⟨a, ns, e, _⟩ => by rw [e]; rfl) (fun vs H Q E h => run_law_draw h)
end
end K24

set_option Elab.async false
set_option linter.all false
set_option maxRecDepth 100000
/-! K24L: the law itself, over its promises. -/
namespace K24
open PySem PySem.Spec PyProof.Rows L2
/-- a lot dealt: some numbers of 0 .. t, ascending -/
def LotIn (t : Int) (l : List Int) : Prop := l ≠ [] ∧ l.Pairwise (· < ·) ∧ ∀ z ∈ l, 0 ≤ z ∧ z ≤ t
structure LotsIn (net : Net) (ls : Lots) : Prop where
  all : ∀ i, i < ls.length → LotIn (tp net i) (ls.getD i [])
theorem lotsIn_add {net : Net} {ls : Lots} {l : List Int} (h : LotsIn net ls) (hl : LotIn (tp net ls.length) l) : LotsIn net (ls ++ [l]) := ⟨fun i hi => by
  rw [List.length_append, List.length_singleton] at hi
  rw [List.getD_eq_getElem?_getD]
  by_cases e : i < ls.length
  · rw [List.getElem?_append_left e, ← List.getD_eq_getElem?_getD]
    exact h.all i e
  · have e2 : i = ls.length := by omega
    subst e2
    rw [List.getElem?_append_right (Nat.le_refl _), Nat.sub_self]
    exact hl⟩
theorem lotsIn_ok {net : Net} {ls : Lots} (h : LotsIn net ls) (hl : ls.length = net.1.length) : okL net ls := by
  have key : ∀ l ∈ ls, ∃ i, i < ls.length ∧ ls.getD i [] = l := fun l hm => by
    obtain ⟨i, hi, e⟩ := List.mem_iff_getElem.mp hm
    exact ⟨i, hi, by rw [List.getD_eq_getElem?_getD, List.getElem?_eq_getElem hi, e]; rfl⟩
  exact ⟨hl, fun l hm => by obtain ⟨i, hi, e⟩ := key l hm; rw [← e]; exact (h.all i hi).1, fun l hm => by obtain ⟨i, hi, e⟩ := key l hm; rw [← e]; exact (h.all i hi).2.1, fun i hi => (h.all i hi).2.2⟩
/-- the great net -/
def greatN (top : Int) (many : Nat) : Net := ([1, top, 20], [.is 1, .node .least (List.replicate many (.hear 1)), .node .add [.hear 2, .hear 2, .hear 2]])
theorem encs_rep (r : Rl) : ∀ n : Nat, encs (List.replicate n r) = List.replicate n (enc r)
  | 0 => rfl
  | n + 1 => by
    rw [List.replicate_succ, List.replicate_succ]
    show enc r :: encs (List.replicate n r) = _
    rw [encs_rep r n]
theorem okRs_rep {m : Nat} {r : Rl} (h : okR m r) : ∀ n : Nat, okRs m (List.replicate n r)
  | 0 => trivial
  | n + 1 => by
    rw [List.replicate_succ]
    exact ⟨h, okRs_rep h n⟩
theorem deps_rep {r : Rl} {k : Nat} (h : dep r ≤ k) : ∀ n : Nat, deps (List.replicate n r) ≤ k
  | 0 => Nat.zero_le _
  | n + 1 => by
    rw [List.replicate_succ]
    exact Nat.max_le.mpr ⟨h, deps_rep h n⟩
theorem brss_rep (j : Nat) : ∀ n : Nat, brss (List.replicate n (.hear j)) = List.replicate n j
  | 0 => rfl
  | n + 1 => by
    rw [List.replicate_succ, List.replicate_succ]
    show [j] ++ brss (List.replicate n (.hear j)) = _
    rw [brss_rep j n]
    rfl
theorem fold_rep (f : Nat → Int) (j : Nat) : ∀ (n : Nat) (a : Int), (List.replicate n j).foldl (fun a b => a * (f b + 1)) a = a * (f j + 1) ^ n
  | 0, a => by simp
  | n + 1, a => by
    rw [List.replicate_succ, List.foldl_cons, fold_rep f j n, Int.pow_succ, Int.mul_assoc, Int.mul_comm (f j + 1)]
theorem pow_mono {a b : Int} (h0 : 0 ≤ a) (h : a ≤ b) : ∀ n : Nat, a ^ n ≤ b ^ n
  | 0 => by simp
  | n + 1 => by
    rw [Int.pow_succ, Int.pow_succ]
    exact Int.mul_le_mul (pow_mono h0 h n) h h0 (Int.le_trans (Int.pow_nonneg h0) (pow_mono h0 h n))
theorem pow_step {b : Int} (h : 1 ≤ b) {m n : Nat} (hm : m ≤ n) : b ^ m ≤ b ^ n := by
  induction n with
  | zero => rw [Nat.le_zero.mp hm]; exact Int.le_refl _
  | succ n ih =>
    rcases Nat.lt_or_eq_of_le hm with z | z
    · have h1 := ih (by omega)
      rw [Int.pow_succ]
      have h2 : b ^ n * 1 ≤ b ^ n * b := Int.mul_le_mul_of_nonneg_left h (Int.pow_nonneg (by omega))
      omega
    · rw [z]; exact Int.le_refl _
theorem greatN_ok {top : Int} {many : Nat} (t0 : 7 ≤ top) (t1 : top ≤ 9) (m0 : 5 ≤ many) (m1 : many ≤ 8) : great (greatN top many) ((top + 1) ^ many) := by
  have hb : ∀ r ∈ (greatN top many).2, (brs r).length ≤ 8 := fun r hr => by
    simp only [greatN, List.mem_cons, List.not_mem_nil, or_false] at hr
    rcases hr with rfl | rfl | rfl
    · decide
    · show (brss _).length ≤ 8
      rw [brss_rep, List.length_replicate]
      exact m1
    · decide
  have hB : okB (greatN top many) := ⟨⟨rfl, by show 1 ≤ 3; decide, by show 3 ≤ 20; decide, fun t h => by
    simp only [greatN, List.mem_cons, List.not_mem_nil, or_false] at h
    omega, by decide, ⟨⟨by decide, by decide⟩, ⟨⟨by rw [List.length_replicate]; omega, by rw [List.length_replicate]; omega⟩, okRs_rep (r := .hear 1) ⟨show 1 < 3 by decide, by decide⟩ many⟩, ⟨⟨by decide, by decide⟩, ⟨show 2 < 3 by decide, by decide⟩, ⟨show 2 < 3 by decide, by decide⟩, ⟨show 2 < 3 by decide, by decide⟩, trivial⟩, trivial⟩, by
    refine Nat.max_le.mpr ⟨by decide, Nat.max_le.mpr ⟨?_, by decide⟩⟩
    show deps _ + 1 ≤ 4
    have := deps_rep (r := .hear 1) (k := 1) (Nat.le_refl _) many
    omega⟩, fun i _ => Nat.le_trans (rl_brs hb i) (by decide)⟩
  have e1 : manyR (greatN top many) 1 = (top + 1) ^ many := by
    show (brss (List.replicate many (.hear 1))).foldl _ 1 = _
    rw [brss_rep]
    have := fold_rep (tp (greatN top many)) 1 many 1
    rw [this, Int.one_mul]
    rfl
  refine ⟨hB, 1, by show 1 < 3; decide, fun j hj => ?_, e1, ?_⟩
  · have : j = 0 := by omega
    subst this
    show (1 : Int) ≤ 4096
    decide
  · have h1 : (8 : Int) ^ 5 ≤ (top + 1) ^ 5 := pow_mono (by decide) (by omega) 5
    have h2 := pow_step (b := top + 1) (by omega) m0
    have h3 : (8 : Int) ^ 5 = 32768 := by decide
    omega
theorem rng_const {x : PD} (lo : Int) (n : Nat) : (rng lo n).map (fun _ => x) = List.replicate n x := by
  unfold rng
  rw [List.map_map]
  exact List.ext_getElem? fun i => by
    rw [List.getElem?_map, List.getElem?_replicate]
    by_cases h : i < n
    · rw [if_pos h, List.getElem?_range h]
      rfl
    · rw [if_neg h, List.getElem?_eq_none (by rw [List.length_range]; omega)]
      rfl
theorem eqv_LL {a b : List Int} : PyData.eqv (.list (Ls a)) (.list (Ls b)) = decide (a = b) := by
  simp only [PyData.eqv]
  exact eqv_Ls
abbrev tLaw (K : PySem.W.Frag) (w : World) (C : Addr) : TS := t_law K w (spW K) (spD net_pre small_post) (spF q_law_lots_next) (spF q_law_refused) (spF q_law_right) q_any (spX C q_lots_next b_lots_next)
theorem rest_of (t u : TS) : tSeq t u = tSeq t u := rfl
section
variable {W : Wd} {p q : Addr} {K : PySem.W.Frag} {w : World} {C : Addr}
/-- a lot is dealt -/
theorem de_lot (D : Dl W p q) {Γ : List Sl} (hl : Γ.length = 13) (h1 : Γ[1]? = some (Sl.v (.ref p))) {t : Int} (t0 : 0 ≤ t) (t1 : t ≤ 1000) (h5 : Γ[5]? = some (Sl.d (.int t))) :
    DE W (tLc (iRng1 (tCons (tOp qAdd (tVar 5) (tC (.int 1))) tNil)) (gName 12) (tTest (tOp rEq (tCall q_any [] E0 (tCons (tVar 1) (tCons (tC (.int 2)) tNil))) (tC (.int 0)))) (tVar 12) [12]) Γ (fun d => ∃ ns : List Int, d = .list (Ls ns) ∧ ns.Pairwise (· < ·) ∧ ∀ z ∈ ns, 0 ≤ z ∧ z ≤ t) := by
  refine de_lc (div_r1 (dv_op (dv_var h5) dv_int rd_add) (by omega) (by omega)) ?_
  rintro xs rfl
  refine ⟨by rw [rng_len]; omega, fun i acc => ∃ ns : List Int, acc = Ls ns ∧ ns.Pairwise (· < ·) ∧ ∀ z ∈ ns, 0 ≤ z ∧ z ≤ t ∧ z < (i : Int), ⟨[], rfl, List.Pairwise.nil, fun _ h => nomatch h⟩, ?_, ?_⟩
  · rintro i x acc hx ⟨ns, rfl, n1, n2⟩ _
    obtain ⟨hi, rfl⟩ := rng_get hx
    have g1 : ((wipeS Γ [12]).set 12 (Sl.d (.int (0 + (i : Int)))))[1]? = some (Sl.v (.ref p)) := by
      rw [List.getElem?_set_ne (by decide)]
      unfold wipeS wipeS
      rw [List.getElem?_set_ne (by decide)]
      exact h1
    have g2 : ((wipeS Γ [12]).set 12 (Sl.d (.int (0 + (i : Int)))))[12]? = some (Sl.d (.int (0 + (i : Int)))) := List.getElem?_set_self (by rw [wipeS_len, hl]; decide)
    refine dgw_name List.mem_cons_self (dtp_test (P := fun b => if b = true then DE W (tVar 12) _ _ else _) ?_)
    refine de_op (P1 := fun d => ∃ j : Int, d = .int j ∧ 0 ≤ j ∧ j < 2) (P2 := fun _ d => d = .int 0) (de_any D g1 dv_int (by decide) (by decide)) (fun _ _ => dv_int) ?_
    rintro x y ⟨j, rfl, hj⟩ rfl G H v u s hv hu Q qq
    refine rd_eqI G H v u s hv hu Q fun w G' H' z f e dz => qq w G' H' z f ⟨_, e, ?_⟩ dz
    split
    · refine (dv_var g2).imp fun d e => ?_
      subst e
      refine ⟨ns ++ [(i : Int)], by unfold Ls; rw [List.map_append, Int.zero_add]; rfl, List.pairwise_append.mpr ⟨n1, List.pairwise_singleton _ _, fun a ha b hb => by rw [List.mem_singleton.mp hb]; exact (n2 a ha).2.2⟩, fun z hz => ?_⟩
      rcases List.mem_append.mp hz with hz | hz
      · have := n2 z hz
        omega
      · rw [List.mem_singleton.mp hz]
        omega
    · exact ⟨ns, rfl, n1, fun z hz => by have := n2 z hz; omega⟩
  · rintro acc ⟨ns, rfl, n1, n2⟩
    exact ⟨ns, rfl, n1, fun z hz => ⟨(n2 z hz).1, (n2 z hz).2.1⟩⟩
/-- the law after the deal is drawn -/
def tRest (K : PySem.W.Frag) (C : Addr) : TS :=
    (tSeq (tFor (iRng1 (tCons (tC (.int 3)) tNil)) (gName 2) (tSeq (tAsg (tCall (spD net_pre small_post) [] E0 (tCons (tVar 1) (tCons (tC (.int 3)) (tCons (tC (.int 3)) (tCons (tOp qLt (tVar 2) (tC (.int 2))) tNil))))) (gName 3))
    (tSeq (tIfS (tNot (tB (tCall (spF q_law_right) [] E0 (tCons (tVar 3) tNil)))) (tRet (tC (.bl false))) tNext)
    (tSeq (tAsg (tLst tNil) (gName 4))
    (tSeq (tFor (iTup K (tOp (rIxT K) (tVar 3) (tC (.int 0)))) (gName 5) (tSeq (tAsg (tLc (iRng1 (tCons (tOp qAdd (tVar 5) (tC (.int 1))) tNil)) (gName 12) (tTest (tOp rEq (tCall q_any [] E0 (tCons (tVar 1) (tCons (tC (.int 2)) tNil))) (tC (.int 0)))) (tVar 12) [12]) (gName 6))
    (tDrop (tBM K "list" rAppend (tVar 4) (tCons (tIf (tTest (tOp (rNeD K) (tVar 6) (tLst tNil))) (tCB (rTupQ K) (tCons (tVar 6) tNil)) (tTup (tCons (tCall q_any [] E0 (tCons (tVar 1) (tCons (tOp qAdd (tVar 5) (tC (.int 1))) tNil))) tNil))) tNil)))))
    (tSeq (tAsg (tCall (spF q_law_lots_next) [] E0 (tCons (tVar 3) (tCons (tCB (rTupQ K) (tCons (tVar 4) tNil)) tNil))) (gName 7))
    (tIfS (tOr (tTest (tOp rNe (tCB (rRepr K) (tCons (tCall (spX C q_lots_next b_lots_next) [] E0 (tCons (tVar 3) (tCons (tCB (rTupQ K) (tCons (tVar 4) tNil)) tNil))) tNil)) (tCB (rRepr K) (tCons (tVar 7) tNil)))) (tTest (tOp rNe (tCB (rRepr K) (tCons (tCallK0 (spX C q_lots_next b_lots_next) List.reverse E0 (tCons (tCB (rTupQ K) (tCons (tVar 4) tNil)) (tCons (tVar 3) tNil))) tNil)) (tCB (rRepr K) (tCons (tVar 7) tNil))))) (tRet (tC (.bl false))) tNext)))))))
    (tSeq (tPar 5 8 (tCons (tOp qAdd (tC (.int 7)) (tCall q_any [] E0 (tCons (tVar 1) (tCons (tC (.int 3)) tNil)))) (tCons (tOp qAdd (tC (.int 5)) (tCall q_any [] E0 (tCons (tVar 1) (tCons (tC (.int 4)) tNil)))) tNil)))
    (tSeq (tAsg (tC (.int 1)) (gName 9))
    (tSeq (tFor (iRng1 (tCons (tVar 8) tNil)) (gName 10) (tAsg (tOp qMul (tVar 9) (tOp qAdd (tVar 5) (tC (.int 1)))) (gName 9)))
    (tSeq (tAsg (tTup (tCons (tTup (tCons (tC (.int 1)) (tCons (tVar 5) (tCons (tC (.int 20)) tNil)))) (tCons (tTup (tCons (tTup (tCons (tC (.str "is")) (tCons (tC (.int 1)) tNil))) (tCons (tTup (tCons (tC (.str "least")) (tCons (tCB (rTupQ K) (tCons (tLc (iRng1 (tCons (tVar 8) tNil)) (gName 10) tYes (tTup (tCons (tC (.str "hear")) (tCons (tC (.int 1)) tNil))) [10]) tNil)) tNil))) (tCons (tTup (tCons (tC (.str "add")) (tCons (tTup (tCons (tTup (tCons (tC (.str "hear")) (tCons (tC (.int 2)) tNil))) (tCons (tTup (tCons (tC (.str "hear")) (tCons (tC (.int 2)) tNil))) (tCons (tTup (tCons (tC (.str "hear")) (tCons (tC (.int 2)) tNil))) tNil)))) tNil))) tNil)))) tNil))) (gName 11))
    (tRet (tOp (rEqD K) (tCall (spF q_law_refused) [] E0 (tCons (tVar 11) tNil)) (tOp rRep (tLst (tCons (tVar 9) tNil)) (tC (.int 5))))))))))
theorem rest_eq : tLaw K w C = tSeq (tAsg (tCall (spW K) [] E0 (tCons (tVar 0) (tCons (tC (.int 24)) tNil))) (gName 1)) (tRest K C) := rfl
theorem r_rest (hF : ∀ net, Small net → ∃ m, Fine net m) (D : Dl W p q) : DS W (tRest K C) (Sl.no :: Sl.v (.ref p) :: List.replicate 11 Sl.no) No (fun d => d = .bool true) No No := by
  refine ds_seq (ds_forv (div_r1 dv_int (by decide) (by decide)) (fun i Γ' => ∃ x2 x3 x4 x5 x6 x7 x12, Γ' = [Sl.no, Sl.v (.ref p), x2, x3, x4, x5, x6, x7, Sl.no, Sl.no, Sl.no, Sl.no, x12]) ⟨_, _, _, _, _, _, _, rfl⟩ ?_ ?_)
  · rintro i x Γ' hx ⟨x2, x3, x4, x5, x6, x7, x12, rfl⟩
    obtain ⟨hi, rfl⟩ := rng_get hx
    refine dg_name (ds_seq (ds_asg (P := fun d => ∃ net : Net, d = encN net ∧ Small net) ?_ ?_))
    · refine de_callD D rfl (da_v dv_int (da_v dv_int (da_v (dv_op (dv_var rfl) dv_int rd_lt) da_nil))) ?_ ?_
      · rintro ds ⟨a, rfl, b, rfl, c, rfl, rfl⟩
        exact ⟨_, rfl⟩
      · rintro ds d _ h
        exact h
    rintro _ ⟨net, rfl, hS⟩
    obtain ⟨m, hm⟩ := hF net hS
    refine ds_ifR (dt_not (dt_B (b := true) (dv_call (dav_cons (dv_var rfl) da_nil) ⟨net, m, hm, rfl, rfl⟩))) (fun z => nomatch z) fun _ => ?_
    refine ds_seq (ds_own0 ?_)
    show DS W _ [Sl.no, Sl.v (.ref p), Sl.d (.int (0 + (i : Int))), Sl.d (encN net), Sl.l [], x5, x6, x7, Sl.no, Sl.no, Sl.no, Sl.no, x12] _ _ _ _
    have T := hS.t
    refine ds_seq (ds_forv (div_t (dv_at (dv_var rfl) at0)) (fun j Γ' => ∃ (ls : Lots) (y5 y6 y12 : Sl), ls.length = j ∧ LotsIn net ls ∧ Γ' = [Sl.no, Sl.v (.ref p), Sl.d (.int (0 + (i : Int))), Sl.d (encN net), Sl.l (ls.map encT), y5, y6, x7, Sl.no, Sl.no, Sl.no, Sl.no, y12]) ⟨[], _, _, _, rfl, ⟨fun _ h => absurd h (Nat.not_lt_zero _)⟩, rfl⟩ ?_ ?_)
    · rintro j x Γ' hx ⟨ls, y5, y6, y12, rfl, hls, rfl⟩
      unfold Ls at hx
      rw [List.getElem?_map] at hx
      cases e : net.1[ls.length]? with
      | none => rw [e] at hx; cases hx
      | some t =>
        rw [e] at hx
        cases hx
        have et : tp net ls.length = t := by
          unfold tp
          rw [List.getD_eq_getElem?_getD, e]
          rfl
        have ht := hS.tops t (List.mem_of_getElem? e)
        have hlt := (List.getElem?_eq_some_iff.mp e).1
        have h20 := hS.few
        refine dg_name (ds_seq (ds_asg (de_lot D rfl rfl (t := t) (by omega) (by omega) rfl) ?_))
        rintro _ ⟨ns, rfl, n1, n2⟩
        show DS W _ [Sl.no, Sl.v (.ref p), Sl.d (.int (0 + (i : Int))), Sl.d (encN net), Sl.l (ls.map encT), Sl.d (.int t), Sl.d (.list (Ls ns)), x7, Sl.no, Sl.no, Sl.no, Sl.no, y12] _ _ _ _
        refine ds_append (P := fun d => ∃ l : List Int, d = encT l ∧ LotIn t l) (i := 4) rfl ?_ (by rw [List.length_map]; omega) ?_
        · have tt : DTv W (tTest (tOp (rNeD K) (tVar 6) (tLst tNil))) [Sl.no, Sl.v (.ref p), Sl.d (.int (0 + (i : Int))), Sl.d (encN net), Sl.l (ls.map encT), Sl.d (.int t), Sl.d (.list (Ls ns)), x7, Sl.no, Sl.no, Sl.no, Sl.no, y12] (!ns.isEmpty) := dt_test (DV.to (dv_op (dv_var rfl) (dv_lst (xs := []) da_nil (Nat.zero_le _)) (rd_neD (ints_lay _) nil_lay)) (by rw [eqv_nil]))
          refine de_if tt (fun e => ?_) (fun e => ?_)
          · refine (dv_cb (dav_cons (dv_var rfl) da_nil) rc_tupL).imp fun d e2 => ⟨ns, e2, fun z => ?_, n1, n2⟩
            rw [z] at e
            cases e
          · refine de_tupR (da_i (de_any D rfl (dv_op (dv_var rfl) dv_int rd_add) (by omega) (by omega)) da_nil) ?_
            rintro xs ⟨j, ys, rfl, ⟨h0, h1⟩, rfl⟩
            exact ⟨by simp, [j], rfl, List.cons_ne_nil _ _, List.pairwise_singleton _ _, fun z hz => by rw [List.mem_singleton.mp hz]; omega⟩
        · rintro _ ⟨l, rfl, hl⟩
          refine ⟨ls ++ [l], Sl.d (.int t), Sl.d (.list (Ls ns)), y12, by rw [List.length_append]; rfl, lotsIn_add hls (by rw [et]; exact hl), ?_⟩
          rw [List.map_append]
          rfl
    · rintro Γ' ⟨ls, y5, y6, y12, hlen, hls, rfl⟩
      rw [Ls_len] at hlen
      have o := lotsIn_ok hls hlen
      have lay : ∀ {Γ : List Sl}, Γ[4]? = some (Sl.d (.list (ls.map encT))) → DV W (tCB (rTupQ K) (tCons (tVar 4) tNil)) Γ (encLs ls) := fun e => dv_cb (dav_cons (dv_var e) da_nil) rc_tupL
      have nice := lots_nice T (next_ok (ls := ls) T.s o)
      refine ds_freeze 4 rfl (ds_seq (ds_asg (P := fun d => d = encLs (nextL net ls)) (dv_call (dav_cons (dv_var rfl) (dav_cons (lay rfl) da_nil)) ⟨net, ls, T.s, o, rfl, rfl⟩) ?_))
      rintro _ rfl
      refine ds_if (dt_or2 (dt_rep (dv_callX (dav_cons (dv_var rfl) (dav_cons (lay rfl) da_nil)) ⟨net, ls, T.s, o, rfl, rfl⟩) (dv_var rfl) nice (by decide) (.inr (.inl ⟨_, rfl⟩))) (dt_rep (dv_callKX (gD := List.reverse) (dav_cons (lay rfl) (dav_cons (dv_var rfl) da_nil)) (fun h => DqAll.reverse h) ⟨net, ls, T.s, o, rfl, rfl⟩) (dv_var rfl) nice (by decide) (.inr (.inl ⟨_, rfl⟩)))) (fun z => nomatch z) fun _ => ds_next ⟨_, _, _, _, _, _, _, rfl⟩
  rintro Γ' ⟨x2, x3, x4, x5, x6, x7, x12, rfl⟩
  refine ds_seq (ds_par (da_i (de_addI (A' := fun z => 7 ≤ z ∧ z < 10) dv_int (de_any D rfl dv_int (by decide) (by decide)) (by intro j h; omega)) (da_i (de_addI (A' := fun z => 5 ≤ z ∧ z < 9) dv_int (de_any D rfl dv_int (by decide) (by decide)) (by intro j h; omega)) da_nil)) ?_)
  rintro xs ⟨top, ys, rfl, ht, many, zs, rfl, hm, rfl⟩
  refine ⟨_, _, rfl, ?_⟩
  have em : many = ((many.toNat : Nat) : Int) := by omega
  generalize many.toNat = mn at em
  subst em
  show DS W _ [Sl.no, Sl.v (.ref p), x2, x3, x4, Sl.d (.int top), x6, x7, Sl.d (.int (mn : Int)), Sl.no, Sl.no, Sl.no, x12] No _ No No
  refine ds_seq (ds_asg dv_int ?_)
  rintro _ rfl
  refine ds_seq (ds_forv (div_r1 (dv_var rfl) (by omega) (by omega)) (fun i Γ' => ∃ y : Sl, Γ' = [Sl.no, Sl.v (.ref p), x2, x3, x4, Sl.d (.int top), x6, x7, Sl.d (.int (mn : Int)), Sl.d (.int ((top + 1) ^ i)), y, Sl.no, x12]) ⟨Sl.no, by rw [Int.pow_zero]; rfl⟩ ?_ ?_)
  · rintro i x Γ' hx ⟨y, rfl⟩
    refine dg_name (ds_asg (dv_op (dv_var rfl) (dv_op (dv_var rfl) dv_int rd_add) (rd_mul (.inr ⟨by omega, by omega⟩))) ?_)
    rintro _ rfl
    refine ⟨Sl.d x, ?_⟩
    rw [Int.pow_succ]
    rfl
  rintro Γ' ⟨y, rfl⟩
  rw [rng_len, Int.toNat_natCast]
  have hear : ∀ (i : Int) (Γ : List Sl), DV W (tTup (tCons (tC (.str "hear")) (tCons (tC (.int i)) tNil))) Γ (.tuple [.str "hear", .int i]) := fun i Γ => dv_tup (dav_cons dv_str (dav_cons dv_int da_nil)) (by simp)
  refine ds_seq (ds_asg (P := fun d => d = encN (greatN top mn)) (DV.to (dv_tup (dav_cons (dv_tup (dav_cons dv_int (dav_cons (dv_var rfl) (dav_cons dv_int da_nil))) (by simp)) (dav_cons (dv_tup (dav_cons (dv_tup (dav_cons dv_str (dav_cons dv_int da_nil)) (by simp)) (dav_cons (dv_tup (dav_cons dv_str (dav_cons (dv_cb (dav_cons (dv_map (f := fun _ => .tuple [.str "hear", .int 1]) (div_r1 (dv_var rfl) (by omega) (by omega)) (by rw [rng_len]; omega) List.mem_cons_self fun i x hx => hear 1 _) da_nil) rc_tupL) da_nil)) (by simp)) (dav_cons (dv_tup (dav_cons dv_str (dav_cons (dv_tup (dav_cons (hear 2 _) (dav_cons (hear 2 _) (dav_cons (hear 2 _) da_nil))) (by simp)) da_nil)) (by simp)) da_nil))) (by simp)) da_nil)) (by simp)) ?_) ?_)
  · rw [rng_const, Int.toNat_natCast]
    show _ = PyData.tuple [.tuple [.int 1, .int top, .int 20], .tuple [.tuple [.str "is", .int 1], .tuple [.str "least", .tuple (encs (List.replicate mn (.hear 1)))], .tuple [.str "add", .tuple [.tuple [.str "hear", .int 2], .tuple [.str "hear", .int 2], .tuple [.str "hear", .int 2]]]]]
    rw [encs_rep]
    rfl
  rintro _ rfl
  refine ds_ret (dv_op (dv_call (dav_cons (dv_var rfl) da_nil) ⟨_, _, greatN_ok ht.1 (by omega) (m0 := by omega) (m1 := by omega), rfl, rfl⟩) (dv_op (dv_lst (dav_cons (dv_var rfl) da_nil) (by simp)) dv_int (rd_rep (by decide) (by decide) (by simp))) (rd_eqD (y := .list (Ls (List.replicate 5 ((top + 1) ^ mn)))) ?_ (ints_lay _))) ?_
  · show SeqAt.shaped (.list (Ls (List.replicate 5 ((top + 1) ^ mn)))) = true
    exact ints_lay _
  · rintro _ rfl
    show PyData.bool (PyData.eqv (.list (Ls (List.replicate 5 ((top + 1) ^ mn)))) (.list (Ls (List.replicate 5 ((top + 1) ^ mn))))) = _
    rw [eqv_LL, decide_eq_true rfl]
theorem r_law (hF : ∀ net, Small net → ∃ m, Fine net m) {H : Hp} {a : Addr} {ns : List Int} (hs : SqL K H a (ns.map V.int)) {D0 : Ends} (hr : ∀ H', D0.rt (.bl true) H') : tLaw K w C D0 (some (.ref a) :: List.replicate 12 none) H := by
  refine ⟨.ref a, rfl, ⟨a, ns, rfl, hs, fun p q H1 dl => ?_⟩⟩
  have D := dl_WD (K := K) (G := fun _ => none) dl
  have s0 : SR (WD K (fun _ => none) H1 p q dl) (fun _ => none) H1 (some (.ref a) :: some (.ref p) :: List.replicate 11 none) (Sl.no :: Sl.v (.ref p) :: List.replicate 11 Sl.no) := by
    have nodl : ∀ (i : Nat) (x : Sl), (Sl.no :: Sl.v (.ref p) :: List.replicate 11 Sl.no)[i]? = some x → x = Sl.no ∨ (i = 1 ∧ x = Sl.v (.ref p)) := fun i x e => by
      match i, e with
      | 0, e => exact .inl (Option.some.inj e).symm
      | 1, e => exact .inr ⟨rfl, (Option.some.inj e).symm⟩
      | i + 2, e =>
        have e' : (List.replicate 11 Sl.no)[i]? = some x := e
        rw [List.getElem?_replicate] at e'
        split at e'
        · exact .inl (Option.some.inj e').symm
        · cases e'
    refine ⟨rfl, Fw.refl (fun _ _ z => nomatch z), fun _ _ => rfl, dl, fun i x e => ?_, fun i xs e => ?_, fun i x e => ?_, fun i j xs ys r e1 _ => ?_⟩
    · rcases nodl i _ e with h | ⟨_, h⟩ <;> cases h
    · rcases nodl i _ e with h | ⟨_, h⟩ <;> cases h
    · rcases nodl i _ e with h | ⟨rfl, h⟩
      · cases h
      · cases h
        rfl
    · rcases nodl i _ e1 with h | ⟨_, h⟩ <;> cases h
  refine r_rest hF D _ _ _ _ s0 (fun _ _ _ _ _ _ z => z.elim) (fun v G' H' d f _ e dv => ?_) (fun _ _ _ _ _ _ z => z.elim) (fun _ _ _ _ _ _ z => z.elim)
  subst e
  cases dv
  exact hr H'
end
end K24

set_option Elab.async false
set_option linter.all false
set_option maxRecDepth 100000
/-! K24W: lots shrink to a stop; a net is sure when each house was known at a round. -/
namespace K24
open PySem PySem.Spec PyProof.Rows L2
/-- a row that lots bring -/
def Br (ls : Lots) : List Nat → List Int → Prop
  | [], [] => True
  | b :: bs, z :: zs => z ∈ ls.getD b [] ∧ Br ls bs zs
  | _, _ => False
theorem mem_rows {ls : Lots} {row : List Int} : ∀ (bs : List Nat) (f : List (List Int)), row ∈ rowsOf ls bs f ↔ ∃ r ∈ f, ∃ t, row = r ++ t ∧ Br ls bs t
  | [], f => by
    show row ∈ f ↔ _
    constructor
    · intro h
      exact ⟨row, h, [], (List.append_nil _).symm, trivial⟩
    · rintro ⟨r, hr, t, rfl, ht⟩
      cases t with
      | nil => rw [List.append_nil]; exact hr
      | cons a t => exact ht.elim
  | b :: bs, f => by
    show row ∈ rowsOf ls bs (f.flatMap fun row => (ls.getD b []).map fun w => row ++ [w]) ↔ _
    rw [mem_rows bs]
    constructor
    · rintro ⟨r, hr, t, rfl, ht⟩
      obtain ⟨r0, h0, h1⟩ := List.mem_flatMap.mp hr
      obtain ⟨z, hz, rfl⟩ := List.mem_map.mp h1
      exact ⟨r0, h0, z :: t, by rw [List.append_assoc]; rfl, hz, ht⟩
    · rintro ⟨r, hr, t, rfl, ht⟩
      cases t with
      | nil => exact ht.elim
      | cons z t => exact ⟨r ++ [z], List.mem_flatMap.mpr ⟨r, hr, List.mem_map.mpr ⟨z, ht.1, rfl⟩⟩, t, by rw [List.append_assoc]; rfl, ht.2⟩
theorem mem_rows0 {ls : Lots} {bs : List Nat} {row : List Int} : row ∈ rowsOf ls bs [[]] ↔ Br ls bs row := by
  rw [mem_rows]
  constructor
  · rintro ⟨r, hr, t, rfl, ht⟩
    rw [List.mem_singleton.mp hr]
    exact ht
  · intro h
    exact ⟨[], List.mem_singleton.mpr rfl, row, rfl, h⟩
def Sub (ls ls' : Lots) : Prop := ∀ i, ∀ z ∈ ls.getD i [], z ∈ ls'.getD i []
theorem Br.mono {ls ls' : Lots} (h : Sub ls ls') : ∀ {bs : List Nat} {row : List Int}, Br ls bs row → Br ls' bs row
  | [], [], _ => trivial
  | b :: bs, z :: zs, h1 => ⟨h b z h1.1, Br.mono h h1.2⟩
  | [], _ :: _, h1 => h1.elim
  | _ :: _, [], h1 => h1.elim
theorem next_get {net : Net} {ls : Lots} (S : okS net) {i : Nat} (hi : i < net.1.length) : (nextL net ls).getD i [] = uset ((rowsOf ls (brs (rl net i)) [[]]).map (want net i)) := by
  unfold nextL
  rw [List.getD_eq_getElem?_getD, List.getElem?_map, List.getElem?_range (by rw [S.ok.len]; exact hi)]
  rfl
theorem mem_next {net : Net} {ls : Lots} (S : okS net) {i : Nat} (hi : i < net.1.length) {z : Int} : z ∈ (nextL net ls).getD i [] ↔ ∃ row, Br ls (brs (rl net i)) row ∧ z = want net i row := by
  rw [next_get S hi, uset_mem, List.mem_map]
  constructor
  · rintro ⟨row, hr, rfl⟩
    exact ⟨row, mem_rows0.mp hr, rfl⟩
  · rintro ⟨row, hr, rfl⟩
    exact ⟨row, mem_rows0.mpr hr, rfl⟩
theorem getD_big {l : Lots} {i : Nat} (h : l.length ≤ i) : l.getD i [] = [] := by
  rw [List.getD_eq_getElem?_getD, List.getElem?_eq_none h]
  rfl
theorem next_len {net : Net} {ls : Lots} (S : okS net) : (nextL net ls).length = net.1.length := by
  unfold nextL
  rw [List.length_map, List.length_range, S.ok.len]
theorem next_mono {net : Net} {ls ls' : Lots} (S : okS net) (h : Sub ls ls') : Sub (nextL net ls) (nextL net ls') := fun i z hz => by
  by_cases hi : i < net.1.length
  · obtain ⟨row, hr, e⟩ := (mem_next S hi).mp hz
    exact (mem_next S hi).mpr ⟨row, hr.mono h, e⟩
  · rw [getD_big (by rw [next_len S]; omega)] at hz
    exact nomatch hz
theorem it_shrinks {net : Net} (S : okS net) : ∀ m, Sub (itL net (m + 1)) (itL net m)
  | 0 => fun i z hz => by
    have o := next_ok (ls := firstL net) S (first_ok S.ok)
    show z ∈ (firstL net).getD i []
    have hz : z ∈ (nextL net (firstL net)).getD i [] := hz
    by_cases hi : i < net.1.length
    · have h := o.nn i (by rw [o.len]; exact hi) z hz
      rw [first_get hi]
      exact (upto_mem (by omega)).mpr h
    · rw [getD_big (by rw [next_len S]; omega)] at hz
      exact nomatch hz
  | m + 1 => next_mono S (it_shrinks S m)
theorem it_down {net : Net} (S : okS net) {j m : Nat} (h : j ≤ m) : Sub (itL net m) (itL net j) := by
  induction m with
  | zero => rw [Nat.le_zero.mp h]; exact fun _ _ z => z
  | succ m ih =>
    rcases Nat.lt_or_eq_of_le h with e | e
    · exact fun i z hz => ih (by omega) i z (it_shrinks S m i z hz)
    · rw [e]; exact fun _ _ z => z
/-! ### ascending lists, one in another -/
theorem asc_in : ∀ {m l : List Int}, l.Pairwise (· < ·) → m.Pairwise (· < ·) → (∀ z ∈ l, z ∈ m) → l.Sublist m
  | [], l, _, _, h => by
    cases l with
    | nil => exact List.Sublist.refl _
    | cons x l => exact nomatch h x List.mem_cons_self
  | y :: m, [], _, _, _ => List.nil_sublist _
  | y :: m, x :: l, h1, h2, h => by
    obtain ⟨a1, a2⟩ := List.pairwise_cons.mp h1
    obtain ⟨b1, b2⟩ := List.pairwise_cons.mp h2
    by_cases e : x = y
    · subst e
      refine List.Sublist.cons₂ _ (asc_in a2 b2 fun z hz => ?_)
      rcases List.mem_cons.mp (h z (List.mem_cons_of_mem _ hz)) with e | e
      · exact absurd (a1 z hz) (by rw [e]; exact Int.lt_irrefl _)
      · exact e
    · have hx : x ∈ m := by
        rcases List.mem_cons.mp (h x List.mem_cons_self) with z | z
        · exact absurd z e
        · exact z
      have hy := b1 x hx
      refine List.Sublist.cons _ (asc_in h1 b2 fun z hz => ?_)
      rcases List.mem_cons.mp (h z hz) with z1 | z1
      · rcases List.mem_cons.mp hz with z2 | z2
        · exact absurd (z2 ▸ z1) e
        · have := a1 z z2
          omega
      · exact z1
def S0 (ls : Lots) : Nat := (ls.map List.length).sum
theorem S0_sub : ∀ {ls ls' : Lots}, ls.length = ls'.length → (∀ l ∈ ls, l.Pairwise (· < ·)) → (∀ l ∈ ls', l.Pairwise (· < ·)) → Sub ls ls' → S0 ls ≤ S0 ls' ∧ (S0 ls = S0 ls' → ls = ls')
  | [], [], _, _, _, _ => ⟨Nat.le_refl _, fun _ => rfl⟩
  | [], _ :: _, h, _, _, _ => nomatch h
  | _ :: _, [], h, _, _, _ => nomatch h
  | l :: ls, l' :: ls', h, h1, h2, h3 => by
    have sl := asc_in (h1 l List.mem_cons_self) (h2 l' List.mem_cons_self) (h3 0)
    obtain ⟨i1, i2⟩ := S0_sub (ls := ls) (ls' := ls') (Nat.succ.inj h) (fun x hx => h1 x (List.mem_cons_of_mem _ hx)) (fun x hx => h2 x (List.mem_cons_of_mem _ hx)) (fun i z hz => h3 (i + 1) z hz)
    have hl := sl.length_le
    have e1 : S0 (l :: ls) = l.length + S0 ls := rfl
    have e2 : S0 (l' :: ls') = l'.length + S0 ls' := rfl
    refine ⟨by omega, fun e => ?_⟩
    have e3 : l.length = l'.length := by omega
    rw [sl.eq_of_length e3, i2 (by omega)]
theorem S0_ne : ∀ {ls : Lots}, (∀ l ∈ ls, l ≠ []) → ls.length ≤ S0 ls
  | [], _ => Nat.le_refl _
  | l :: ls, h => by
    have h1 : 0 < l.length := List.length_pos_iff.mpr (h l List.mem_cons_self)
    have h2 := S0_ne (ls := ls) fun x hx => h x (List.mem_cons_of_mem _ hx)
    show ls.length + 1 ≤ l.length + S0 ls
    omega
theorem S0_first : ∀ {ts : List Int}, (∀ t ∈ ts, 0 ≤ t) → ((S0 (ts.map upto) : Nat) : Int) = ts.sum + (ts.length : Int)
  | [], _ => rfl
  | t :: ts, h => by
    have h1 := S0_first (ts := ts) fun x hx => h x (List.mem_cons_of_mem _ hx)
    have h0 := h t List.mem_cons_self
    have e1 : S0 ((t :: ts).map upto) = (upto t).length + S0 (ts.map upto) := rfl
    have e2 : (upto t).length = (t + 1).toNat := by
      unfold upto
      rw [List.length_map, List.length_range]
    rw [e1, e2, List.sum_cons, List.length_cons]
    omega
theorem it_step {net : Net} (S : okS net) (m : Nat) : S0 (itL net (m + 1)) ≤ S0 (itL net m) ∧ (S0 (itL net (m + 1)) = S0 (itL net m) → itL net (m + 1) = itL net m) := by
  have o1 := it_ok S (m + 1)
  have o0 := it_ok S m
  exact S0_sub (by rw [o1.len, o0.len]) o1.asc o0.asc (it_shrinks S m)
theorem it_S0 {net : Net} (S : okS net) : ∀ N, (∀ j, j < N → itL net (j + 1) ≠ itL net j) → S0 (itL net N) + N ≤ S0 (itL net 0)
  | 0, _ => Nat.le_refl _
  | N + 1, h => by
    have h1 := it_S0 S N fun j hj => h j (by omega)
    have h2 := it_step S N
    have h3 := h N (by omega)
    have h4 : S0 (itL net (N + 1)) ≠ S0 (itL net N) := fun e => h3 (h2.2 e)
    omega
theorem least_stop {P : Nat → Prop} : ∀ N, (∀ j, j < N → ¬ P j) ∨ ∃ m, m < N ∧ P m ∧ ∀ j, j < m → ¬ P j
  | 0 => .inl fun j h => absurd h (Nat.not_lt_zero _)
  | N + 1 => by
    rcases least_stop (P := P) N with h | ⟨m, h1, h2⟩
    · by_cases e : P N
      · exact .inr ⟨N, by omega, e, h⟩
      · refine .inl fun j hj => ?_
        rcases Nat.lt_or_eq_of_le (Nat.le_of_lt_succ hj) with z | z
        · exact h j z
        · rw [z]; exact e
    · exact .inr ⟨m, by omega, h2⟩
theorem stop_of {net : Net} (S : okS net) : ∃ m, Stop net m ∧ (m : Int) ≤ net.1.sum := by
  have ht : ∀ t ∈ net.1, 0 ≤ t := fun t h => (S.ok.tops t h).1
  have hF := S0_first ht
  have hF : ((S0 (itL net 0) : Nat) : Int) = net.1.sum + (net.1.length : Int) := hF
  rcases least_stop (P := fun j => itL net (j + 1) = itL net j) (S0 (itL net 0) + 1 - net.1.length) with h | ⟨m, h1, h2, h3⟩
  · have h1 := it_S0 S _ h
    have o := it_ok S (S0 (itL net 0) + 1 - net.1.length)
    have h2 := S0_ne o.ne
    rw [o.len] at h2
    omega
  · refine ⟨m, ⟨h2, h3⟩, ?_⟩
    omega
theorem sum_top : ∀ {ts : List Int} {b : Int}, (∀ t ∈ ts, t ≤ b) → ts.sum ≤ b * (ts.length : Int)
  | [], b, _ => by simp
  | t :: ts, b, h => by
    have h1 := sum_top (ts := ts) fun x hx => h x (List.mem_cons_of_mem _ hx)
    have h0 := h t List.mem_cons_self
    rw [List.sum_cons, List.length_cons]
    have : b * ((ts.length + 1 : Nat) : Int) = b * (ts.length : Int) + b := by
      rw [Int.natCast_add, Int.mul_add]
      simp
    omega
/-! ### sure -/
theorem getD_mem {ls : Lots} {i : Nat} (h : i < ls.length) : ls.getD i [] ∈ ls := by
  rw [List.getD_eq_getElem?_getD, List.getElem?_eq_getElem h]
  exact List.getElem_mem h
theorem sure_of {net : Net} (S : okS net) (m : Nat) : sure (itL net m) = !(knowns net m).contains none := by
  have o := it_ok S m
  have key : ∀ i, i < net.1.length → (((itL net m).getD i []).length = 1 ↔ knownAt net m i ≠ none) := fun i hi => by
    have hne : ∀ j, 1 ≤ ((itL net j).getD i []).length := fun j => by
      have oj := it_ok S j
      exact List.length_pos_iff.mpr (oj.ne _ (getD_mem (by rw [oj.len]; exact hi)))
    unfold knownAt
    constructor
    · intro h e
      have h2 : m ∈ (List.range (m + 1)).filter (oneAt net i) := List.mem_filter.mpr ⟨List.mem_range.mpr (by omega), decide_eq_true h⟩
      rw [Option.map_eq_none_iff, List.head?_eq_none_iff] at e
      rw [e] at h2
      exact nomatch h2
    · intro h
      cases e : (List.range (m + 1)).filter (oneAt net i) with
      | nil => rw [e] at h; exact absurd rfl h
      | cons j l =>
        have hj : j ∈ (List.range (m + 1)).filter (oneAt net i) := by rw [e]; exact List.mem_cons_self
        obtain ⟨h1, h2⟩ := List.mem_filter.mp hj
        have h1 := List.mem_range.mp h1
        have h2 := of_decide_eq_true h2
        have oj := it_ok S j
        have sl := (asc_in (o.asc _ (getD_mem (by rw [o.len]; exact hi))) (oj.asc _ (getD_mem (by rw [oj.len]; exact hi))) (it_down S (by omega) i)).length_le
        have := hne m
        omega
  have e1 : sure (itL net m) = true ↔ ∀ i, i < net.1.length → ((itL net m).getD i []).length = 1 := by
    unfold sure
    rw [List.all_eq_true]
    constructor
    · intro h i hi
      exact of_decide_eq_true (h _ (getD_mem (by rw [o.len]; exact hi)))
    · intro h l hl
      obtain ⟨i, hi, e⟩ := List.mem_iff_getElem.mp hl
      have := h i (by rw [← o.len]; exact hi)
      rw [List.getD_eq_getElem?_getD, List.getElem?_eq_getElem hi, e] at this
      exact decide_eq_true this
  have e2 : (!(knowns net m).contains none) = true ↔ ∀ i, i < net.1.length → knownAt net m i ≠ none := by
    rw [Bool.not_eq_true', ← Bool.not_eq_true, List.contains_iff_mem]
    unfold knowns
    rw [List.mem_map]
    constructor
    · intro h i hi e
      exact h ⟨i, List.mem_range.mpr hi, e⟩
    · rintro h ⟨i, hi, e⟩
      exact h i (List.mem_range.mp hi) e
  rw [Bool.eq_iff_iff, e1, e2]
  exact ⟨fun h i hi => (key i hi).mp (h i hi), fun h i hi => (key i hi).mpr (h i hi)⟩
end K24

set_option Elab.async false
set_option linter.all false
set_option maxRecDepth 100000
/-! K24W2: a rule told between its ends; the words of its branches. -/
namespace K24
open PySem PySem.Spec PyProof.Rows L2
/-- heard worths within their houses' tops -/
def Vh (net : Net) : List Nat → List Int → Prop
  | [], _ => True
  | b :: bs, z :: zs => (0 ≤ z ∧ z ≤ tp net b) ∧ Vh net bs zs
  | _ :: _, [] => False
theorem Vh.app {net : Net} : ∀ {as bs : List Nat} {h : List Int}, Vh net (as ++ bs) h → Vh net as h ∧ Vh net bs (h.drop as.length)
  | [], bs, h, v => ⟨trivial, v⟩
  | a :: as, bs, [], v => v.elim
  | a :: as, bs, z :: zs, v => by
    obtain ⟨h1, h2⟩ := Vh.app (as := as) (bs := bs) (h := zs) v.2
    exact ⟨⟨v.1, h1⟩, h2⟩
/-- one by one at most -/
def le2 : List Int → List Int → Prop
  | [], [] => True
  | a :: as, b :: bs => a ≤ b ∧ le2 as bs
  | _, _ => False
theorem le2.len : ∀ {as bs : List Int}, le2 as bs → as.length = bs.length
  | [], [], _ => rfl
  | a :: as, b :: bs, h => congrArg (· + 1) (le2.len h.2)
  | [], _ :: _, h => h.elim
  | _ :: _, [], h => h.elim
theorem le2.head {as bs : List Int} (h : le2 as bs) : as.headD 0 ≤ bs.headD 0 := by
  match as, bs, h with
  | [], [], _ => exact Int.le_refl _
  | a :: as, b :: bs, h => exact h.1
theorem lmin_2 : ∀ {as bs : List Int}, le2 as bs → lmin as ≤ lmin bs
  | [], [], _ => Int.le_refl _
  | [a], [b], h => h.1
  | [a], b :: b2 :: bs, h => h.2.elim
  | a :: a2 :: as, [b], h => h.2.elim
  | a :: a2 :: as, b :: b2 :: bs, h => by
    have ih := lmin_2 (as := a2 :: as) (bs := b2 :: bs) h.2
    have h1 := h.1
    show min a (lmin (a2 :: as)) ≤ min b (lmin (b2 :: bs))
    omega
  | [], _ :: _, h => h.elim
  | _ :: _, [], h => h.elim
theorem lmax_2 : ∀ {as bs : List Int}, le2 as bs → lmax as ≤ lmax bs
  | [], [], _ => Int.le_refl _
  | [a], [b], h => h.1
  | [a], b :: b2 :: bs, h => h.2.elim
  | a :: a2 :: as, [b], h => h.2.elim
  | a :: a2 :: as, b :: b2 :: bs, h => by
    have ih := lmax_2 (as := a2 :: as) (bs := b2 :: bs) h.2
    have h1 := h.1
    show max a (lmax (a2 :: as)) ≤ max b (lmax (b2 :: bs))
    omega
  | [], _ :: _, h => h.elim
  | _ :: _, [], h => h.elim
theorem sum_2 : ∀ {as bs : List Int}, le2 as bs → as.sum ≤ bs.sum
  | [], [], _ => Int.le_refl _
  | a :: as, b :: bs, h => by
    have ih := sum_2 h.2
    have h1 := h.1
    rw [List.sum_cons, List.sum_cons]
    omega
  | [], _ :: _, h => h.elim
  | _ :: _, [], h => h.elim
theorem mid_eq (a b c : Int) : (srt [a, b, c]).getD 1 0 = max (min a b) (min (max a b) c) := by
  simp only [srt, ins2]
  split
  · simp only [ins2]
    split
    · simp
      omega
    · split
      · simp
        omega
      · simp
        omega
  · simp only [ins2]
    split
    · simp
      omega
    · split
      · simp
        omega
      · simp
        omega
theorem mid_2 {as bs : List Int} (h : le2 as bs) (h3 : as.length = 3) : (srt as).getD 1 0 ≤ (srt bs).getD 1 0 := by
  obtain ⟨a, b, c, rfl⟩ := len3 h3
  obtain ⟨a', b', c', rfl⟩ := len3 (h.len ▸ h3)
  have h1 := h.1
  have h2 := h.2.1
  have h4 := h.2.2.1
  rw [mid_eq, mid_eq]
  omega
/-- what falls -/
def falls : Kd → Bool
  | .frm _ => true
  | .bar _ lo hi => decide (hi < lo)
  | _ => false
def isRow : Kd → Bool
  | .row _ => true
  | _ => false
theorem made_up {k : Kd} {as bs : List Int} (hr : isRow k = false) (hf : falls k = false) (ho : okK k as.length) (h : le2 as bs) : made k as ≤ made k bs := by
  have hh := h.head
  cases k with
  | least => exact lmin_2 h
  | most => exact lmax_2 h
  | middle => exact mid_2 h ho
  | add => exact sum_2 h
  | times m => exact Int.mul_le_mul_of_nonneg_left hh ho.2.1
  | part d => exact Int.ediv_le_ediv (by have := ho.2.1; omega) hh
  | clip lo hi =>
    show min (max (as.headD 0) lo) hi ≤ min (max (bs.headD 0) lo) hi
    omega
  | frm w => cases hf
  | bar k lo hi =>
    have h2 : ¬ hi < lo := of_decide_eq_false hf
    show (if k ≤ as.headD 0 then hi else lo) ≤ (if k ≤ bs.headD 0 then hi else lo)
    split <;> split <;> omega
  | row ws => cases hr
theorem made_down {k : Kd} {as bs : List Int} (hf : falls k = true) (h : le2 as bs) : made k bs ≤ made k as := by
  have hh := h.head
  cases k with
  | frm w =>
    show max 0 (w - bs.headD 0) ≤ max 0 (w - as.headD 0)
    omega
  | bar k lo hi =>
    have h2 : hi < lo := of_decide_eq_true hf
    show (if k ≤ bs.headD 0 then hi else lo) ≤ (if k ≤ as.headD 0 then hi else lo)
    split <;> split <;> omega
  | _ => cases hf
/-- a row's entry -/
def ixR (ws : List Int) (v : Int) : Nat := (min v ((ws.length : Int) - 1)).toNat
theorem ixR_in {ws : List Int} {lo hi v : Int} (hl : 1 ≤ ws.length) (h0 : 0 ≤ lo) (h1 : lo ≤ v) (h2 : v ≤ hi) : ixR ws v ∈ (List.range ws.length).filter (inE ws.length lo hi) := by
  unfold ixR
  refine List.mem_filter.mpr ⟨List.mem_range.mpr (by omega), ?_⟩
  unfold inE
  rw [Bool.or_eq_true, Bool.and_eq_true, Bool.and_eq_true, decide_eq_true_iff, decide_eq_true_iff, decide_eq_true_iff, decide_eq_true_iff]
  omega
theorem row_in {ws : List Int} {lo hi v : Int} (hl : 1 ≤ ws.length) (h0 : 0 ≤ lo) (h1 : lo ≤ v) (h2 : v ≤ hi) : ws.getD (ixR ws v) 0 ∈ entries ws lo hi := List.mem_map.mpr ⟨_, ixR_in hl h0 h1 h2, rfl⟩
theorem made_row {ws vs : List Int} : made (.row ws) vs = ws.getD (ixR ws (vs.headD 0)) 0 := rfl
/-! ### ranges -/
theorem tolds_le2 {net : Net} : ∀ {ps : List Rl} {h : List Int}, (∀ p ∈ List.zip (rangesR net ps) (tolds ps h), p.1.1 ≤ p.2 ∧ p.2 ≤ p.1.2) → le2 ((rangesR net ps).map (·.1)) (tolds ps h) ∧ le2 (tolds ps h) ((rangesR net ps).map (·.2))
  | [], h, _ => ⟨trivial, trivial⟩
  | p :: ps, h, k => by
    have h1 := k (rangeR net p, told p h) List.mem_cons_self
    obtain ⟨h2, h3⟩ := tolds_le2 (ps := ps) (h := h.drop (brs p).length) fun q hq => k q (List.mem_cons_of_mem _ hq)
    exact ⟨⟨h1.1, h2⟩, h1.2, h3⟩
mutual
theorem told_in {net : Net} {most : Int} (o : okN net most) : ∀ (r : Rl) (h : List Int), okR net.1.length r → Vh net (brs r) h → (rangeR net r).1 ≤ told r h ∧ told r h ≤ (rangeR net r).2
  | .is w, h, _, _ => ⟨Int.le_refl _, Int.le_refl _⟩
  | .hear j, [], _, v => v.elim
  | .hear j, z :: zs, _, v => v.1
  | .node k ps, h, ho, v => by
    have hin := tolds_le2 (tolds_in o ps h ho.2 v)
    have rl : (rangesR net ps).length = ps.length := by rw [rangesR_map, List.length_map]
    have hok := ranges_ok o ps ho.2
    show lmin (some2 k (rangesR net ps)) ≤ made k (tolds ps h) ∧ made k (tolds ps h) ≤ lmax (some2 k (rangesR net ps))
    cases hR : isRow k with
    | true =>
      cases k with
      | row ws =>
        obtain ⟨l1, l2, _⟩ := ho.1
        obtain ⟨p, rfl⟩ := len1 l1
        have hp : okP (rangeR net p) := hok _ List.mem_cons_self
        have m := row_in (ws := ws) l2 hp.1 hin.1.1 hin.2.1
        exact ⟨lmin_le m, lmax_ge m⟩
      | _ => cases hR
    | false =>
      have e : some2 k (rangesR net ps) = [made k ((rangesR net ps).map (·.1)), made k ((rangesR net ps).map (·.2))] := by
        cases k <;> first | rfl | (cases hR)
      rw [e]
      have ml : ∀ {x y : Int}, lmin [x, y] = min x y := rfl
      have mx : ∀ {x y : Int}, lmax [x, y] = max x y := rfl
      rw [ml, mx]
      cases hf : falls k with
      | true =>
        have h1 := made_down hf hin.1
        have h2 := made_down hf hin.2
        omega
      | false =>
        have h1 := made_up hR hf (by rw [List.length_map, rl]; exact ho.1) hin.1
        have h2 := made_up hR hf (by rw [tolds_len]; exact ho.1) hin.2
        omega
theorem tolds_in {net : Net} {most : Int} (o : okN net most) : ∀ (ps : List Rl) (h : List Int), okRs net.1.length ps → Vh net (brss ps) h → ∀ p ∈ List.zip (rangesR net ps) (tolds ps h), p.1.1 ≤ p.2 ∧ p.2 ≤ p.1.2
  | [], h, _, _ => fun p hp => nomatch hp
  | q :: ps, h, ho, v => fun p hp => by
    obtain ⟨v1, v2⟩ := Vh.app v
    rcases List.mem_cons.mp hp with e | e
    · rw [e]
      exact told_in o q h ho.1 v1
    · exact tolds_in o ps _ ho.2 v2 p e
end
/-! ### words -/
/-- two rows that go the words' way -/
def Ord : List Str → List Int → List Int → Prop
  | [], _, _ => True
  | w :: ws, a :: x, c :: y => (w = "none" ∨ (w = "rises" ∧ a ≤ c) ∨ (w = "falls" ∧ c ≤ a)) ∧ Ord ws x y
  | _ :: _, _, _ => False
theorem Ord.app : ∀ {us ws : List Str} {x y : List Int}, Ord (us ++ ws) x y → Ord us x y ∧ Ord ws (x.drop us.length) (y.drop us.length)
  | [], ws, x, y, h => ⟨trivial, h⟩
  | u :: us, ws, [], y, h => by cases y <;> exact h.elim
  | u :: us, ws, a :: x, [], h => h.elim
  | u :: us, ws, a :: x, c :: y, h => by
    obtain ⟨h1, h2⟩ := Ord.app (us := us) (ws := ws) (x := x) (y := y) h.2
    exact ⟨⟨h.1, h1⟩, h2⟩
/-- what a sign says of two told worths -/
def Way (s : Int) (x y : Int) : Prop := (0 < s → x ≤ y) ∧ (s < 0 → y ≤ x) ∧ (s = 0 → x = y)
def Ways (s : Int) (x y : List Int) : Prop := (0 < s → le2 x y) ∧ (s < 0 → le2 y x) ∧ (s = 0 → x = y)
theorem Way.eq {s x : Int} : Way s x x := ⟨fun _ => Int.le_refl _, fun _ => Int.le_refl _, fun _ => rfl⟩
theorem pw_mem {R : Nat → Nat → Prop} : ∀ {l : List Nat}, l.Pairwise R → ∀ a ∈ l, ∀ b ∈ l, a = b ∨ R a b ∨ R b a
  | x :: l, h, a, ha, b, hb => by
    obtain ⟨h1, h2⟩ := List.pairwise_cons.mp h
    rcases List.mem_cons.mp ha with ea | ea
    · rcases List.mem_cons.mp hb with eb | eb
      · exact .inl (ea.trans eb.symm)
      · exact .inr (.inl (ea ▸ h1 b eb))
    · rcases List.mem_cons.mp hb with eb | eb
      · exact .inr (.inr (eb ▸ h1 a ea))
      · exact pw_mem h2 a ea b eb
theorem chain_pw {R : Int → Int → Prop} (tr : ∀ a b c, R a b → R b c → R a c) : ∀ {l : List Int}, (∀ k, k + 1 < l.length → R (l.getD k 0) (l.getD (k + 1) 0)) → l.Pairwise R
  | [], _ => List.Pairwise.nil
  | [a], _ => List.pairwise_singleton _ _
  | a :: b :: l, h => by
    have ih := chain_pw tr (l := b :: l) fun k hk => h (k + 1) (Nat.succ_lt_succ hk)
    have h0 : R a b := h 0 (by simp)
    refine List.pairwise_cons.mpr ⟨fun z hz => ?_, ih⟩
    rcases List.mem_cons.mp hz with e | e
    · rw [e]; exact h0
    · exact tr a b z h0 ((List.pairwise_cons.mp ih).1 z e)
theorem steps_no {l : List Int} {c : Int → Bool} (h : (steps l).any c = false) {k : Nat} (hk : k + 1 < l.length) : c (l.getD (k + 1) 0 - l.getD k 0) = false := by
  rw [List.any_eq_false] at h
  have := h (l.getD (k + 1) 0 - l.getD k 0) (List.mem_map.mpr ⟨k, List.mem_range.mpr (by omega), rfl⟩)
  cases e : c (l.getD (k + 1) 0 - l.getD k 0) with
  | false => rfl
  | true => exact absurd e this
theorem row_way {ws : List Int} {lo hi : Int} {R : Int → Int → Prop} (rf : ∀ a, R a a) (hE : (entries ws lo hi).Pairwise R) {i j : Nat} (hi2 : i ∈ (List.range ws.length).filter (inE ws.length lo hi)) (hj : j ∈ (List.range ws.length).filter (inE ws.length lo hi)) (h : i ≤ j) : R (ws.getD i 0) (ws.getD j 0) := by
  unfold entries at hE
  rw [List.pairwise_map] at hE
  have hF : ((List.range ws.length).filter (inE ws.length lo hi)).Pairwise (· < ·) := List.Pairwise.filter _ List.pairwise_lt_range
  have hB := List.Pairwise.and hE hF
  rcases pw_mem hB i hi2 j hj with e | e | e
  · rw [e]; exact rf _
  · exact e.1
  · have := e.2
    omega
theorem turnRow_way {ws : List Int} {lo hi v u s : Int} (hl : 1 ≤ ws.length) (h0 : 0 ≤ lo) (v1 : lo ≤ v) (v2 : v ≤ hi) (u1 : lo ≤ u) (u2 : u ≤ hi) (h : Way (s * turnRow (entries ws lo hi)) v u) : Way s (ws.getD (ixR ws v) 0) (ws.getD (ixR ws u) 0) := by
  have mono : ∀ {a b : Int}, a ≤ b → ixR ws a ≤ ixR ws b := fun {a b} h => by
    unfold ixR
    omega
  have iv := ixR_in hl h0 v1 v2
  have iu := ixR_in hl h0 u1 u2
  by_cases hd : (steps (entries ws lo hi)).any (fun z => decide (z < 0)) = true
  · by_cases hu : (steps (entries ws lo hi)).any (fun z => decide (0 < z)) = true
    · have e : turnRow (entries ws lo hi) = 0 := by
        unfold turnRow
        rw [hd, hu]
        rfl
      rw [e, Int.mul_zero] at h
      rw [h.2.2 rfl]
      exact Way.eq
    · have hu := Bool.eq_false_iff.mpr hu
      have e : turnRow (entries ws lo hi) = -1 := by
        unfold turnRow
        rw [hd, hu]
        rfl
      have pw : (entries ws lo hi).Pairwise (fun a b => b ≤ a) := chain_pw (R := fun a b => b ≤ a) (fun a b c h1 h2 => Int.le_trans h2 h1) fun k hk => by
        have := of_decide_eq_false (steps_no hu hk)
        omega
      have way : ∀ {i j : Nat}, i ∈ (List.range ws.length).filter (inE ws.length lo hi) → j ∈ (List.range ws.length).filter (inE ws.length lo hi) → i ≤ j → ws.getD j 0 ≤ ws.getD i 0 := fun a b c => row_way (R := fun a b => b ≤ a) (fun a => Int.le_refl a) pw a b c
      rw [e] at h
      refine ⟨fun hs => way iu iv (mono (h.2.1 (by omega))), fun hs => way iv iu (mono (h.1 (by omega))), fun hs => ?_⟩
      rw [h.2.2 (by omega)]
  · have hd := Bool.eq_false_iff.mpr hd
    have e : turnRow (entries ws lo hi) = 1 := by
      unfold turnRow
      rw [hd, Bool.and_false]
      rfl
    have pw : (entries ws lo hi).Pairwise (fun a b => a ≤ b) := chain_pw (R := fun a b => a ≤ b) (fun a b c h1 h2 => Int.le_trans h1 h2) fun k hk => by
      have := of_decide_eq_false (steps_no hd hk)
      omega
    have way : ∀ {i j : Nat}, i ∈ (List.range ws.length).filter (inE ws.length lo hi) → j ∈ (List.range ws.length).filter (inE ws.length lo hi) → i ≤ j → ws.getD i 0 ≤ ws.getD j 0 := fun a b c => row_way (R := fun a b => a ≤ b) (fun a => Int.le_refl a) pw a b c
    rw [e, Int.mul_one] at h
    refine ⟨fun hs => way iv iu (mono (h.1 hs)), fun hs => way iu iv (mono (h.2.1 hs)), fun hs => ?_⟩
    rw [h.2.2 hs]
mutual
theorem told_way {net : Net} {most : Int} (o : okN net most) : ∀ (r : Rl) (b : Bool) (s : Int) (x y : List Int), okR net.1.length r → ("both" : Str) ∉ words net r b s → Vh net (brs r) x → Vh net (brs r) y → Ord (words net r b s) x y → b = false → Way s (told r x) (told r y)
  | .is w, b, s, x, y, _, _, _, _, _, _ => Way.eq
  | .hear j, b, s, [], y, _, _, vx, _, _, _ => vx.elim
  | .hear j, b, s, a :: x, [], _, _, _, vy, _, _ => vy.elim
  | .hear j, b, s, a :: x, c :: y, ho, nb, vx, vy, hord, hb => by
    subst hb
    have h1 := vx.1
    have h2 := vy.1
    have hw : words net (.hear j) false s = ([if false || decide ((0 : Int) = tp net j) then "none" else if s = 0 then "both" else if s < 0 then "falls" else "rises"] : List Str) := rfl
    rw [hw] at nb hord
    show Way s a c
    by_cases e : (0 : Int) = tp net j
    · have : a = c := by omega
      rw [this]
      exact Way.eq
    · rw [decide_eq_false e] at nb hord
      simp only [Bool.or_self, Bool.false_eq_true, if_false] at nb hord
      by_cases hs : s = 0
      · rw [if_pos hs] at nb
        exact absurd List.mem_cons_self nb
      · rw [if_neg hs] at hord
        by_cases h3 : s < 0
        · rw [if_pos h3] at hord
          have h4 : c ≤ a := by
            rcases hord.1 with z | ⟨z, _⟩ | ⟨_, z⟩
            · exact absurd z (by decide)
            · exact absurd z (by decide)
            · exact z
          exact ⟨fun z => by omega, fun _ => h4, fun z => absurd z hs⟩
        · rw [if_neg h3] at hord
          have h4 : a ≤ c := by
            rcases hord.1 with z | ⟨_, z⟩ | ⟨z, _⟩
            · exact absurd z (by decide)
            · exact z
            · exact absurd z (by decide)
          exact ⟨fun _ => h4, fun z => absurd z h3, fun z => absurd z hs⟩
  | .node k ps, b, s, x, y, ho, nb, vx, vy, hord, hb => by
    subst hb
    have rx := told_in o (.node k ps) x ho vx
    have ry := told_in o (.node k ps) y ho vy
    by_cases e : (rangeR net (.node k ps)).1 = (rangeR net (.node k ps)).2
    · have : told (.node k ps) x = told (.node k ps) y := by omega
      rw [this]
      exact Way.eq
    · have hw : words net (.node k ps) false s = wordss net ps (false || decide ((rangeR net (.node k ps)).1 = (rangeR net (.node k ps)).2)) (s * turn net k ps) := rfl
      rw [hw, decide_eq_false e] at nb hord
      have hch := tolds_way o ps false (s * turn net k ps) x y ho.2 nb vx vy hord rfl
      show Way s (made k (tolds ps x)) (made k (tolds ps y))
      cases hR : isRow k with
      | true =>
        cases k with
        | row ws =>
          obtain ⟨l1, l2, _⟩ := ho.1
          obtain ⟨p, rfl⟩ := len1 l1
          have hp : okP (rangeR net p) := ranges_ok o [p] ho.2 _ List.mem_cons_self
          have tx := (tolds_le2 (tolds_in o [p] x ho.2 vx))
          have ty := (tolds_le2 (tolds_in o [p] y ho.2 vy))
          exact turnRow_way l2 hp.1 tx.1.1 tx.2.1 ty.1.1 ty.2.1 ⟨fun z => (hch.1 z).1, fun z => (hch.2.1 z).1, fun z => (List.cons.inj (hch.2.2 z)).1⟩
        | _ => cases hR
      | false =>
        have okx : okK k (tolds ps x).length := by rw [tolds_len]; exact ho.1
        have oky : okK k (tolds ps y).length := by rw [tolds_len]; exact ho.1
        cases hf : falls k with
        | true =>
          have et : turn net k ps = -1 := by
            cases k with
            | frm w => rfl
            | bar k lo hi => exact if_pos (of_decide_eq_true hf)
            | _ => cases hf
          rw [et] at hch
          refine ⟨fun hs => made_down hf (hch.2.1 (by omega)), fun hs => made_down hf (hch.1 (by omega)), fun hs => ?_⟩
          rw [hch.2.2 (by omega)]
        | false =>
          have et : turn net k ps = 1 := by
            cases k with
            | frm w => cases hf
            | bar k lo hi => exact if_neg (of_decide_eq_false hf)
            | row ws => cases hR
            | _ => rfl
          rw [et, Int.mul_one] at hch
          refine ⟨fun hs => made_up hR hf okx (hch.1 hs), fun hs => made_up hR hf oky (hch.2.1 hs), fun hs => ?_⟩
          rw [hch.2.2 hs]
theorem tolds_way {net : Net} {most : Int} (o : okN net most) : ∀ (ps : List Rl) (b : Bool) (s : Int) (x y : List Int), okRs net.1.length ps → ("both" : Str) ∉ wordss net ps b s → Vh net (brss ps) x → Vh net (brss ps) y → Ord (wordss net ps b s) x y → b = false → Ways s (tolds ps x) (tolds ps y)
  | [], b, s, x, y, _, _, _, _, _, _ => ⟨fun _ => trivial, fun _ => trivial, fun _ => rfl⟩
  | p :: ps, b, s, x, y, ho, nb, vx, vy, hord, hb => by
    obtain ⟨x1, x2⟩ := Vh.app vx
    obtain ⟨y1, y2⟩ := Vh.app vy
    obtain ⟨o1, o2⟩ := Ord.app (us := words net p b s) (ws := wordss net ps b s) hord
    rw [words_len] at o2
    have n1 : ("both" : Str) ∉ words net p b s := fun z => nb (List.mem_append_left _ z)
    have n2 : ("both" : Str) ∉ wordss net ps b s := fun z => nb (List.mem_append_right _ z)
    have h1 := told_way o p b s x y ho.1 n1 x1 y1 o1 hb
    have h2 := tolds_way o ps b s _ _ ho.2 n2 x2 y2 o2 hb
    refine ⟨fun z => ⟨h1.1 z, h2.1 z⟩, fun z => ⟨h1.2.1 z, h2.2.1 z⟩, fun z => ?_⟩
    show told p x :: tolds ps _ = told p y :: tolds ps _
    rw [h1.2.2 z, h2.2.2 z]
end
end K24

set_option Elab.async false
set_option linter.all false
set_option maxRecDepth 100000
/-! K24W3: one way: a lot's ends come from the ends of the lots heard; the plain law. -/
namespace K24
open PySem PySem.Spec PyProof.Rows L2
def Word (w : Str) : Prop := w = "none" ∨ w = "both" ∨ w = "falls" ∨ w = "rises"
mutual
theorem words_in (net : Net) : ∀ (r : Rl) (b : Bool) (s : Int), ∀ w ∈ words net r b s, Word w
  | .is _, _, _ => fun w h => nomatch h
  | .hear j, b, s => fun w h => by
    have e := List.mem_singleton.mp h
    rw [e]
    split
    · exact .inl rfl
    · split
      · exact .inr (.inl rfl)
      · split
        · exact .inr (.inr (.inl rfl))
        · exact .inr (.inr (.inr rfl))
  | .node k ps, b, s => wordss_in net ps _ _
theorem wordss_in (net : Net) : ∀ (ps : List Rl) (b : Bool) (s : Int), ∀ w ∈ wordss net ps b s, Word w
  | [], _, _ => fun w h => nomatch h
  | p :: ps, b, s => fun w h => by
    rcases List.mem_append.mp h with h | h
    · exact words_in net p b s w h
    · exact wordss_in net ps b s w h
end
theorem asc_head {l : List Int} (h : l.Pairwise (· < ·)) {z : Int} (hz : z ∈ l) : l.headD 0 ≤ z := by
  cases l with
  | nil => exact nomatch hz
  | cons a l =>
    rcases List.mem_cons.mp hz with e | e
    · rw [e]; exact Int.le_refl _
    · have := (List.pairwise_cons.mp h).1 z e
      show a ≤ z
      omega
theorem asc_last {l : List Int} (h : l.Pairwise (· < ·)) {z : Int} (hz : z ∈ l) : z ≤ l.getLastD 0 := by
  rcases List.eq_nil_or_concat l with e | ⟨m, a, e⟩
  · subst e
    exact nomatch hz
  · subst e
    rw [List.concat_eq_append] at h hz ⊢
    have el : (m ++ [a]).getLastD 0 = a := by simp
    rw [el]
    rcases List.mem_append.mp hz with e | e
    · have := (List.pairwise_append.mp h).2.2 z e a List.mem_cons_self
      omega
    · rw [List.mem_singleton.mp e]; exact Int.le_refl _
theorem head_in {l : List Int} (h : l ≠ []) : l.headD 0 ∈ l := by
  cases l with
  | nil => exact absurd rfl h
  | cons a l => exact List.mem_cons_self
theorem last_in {l : List Int} (h : l ≠ []) : l.getLastD 0 ∈ l := by
  rcases List.eq_nil_or_concat l with e | ⟨m, a, e⟩
  · exact absurd e h
  · subst e
    rw [List.concat_eq_append]
    have el : (m ++ [a]).getLastD 0 = a := by simp
    rw [el]
    exact List.mem_append_right _ List.mem_cons_self
theorem heads_get (ls : Lots) (b : Nat) : (heads ls).getD b 0 = (ls.getD b []).headD 0 := by
  unfold heads
  rw [List.getD_eq_getElem?_getD, List.getElem?_map, List.getD_eq_getElem?_getD]
  cases ls[b]? <;> rfl
theorem lasts_get (ls : Lots) (b : Nat) : (lasts ls).getD b 0 = (ls.getD b []).getLastD 0 := by
  unfold lasts
  rw [List.getD_eq_getElem?_getD, List.getElem?_map, List.getD_eq_getElem?_getD]
  cases ls[b]? <;> rfl
section
variable {net : Net} {ls : Lots}
theorem okL_asc (o : okL net ls) {b : Nat} (h : b < ls.length) : (ls.getD b []).Pairwise (· < ·) := o.asc _ (getD_mem h)
theorem okL_ne (o : okL net ls) {b : Nat} (h : b < ls.length) : ls.getD b [] ≠ [] := o.ne _ (getD_mem h)
theorem Br.vh (o : okL net ls) : ∀ {bs : List Nat} {row : List Int}, (∀ b ∈ bs, b < ls.length) → Br ls bs row → Vh net bs row
  | [], _, _, _ => trivial
  | b :: bs, [], _, h => h.elim
  | b :: bs, z :: zs, hb, h => ⟨o.nn b (hb b List.mem_cons_self) z h.1, Br.vh o (fun x hx => hb x (List.mem_cons_of_mem _ hx)) h.2⟩
/-- the ends' rows are brought -/
theorem pick_lo (o : okL net ls) : ∀ {ws : List Str} {bs : List Nat}, ws.length = bs.length → (∀ b ∈ bs, b < ls.length) → Br ls bs (pick (heads ls) (lasts ls) ws bs)
  | [], [], _, _ => trivial
  | w :: ws, b :: bs, hl, hb => by
    refine ⟨?_, pick_lo o (ws := ws) (bs := bs) (Nat.succ.inj hl) fun x hx => hb x (List.mem_cons_of_mem _ hx)⟩
    have hn := okL_ne o (hb b List.mem_cons_self)
    split
    · rw [lasts_get]; exact last_in hn
    · rw [heads_get]; exact head_in hn
  | [], _ :: _, h, _ => nomatch h
  | _ :: _, [], h, _ => nomatch h
theorem pick_hi (o : okL net ls) : ∀ {ws : List Str} {bs : List Nat}, ws.length = bs.length → (∀ b ∈ bs, b < ls.length) → Br ls bs (pick (lasts ls) (heads ls) ws bs)
  | [], [], _, _ => trivial
  | w :: ws, b :: bs, hl, hb => by
    refine ⟨?_, pick_hi o (ws := ws) (bs := bs) (Nat.succ.inj hl) fun x hx => hb x (List.mem_cons_of_mem _ hx)⟩
    have hn := okL_ne o (hb b List.mem_cons_self)
    split
    · rw [heads_get]; exact head_in hn
    · rw [lasts_get]; exact last_in hn
  | [], _ :: _, h, _ => nomatch h
  | _ :: _, [], h, _ => nomatch h
theorem ord_lo (o : okL net ls) : ∀ {ws : List Str} {bs : List Nat} {row : List Int}, ws.length = bs.length → (∀ w ∈ ws, Word w ∧ w ≠ "both") → (∀ b ∈ bs, b < ls.length) → Br ls bs row → Ord ws (pick (heads ls) (lasts ls) ws bs) row ∧ Ord ws row (pick (lasts ls) (heads ls) ws bs)
  | [], _, _, _, _, _, _ => ⟨trivial, trivial⟩
  | w :: ws, [], _, hl, _, _, _ => nomatch hl
  | w :: ws, b :: bs, [], _, _, _, h => h.elim
  | w :: ws, b :: bs, z :: zs, hl, hw, hb, h => by
    obtain ⟨i1, i2⟩ := ord_lo o (ws := ws) (bs := bs) (row := zs) (Nat.succ.inj hl) (fun x hx => hw x (List.mem_cons_of_mem _ hx)) (fun x hx => hb x (List.mem_cons_of_mem _ hx)) h.2
    have hb0 := hb b List.mem_cons_self
    have l1 := asc_head (okL_asc o hb0) h.1
    have l2 := asc_last (okL_asc o hb0) h.1
    obtain ⟨hW, hn⟩ := hw w List.mem_cons_self
    rcases hW with e | e | e | e
    · exact ⟨⟨.inl e, i1⟩, .inl e, i2⟩
    · exact absurd e hn
    · refine ⟨⟨.inr (.inr ⟨e, ?_⟩), i1⟩, .inr (.inr ⟨e, ?_⟩), i2⟩
      · rw [if_pos e, lasts_get]; exact l2
      · rw [if_pos e, heads_get]; exact l1
    · have ne : ¬ w = "falls" := fun z => by rw [e] at z; exact absurd z (by decide)
      refine ⟨⟨.inr (.inl ⟨e, ?_⟩), i1⟩, .inr (.inl ⟨e, ?_⟩), i2⟩
      · rw [if_neg ne, heads_get]; exact l1
      · rw [if_neg ne, lasts_get]; exact l2
/-- want goes the words' way -/
theorem want_way (S : okS net) {i : Nat} (hi : i < net.1.length) (nb : ("both" : Str) ∉ ways net i) {x y : List Int} (vx : Vh net (brs (rl net i)) x) (vy : Vh net (brs (rl net i)) y) (h : Ord (ways net i) x y) : want net i x ≤ want net i y := by
  have ho := (okN_rl S.ok (i := i) (by rw [S.ok.len]; exact hi)).1
  have rx := told_in S.ok (rl net i) x ho vx
  have ry := told_in S.ok (rl net i) y ho vy
  unfold want
  cases hs : still0 net i with
  | true =>
    have := of_decide_eq_true hs
    omega
  | false =>
    unfold ways at nb h
    rw [hs] at nb h
    have := (told_way S.ok (rl net i) false 1 x y ho nb vx vy h rfl).1 (by decide)
    omega
theorem ends_next (S : okS net) (o : okL net ls) {i : Nat} (hi : i < net.1.length) (nb : ("both" : Str) ∉ ways net i) :
    want net i (pick (heads ls) (lasts ls) (ways net i) (brs (rl net i))) = ((nextL net ls).getD i []).headD 0 ∧ want net i (pick (lasts ls) (heads ls) (ways net i) (brs (rl net i))) = ((nextL net ls).getD i []).getLastD 0 := by
  have hl : (ways net i).length = (brs (rl net i)).length := words_len net _ _ _
  have hb : ∀ b ∈ brs (rl net i), b < ls.length := fun b h => by rw [o.len]; exact okS_brs S hi b h
  have hw : ∀ w ∈ ways net i, Word w ∧ w ≠ "both" := fun w h => ⟨words_in net _ _ _ w h, fun e => nb (e ▸ h)⟩
  have b1 := pick_lo o hl hb
  have b2 := pick_hi o hl hb
  have on := next_ok (ls := ls) S o
  have hn := okL_ne on (b := i) (by rw [on.len]; exact hi)
  have ha := okL_asc on (b := i) (by rw [on.len]; exact hi)
  have m1 := (mem_next (ls := ls) S hi).mpr ⟨_, b1, rfl⟩
  have m2 := (mem_next (ls := ls) S hi).mpr ⟨_, b2, rfl⟩
  constructor
  · refine Int.le_antisymm ?_ (asc_head ha m1)
    obtain ⟨row, hr, e⟩ := (mem_next (ls := ls) S hi).mp (head_in hn)
    rw [e]
    exact want_way S hi nb (b1.vh o hb) (hr.vh o hb) (ord_lo o hl hw hb hr).1
  · refine Int.le_antisymm (asc_last ha m2) ?_
    obtain ⟨row, hr, e⟩ := (mem_next (ls := ls) S hi).mp (last_in hn)
    rw [e]
    exact want_way S hi nb (hr.vh o hb) (b2.vh o hb) (ord_lo o hl hw hb hr).2
theorem by_range {α : Type} (d : α) {l : List α} {n : Nat} (h : l.length = n) : l = (List.range n).map fun i => l.getD i d := List.ext_getElem? fun i => by
  rw [List.getElem?_map]
  by_cases hi : i < n
  · rw [List.getElem?_range hi, List.getElem?_eq_getElem (by omega)]
    show _ = some (l.getD i d)
    rw [List.getD_eq_getElem?_getD, List.getElem?_eq_getElem (by omega)]
    rfl
  · rw [List.getElem?_eq_none (by omega), List.getElem?_eq_none (by rw [List.length_range]; omega)]
    rfl
theorem one_of (S : okS net) (o : okL net ls) (h : oneWay net = true) : dbl net (heads ls) (lasts ls) = heads (nextL net ls) ∧ dbl net (lasts ls) (heads ls) = lasts (nextL net ls) := by
  have nb : ∀ i, i < net.1.length → ("both" : Str) ∉ ways net i := fun i hi => by
    unfold oneWay at h
    rw [List.all_eq_true] at h
    have := h i (List.mem_range.mpr hi)
    intro z
    rw [decide_eq_true z] at this
    cases this
  have e1 := by_range (0 : Int) (l := heads (nextL net ls)) (n := net.1.length) (by rw [heads_len, next_len S])
  have e2 := by_range (0 : Int) (l := lasts (nextL net ls)) (n := net.1.length) (by rw [lasts_len, next_len S])
  rw [e1, e2]
  unfold dbl
  constructor
  · refine List.map_congr_left fun i hi => ?_
    have hi := List.mem_range.mp hi
    rw [heads_get]
    exact (ends_next S o hi (nb i hi)).1
  · refine List.map_congr_left fun i hi => ?_
    have hi := List.mem_range.mp hi
    rw [lasts_get]
    exact (ends_next S o hi (nb i hi)).2
end
theorem fine_of (net : Net) (h : Small net) : ∃ m, Fine net m := by
  have S := h.t.s
  obtain ⟨m, st, sm⟩ := stop_of S
  have hs := sum_top (ts := net.1) (b := 3) fun t ht => (h.tops t ht).2
  have h3 := h.few
  exact ⟨m, h.t, st, sm, by omega, sure_of S m, fun e j => one_of S (it_ok S j) e⟩
end K24

set_option Elab.async false
set_option linter.all false
set_option maxRecDepth 100000
/-! K24J: the law's fact, its end. -/
namespace K24
open PySem PySem.Spec PyProof.Rows L2
def spL (K : PySem.W.Frag) : Sp := fun vs H Q _ => ∃ (a : Addr) (ns : List Int), vs = [.ref a] ∧ SqL K H a (ns.map V.int) ∧ ∀ H', Q (.bl true) H'
theorem c_law {P : Program} {w : World} {K : PySem.W.Frag} {mg : Str → Option Value} {base : Heap} {C fI cc cda : Addr} {fdI : FuncData} (X : Tx P K mg C fI cc cda fdI) {f : Addr} {fd : FuncData}
    (D : FunD K "law" "law" (defArgs s_law) (defBody s_law) (defScope s_law) [] [] f fd) : FnG P w K mg base 18 f fd p_law (spL K) := by
  refine fnG_of (N := n_law) (k := 17) D sc_law (fun vs H Q E ⟨a, ns, e, _⟩ => by rw [e]; rfl) fun cdv A outer s H vs Q E hg hr h => ⟨tLaw K w C, (pd_law X.T ((c_law_draw X).mono (by decide)) ((c_law_small_net X).mono (by decide)) ((c_law_lots_next X).mono (by decide)) ((c_law_refused X).mono (by decide)) (c_law_right X) ((c_law_any X).mono (by decide)) ((c_lots_next X).mono (by decide)) ((k_lots_next X).mono (by decide)) hr hg).nox, ?_⟩
  obtain ⟨a, ns, rfl, hs, hq⟩ := h
  exact r_law fine_of hs hq
/-- the heap at the law's start: the script alone may be tracked -/
theorem heap_at {P : Program} {w : World} {K : PySem.W.Frag} {s₁ : Shared} {a : Addr} {vs : List Value} {ns : List Int} (KX : K.In s₁.heap) (ha : s₁.heap.get? a = some { cls := .type "list", data := .seq vs.toArray }) (hi : IntsAre vs ns) (hl : ns.length ≤ sizeLine) :
    ∃ H : Hp, SqL K H a (ns.map V.int) ∧ HOk P w H s₁.heap ∧ (∀ b, H b ≠ none → b = a ∧ K.lookup a = none ∧ ∃ o xs, H b = some (.frz o (.lst xs))) := by
  have rv := L2.vals_ints hi
  have hlen := hi.length
  cases hk : K.lookup a with
  | some o =>
    have e := (KX a o hk).symm.trans ha
    cases e
    exact ⟨fun _ => none, .inr ⟨_, _, _, hk, rfl, rfl, rfl, by rw [List.size_toArray, hlen]; exact hl, by simpa using rv⟩, (fun b u z => by have z2 : (none : Option HO) = some u := z; cases z2), fun b z => absurd rfl z⟩
  | none =>
    have at_a : ∀ {b : Addr} {u : HO}, (if b = a then some (HO.frz { cls := .type "list", data := .seq vs.toArray } (.lst (ns.map V.int))) else none) = some u → b = a ∧ u = .frz { cls := .type "list", data := .seq vs.toArray } (.lst (ns.map V.int)) := fun {b u} z => by
      by_cases hb : b = a
      · rw [if_pos hb] at z
        exact ⟨hb, (Option.some.inj z).symm⟩
      · rw [if_neg hb] at z
        cases z
    refine ⟨fun b => if b = a then some (.frz { cls := .type "list", data := .seq vs.toArray } (.lst (ns.map V.int))) else none, .inl (.inr ⟨_, if_pos rfl⟩), fun b u z => ?_, fun b z => ?_⟩
    · obtain ⟨rfl, rfl⟩ := at_a z
      exact ⟨ha, by rw [List.length_map]; exact hl, vs, _, rv, ha⟩
    · cases q : (if b = a then some (HO.frz { cls := .type "list", data := .seq vs.toArray } (.lst (ns.map V.int))) else none) with
      | none => exact absurd q z
      | some u =>
        obtain ⟨h1, h2⟩ := at_a q
        exact ⟨h1, rfl, { cls := .type "list", data := .seq vs.toArray }, ns.map V.int, q.trans (congrArg some h2)⟩
theorem law_end {P : Program} {w : World} {K : PySem.W.Frag} {mg mb : Str → Option Value} {k : Nat} {fa a : Addr} {fd : FuncData} {x : Str} {sp : Sp} {s₁ : Shared} {vs : List Value} {ns : List Int} (KX : K.In s₁.heap) (hns : s₁.heap.Ns mainGlobals mg) (hb : s₁.heap.Ns builtinsNs mb)
    (hbb : ∀ x : Str, x ≠ "__name__" → mb x = bootBuiltins x) (hlim : s₁.heap.NoLimit) (hg : s₁.gens = #[]) (ha : s₁.heap.get? a = some { cls := .type "list", data := .seq vs.toArray }) (hi : IntsAre vs ns) (hl : ns.length ≤ sizeLine) (hr : Room k callerA)
    (F : ∀ base : Heap, K.In base → base.Ns mainGlobals mg → FnG P w K mg base k fa fd [x] sp) (hbind : ∀ (s : Shared) (u : Value), BindsTo s fd ⟨[u], []⟩ [(x, u)]) (hsp : ∀ H : Hp, SqL K H a (ns.map V.int) → sp [.ref a] H (fun v _ => v = .bl true) fun _ _ _ => False) :
    codeAny (model P w) callerA (.call (.ref fa) ⟨[.ref a], []⟩) (fun r s' => r = .ok (.ret (.bool true)) ∧ OldK s₁.heap s'.heap ∧ s'.os = s₁.os ∧ AllBare s'.gens) s₁ := by
  obtain ⟨H, hS, hok, hA⟩ := heap_at (P := P) (w := w) KX ha hi hl
  have dictN : ∀ {b : Addr} {o : Obj} {es : Array DictEntry} {ep : Nat}, s₁.heap.get? b = some o → o.data = .dict es ep → H b = none := fun {b o es ep} e d => Classical.byContradiction fun q => by
    obtain ⟨rfl, _⟩ := hA b q
    rw [ha] at e
    cases e
    exact nomatch (show Data.seq vs.toArray _ = Data.dict es ep from d)
  have nsN : ∀ {b : Addr} {m : Str → Option Value}, s₁.heap.Ns b m → (hidT s₁.heap H).Ns b m := fun ⟨o, es, ep, e, d, r⟩ => ⟨o, es, ep, hidT_get e (dictN e d), d, r⟩
  have hKb : K.In (hidT s₁.heap H) := fun b o e => hidT_get (KX b o e) (Classical.byContradiction fun q => by
    obtain ⟨rfl, hk, _⟩ := hA b q
    rw [hk] at e
    cases e)
  have hM : Mod K mg (hidT s₁.heap H) := by
    obtain ⟨mc, h1, h2⟩ := hlim
    exact ⟨hKb, nsN hns, ⟨mb, nsN hb, hbb⟩, ⟨mc, nsN h1, h2⟩⟩
  have e0 : Env0 P w K mg (hidT s₁.heap H) callerA [] s₁ H := ⟨rfl, hM, fun b o => of_hidT, Nat.le_of_eq (hidT_size _ _), trivial, (fun b hb => nomatch hb), hok, .of_eq hg⟩
  have run := (F _ hKb (nsN hns)).run callerA [] s₁ H ⟨[.ref a], []⟩ [.ref a] [.ref a] (fun v _ => v = .bl true) (fun _ _ _ => False) rfl hr e0 (hbind s₁ (.ref a)) (.cons rfl .nil) (hsp H hS)
  refine codeAny_mono run fun r s' h => ?_
  cases r with
  | error e => exact False.elim (show False from h)
  | ok fl =>
    cases fl with
    | ret u =>
      obtain ⟨v, H', os, bare, un, hok', r', q⟩ := h
      obtain rfl : v = .bl true := q
      obtain rfl : u = Value.bool true := r'
      refine ⟨rfl, OldK.of_keep fun b o e => Classical.byCases (fun q : H b = none => un.keep b o e q (fun z => nomatch z) (by simp)) fun q => ?_, os, bare⟩
      obtain ⟨_, _, ob, xs, z⟩ := hA b q
      have e1 := (hok b _ z).1
      have e2 := (hok' b _ (un.frzs b ob _ z)).1
      rw [e] at e1
      cases e1
      exact e2
    | _ => exact False.elim h
end K24

set_option Elab.async false
set_option linter.all false
set_option maxRecDepth 100000
set_option maxHeartbeats 0
open PySem PySem.W PySem.Calls PyProof.Rows
theorem PySem.Challenge.cw_newsbehind_k24_whole_lots_round_by_round_holds : PySem.Challenge.rw_newsbehind_k24_whole_lots_round_by_round.Holds := by
  w_on; o_law
  refine HandSHeadRun.head_any (r := K24.R) (q := view K24.R.prog [55]) (H := K24.hookR) (ob := K24.ob) (M := 20000) (loose := K24.loose) (d := HandSHeadRun.topDef K24.R.prog 55) (kwd := []) K24.ob_eq
    (by kernel_rfl) (fun s => by kernel_rfl) K24.run (by kernel_rfl) (by kernel_rfl) (by kernel_rfl) (by rfl) (by first | assumption | decide +kernel) (by decide +kernel) ⟨rfl, rfl, rfl, rfl, rfl, by decide +kernel⟩ ?hw ?hc
  case hw => w_witness2
  case hc =>
    refine Att.attach_call (l := PySem.Challenge.rw_newsbehind_k24_whole_lots_round_by_round) (n := 63) rfl (by kernel_rfl) fun w s₀ s₁ mg mb fa o pm cd doc a vs ns G Y ho hd hcd hmg0 hobj hints hlen hg => ?_
    obtain ⟨K, KX, c⟩ := Y
    have hmg : mg ("law" : PySem.Str) = some (.ref fa) := by
      have e : (HandSHeadRun.topDef K24.R.prog 55).name = ("law" : PySem.Str) := by kernel_rfl
      rw [← e]
      exact hmg0
    obtain ⟨fd, F⟩ := (K24.sayD c).def_ 44 (d := K24.e_law) rfl
    have e := hmg.symm.trans (He.glo_ok KX G.T.g ((K24.sayD c).fact 44 (f := .glo "law") rfl))
    cases e
    have hb := L2.FunD.bindsA (ps := ["_law_script"]) F fun _ _ _ _ _ _ us hl => match us, hl with | [_], _ => rfl
    refine K24.law_end (K := K) (k := 18) (x := "_law_script") (sp := K24.spL K) KX G.T.g G.T.b G.T.builtins G.T.nolimit hg hobj hints (Nat.le_trans hlen (by decide)) ⟨rfl, by decide, by decide⟩ (fun base KB GB => ?_) (fun s u => hb s [u] rfl) (fun H hS => ⟨a, ns, rfl, hS, fun _ => rfl⟩)
    obtain ⟨fdI, X⟩ := K24.tx_of KB GB c
    exact K24.c_law X F

