import PyProof.Rows.All
import Wide.All
import OpenK.AllK
import Wide.FinOn
import HandS.ForMost
import HandS.More
import HandS.Conv
import HandS.DictComp
import HandS.IsInst
import HandS.TupAny
import HandS.SortInts
import HandS.SortRule
import HandS.Strs
import HandS.Evl
import HandS.Defaults
import KE.GoesEnum
import HandS.SetFor
import PyProof.Rows.SortShellAny
import HandS.Head0
import HandS.Head1
import HandS.Head2
import HandS.HeadEnd
import HandS.HeadHook1
import HandS.HeadHook2
import PySem.Challenge.RW_tabletalk_k20_whole_any_order
set_option Elab.async false
set_option linter.all false
set_option maxRecDepth 100000
set_option maxHeartbeats 4000000
/-! Dl1: data, states, judgements -/
namespace Dl
open PySem PySem.Spec PyProof.Rows L2
open Evl (Ex)

/-- plain data -/
inductive D where
  | v (x : V) | t (xs : List D) | l (xs : List D)

mutual
def Rep (Z : Addr → Prop) (H : Hp) : D → V → Prop
  | .v y, x => x = y
  | .t ds, x => ∃ a xs, x = .ref a ∧ ¬ Z a ∧ H a = some (.tup xs) ∧ Reps Z H ds xs
  | .l ds, x => ∃ a xs, x = .ref a ∧ ¬ Z a ∧ H a = some (.lst xs) ∧ Reps Z H ds xs
def Reps (Z : Addr → Prop) (H : Hp) : List D → List V → Prop
  | [], xs => xs = []
  | d :: ds, xs => ∃ y ys, xs = y :: ys ∧ Rep Z H d y ∧ Reps Z H ds ys
end
/-- a later state: what was known and is not hidden is as it was, and is not hidden -/
def Lt (Z : Addr → Prop) (H : Hp) (Z' : Addr → Prop) (H' : Hp) : Prop := ∀ a o, ¬ Z a → H a = some o → ¬ Z' a ∧ H' a = some o
theorem Lt.refl {Z : Addr → Prop} {H : Hp} : Lt Z H Z H := fun _ _ n e => ⟨n, e⟩
theorem Lt.trans {Z Z1 Z2 : Addr → Prop} {H H1 H2 : Hp} (a : Lt Z H Z1 H1) (b : Lt Z1 H1 Z2 H2) : Lt Z H Z2 H2 := fun x o n e => b x o (a x o n e).1 (a x o n e).2
theorem Lt.ex {Z : Addr → Prop} {H H2 : Hp} (e : Ex H H2) : Lt Z H Z H2 := fun a o n h => ⟨n, e a o h⟩
mutual
theorem Rep.move {Z Z' : Addr → Prop} {H H' : Hp} (m : Lt Z H Z' H') : ∀ (d : D) (x : V), Rep Z H d x → Rep Z' H' d x
  | .v _, _, h => h
  | .t ds, _, ⟨a, xs, e, n, q, r⟩ => ⟨a, xs, e, (m a _ n q).1, (m a _ n q).2, Reps.move m ds xs r⟩
  | .l ds, _, ⟨a, xs, e, n, q, r⟩ => ⟨a, xs, e, (m a _ n q).1, (m a _ n q).2, Reps.move m ds xs r⟩
theorem Reps.move {Z Z' : Addr → Prop} {H H' : Hp} (m : Lt Z H Z' H') : ∀ (ds : List D) (xs : List V), Reps Z H ds xs → Reps Z' H' ds xs
  | [], _, h => h
  | d :: ds, _, ⟨y, ys, e, r, rs⟩ => ⟨y, ys, e, Rep.move m d y r, Reps.move m ds ys rs⟩
end
theorem Reps.len {Z : Addr → Prop} {H : Hp} : ∀ {ds : List D} {xs : List V}, Reps Z H ds xs → xs.length = ds.length
  | [], _, h => by cases h; rfl
  | d :: ds, _, ⟨y, ys, e, _, r⟩ => by cases e; exact congrArg Nat.succ (Reps.len r)
theorem Reps.get {Z : Addr → Prop} {H : Hp} : ∀ {ds : List D} {xs : List V} {i : Nat} {d : D}, Reps Z H ds xs → ds[i]? = some d → ∃ x, xs[i]? = some x ∧ Rep Z H d x
  | d :: ds, _, 0, _, ⟨y, ys, e, r, _⟩, h => by cases e; cases h; exact ⟨y, rfl, r⟩
  | d :: ds, _, i + 1, _, ⟨y, ys, e, _, r⟩, h => by
    cases e
    obtain ⟨x, e, q⟩ := Reps.get (i := i) r (by simpa using h)
    exact ⟨x, by simpa using e, q⟩
theorem Reps.app {Z : Addr → Prop} {H : Hp} : ∀ {ds es : List D} {xs ys : List V}, Reps Z H ds xs → Reps Z H es ys → Reps Z H (ds ++ es) (xs ++ ys)
  | [], _, _, _, h, q => by cases h; exact q
  | d :: ds, _, _, _, ⟨y, ys, e, r, rs⟩, q => by cases e; exact ⟨y, _, rfl, r, Reps.app rs q⟩
theorem Reps.drop {Z : Addr → Prop} {H : Hp} : ∀ {ds : List D} {xs : List V} (n : Nat), Reps Z H ds xs → Reps Z H (ds.drop n) (xs.drop n)
  | _, _, 0, h => h
  | [], _, _ + 1, h => by cases h; rfl
  | d :: ds, _, n + 1, ⟨y, ys, e, _, r⟩ => by cases e; exact Reps.drop n r
theorem Reps.take {Z : Addr → Prop} {H : Hp} : ∀ {ds : List D} {xs : List V} (n : Nat), Reps Z H ds xs → Reps Z H (ds.take n) (xs.take n)
  | _, _, 0, _ => rfl
  | [], _, _ + 1, h => by cases h; rfl
  | d :: ds, _, n + 1, ⟨y, ys, e, r, rs⟩ => by cases e; exact ⟨y, _, rfl, r, Reps.take n rs⟩
/-- flat data -/
abbrev I (i : Int) : D := .v (.int i)
abbrev B (b : Bool) : D := .v (.bl b)
def zD (ns : List Int) : List D := ns.map I
def flats (xs : List V) : List D := xs.map D.v
theorem zD_flats (ns : List Int) : zD ns = flats (ns.map V.int) := by unfold zD flats; rw [List.map_map]; rfl
theorem Reps.flats {Z : Addr → Prop} {H : Hp} : ∀ {ys xs : List V}, Reps Z H (flats ys) xs ↔ xs = ys
  | [], xs => Iff.rfl
  | y :: ys, xs => by
    constructor
    · rintro ⟨z, zs, rfl, e, r⟩
      have e1 : z = y := e
      rw [e1, Reps.flats.mp r]
    · intro e
      exact ⟨y, ys, e, rfl, Reps.flats.mpr rfl⟩
theorem Reps.zD {Z : Addr → Prop} {H : Hp} {ns : List Int} {xs : List V} : Reps Z H (zD ns) xs ↔ xs = ns.map V.int := by
  rw [zD_flats]; exact Reps.flats

/-! ### states -/
/-- entry heap, hidden at entry, the stream: its list, its script's list and what that holds -/
structure Cxt where
  H0 : Hp
  Z0 : Addr → Prop
  p : Option (Addr × Addr × List Int)
/-- what an own object holds -/
inductive Ct where
  | ls (ds : List D) | dk (ks : List Int)
def kvT (ks : List Int) : List (Key × V) := ks.map fun k => (Sum.inl k, V.bl true)
def OwnAt (Z : Addr → Prop) (H : Hp) (a : Addr) : Ct → Prop
  | .ls ds => ∃ xs, H a = some (.lst xs) ∧ Reps Z H ds xs
  | .dk ks => H a = some (.dK (kvT ks))
inductive Sl where
  | un | d (x : D) | o (c : Ct) | s
abbrev Rho := List Sl
def StmOk (q l : Addr) (ns : List Int) (H : Hp) : Prop := ∃ c k : Int, 0 ≤ c ∧ 0 ≤ k ∧ H q = some (.lst [.ref l, .int c, .int k]) ∧ H l = some (.lst (ns.map V.int))
structure SR (c : Cxt) (Z : Addr → Prop) (H : Hp) (σ : L2.St) (ρ : Rho) : Prop where
  len : σ.length = ρ.length
  dom : ∀ a, Z a → H a ≠ none
  zin : ∀ a, Z a → c.Z0 a ∨ c.H0 a = none
  out : ∀ a, c.Z0 a → Z a
  zd : ∀ a, c.Z0 a → c.H0 a ≠ none
  ex : ∀ a o, (∀ q l ns, c.p = some (q, l, ns) → a ≠ q) → c.H0 a = some o → H a = some o
  stm : ∀ q l ns, c.p = some (q, l, ns) → c.Z0 q ∧ ¬ Z l ∧ StmOk q l ns H
  data : ∀ (i : Nat) (d : D), ρ[i]? = some (.d d) → ∃ v, σ[i]? = some (some v) ∧ Rep Z H d v
  own : ∀ (i : Nat) (ct : Ct), ρ[i]? = some (.o ct) → ∃ a, σ[i]? = some (some (.ref a)) ∧ Z a ∧ c.H0 a = none ∧ OwnAt Z H a ct
  inj : ∀ (i j : Nat) (ct cu : Ct) (a : Addr), ρ[i]? = some (.o ct) → ρ[j]? = some (.o cu) → σ[i]? = some (some (.ref a)) → σ[j]? = some (some (.ref a)) → i = j
  strm : ∀ (i : Nat), ρ[i]? = some .s → ∃ q l ns, c.p = some (q, l, ns) ∧ σ[i]? = some (some (.ref q))
theorem OwnAt.keep {Z : Addr → Prop} {H H' : Hp} {a : Addr} {ct : Ct} (h : OwnAt Z H a ct) (m : Lt Z H Z H') (e : ∀ o, H a = some o → H' a = some o) : OwnAt Z H' a ct := by
  cases ct with
  | ls ds => obtain ⟨xs, h1, h2⟩ := h; exact ⟨xs, e _ h1, Reps.move m _ _ h2⟩
  | dk ks => exact e _ h
section
variable {c : Cxt} {Z Z' : Addr → Prop} {H H' : Hp} {σ σ' : L2.St} {ρ ρ' : Rho}
/-- the hidden change, or all is kept: own objects and the stream's are said apart -/
theorem SR.go (s : SR c Z H σ ρ) (m : Lt Z H Z H') (k : ∀ a o, Z a → (∀ q l ns, c.p = some (q, l, ns) → a ≠ q) → H a = some o → H' a = some o) (st : ∀ q l ns, c.p = some (q, l, ns) → StmOk q l ns H') : SR c Z H' σ ρ where
  len := s.len
  dom := fun a ha => by
    by_cases hq : ∃ q l ns, c.p = some (q, l, ns) ∧ a = q
    · obtain ⟨q, l, ns, e, rfl⟩ := hq
      obtain ⟨_, _, _, _, h1, _⟩ := st _ _ _ e
      rw [h1]; exact fun z => nomatch z
    · cases e : H a with
      | none => exact absurd e (s.dom a ha)
      | some o =>
        rw [k a o ha (fun q l ns e1 e2 => hq ⟨q, l, ns, e1, e2⟩) e]
        exact fun z => nomatch z
  zin := s.zin
  out := s.out
  zd := s.zd
  ex := fun a o hq e => by
    have e1 := s.ex a o hq e
    by_cases hz : Z a
    · exact k a o hz hq e1
    · exact (m a o hz e1).2
  stm := fun q l ns e => ⟨(s.stm q l ns e).1, (s.stm q l ns e).2.1, st q l ns e⟩
  data := fun i d e => by
    obtain ⟨v, h1, h2⟩ := s.data i d e
    exact ⟨v, h1, Rep.move m _ _ h2⟩
  own := fun i ct e => by
    obtain ⟨a, h1, h2, h3, h4⟩ := s.own i ct e
    refine ⟨a, h1, h2, h3, h4.keep m fun o ho => k a o h2 (fun q l ns e1 e2 => ?_) ho⟩
    subst e2
    exact s.zd _ (s.stm _ _ _ e1).1 h3
  inj := s.inj
  strm := s.strm
theorem SR.ext (s : SR c Z H σ ρ) (e : Ex H H') : SR c Z H' σ ρ := s.go (Lt.ex e) (fun a o _ _ h => e a o h) fun q l ns h => by
  obtain ⟨cc, k, a1, a2, a3, a4⟩ := (s.stm q l ns h).2.2
  exact ⟨cc, k, a1, a2, e _ _ a3, e _ _ a4⟩
theorem getE_set {α : Type} {xs : List α} {i j : Nat} {x y : α} (h : (xs.set i x)[j]? = some y) : (i = j ∧ y = x ∧ i < xs.length) ∨ (i ≠ j ∧ xs[j]? = some y) := by
  by_cases e : i = j
  · subst e
    by_cases hl : i < xs.length
    · rw [List.getElem?_set_self hl] at h
      exact .inl ⟨rfl, (Option.some.inj h).symm, hl⟩
    · rw [List.getElem?_eq_none (by simpa using hl)] at h
      cases h
  · rw [List.getElem?_set_ne e] at h
    exact .inr ⟨e, h⟩
/-- a slot is forgotten -/
theorem SR.setU (s : SR c Z H σ ρ) (i : Nat) (v : Option V) : SR c Z H (σ.set i v) (ρ.set i .un) where
  len := by rw [List.length_set, List.length_set, s.len]
  dom := s.dom
  zin := s.zin
  out := s.out
  zd := s.zd
  ex := s.ex
  stm := s.stm
  data := fun j d e => by
    rcases getE_set e with ⟨_, q, _⟩ | ⟨n, q⟩
    · cases q
    · rw [List.getElem?_set_ne n]; exact s.data j d q
  own := fun j ct e => by
    rcases getE_set e with ⟨_, q, _⟩ | ⟨n, q⟩
    · cases q
    · rw [List.getElem?_set_ne n]; exact s.own j ct q
  inj := fun j k ct cu a e1 e2 => by
    rcases getE_set e1 with ⟨_, q, _⟩ | ⟨n1, q1⟩
    · cases q
    · rcases getE_set e2 with ⟨_, q, _⟩ | ⟨n2, q2⟩
      · cases q
      · rw [List.getElem?_set_ne n1, List.getElem?_set_ne n2]; exact s.inj j k ct cu a q1 q2
  strm := fun j e => by
    rcases getE_set e with ⟨_, q, _⟩ | ⟨n, q⟩
    · cases q
    · rw [List.getElem?_set_ne n]; exact s.strm j q
theorem SR.setD (s : SR c Z H σ ρ) (i : Nat) {d : D} {v : V} (r : Rep Z H d v) : SR c Z H (σ.set i (some v)) (ρ.set i (.d d)) where
  len := by rw [List.length_set, List.length_set, s.len]
  dom := s.dom
  zin := s.zin
  out := s.out
  zd := s.zd
  ex := s.ex
  stm := s.stm
  data := fun j d' e => by
    rcases getE_set e with ⟨h1, q, hl⟩ | ⟨n, q⟩
    · cases q
      subst h1
      exact ⟨v, List.getElem?_set_self (by rw [s.len]; exact hl), r⟩
    · rw [List.getElem?_set_ne n]; exact s.data j d' q
  own := fun j ct e => by
    rcases getE_set e with ⟨_, q, _⟩ | ⟨n, q⟩
    · cases q
    · rw [List.getElem?_set_ne n]; exact s.own j ct q
  inj := fun j k ct cu a e1 e2 => by
    rcases getE_set e1 with ⟨_, q, _⟩ | ⟨n1, q1⟩
    · cases q
    · rcases getE_set e2 with ⟨_, q, _⟩ | ⟨n2, q2⟩
      · cases q
      · rw [List.getElem?_set_ne n1, List.getElem?_set_ne n2]; exact s.inj j k ct cu a q1 q2
  strm := fun j e => by
    rcases getE_set e with ⟨_, q, _⟩ | ⟨n, q⟩
    · cases q
    · rw [List.getElem?_set_ne n]; exact s.strm j q
/-- more is hidden: what is new -/
def hide (Z : Addr → Prop) (p : Addr) : Addr → Prop := fun a => Z a ∨ a = p
theorem lt_hide {p : Addr} (hp : H p = none) : Lt Z H (hide Z p) H := fun a o n e => ⟨fun h => h.elim n (fun z => by rw [z, hp] at e; cases e), e⟩
theorem OwnAt.move {a : Addr} {ct : Ct} (h : OwnAt Z H a ct) (m : Lt Z H Z' H') (e : ∀ o, H a = some o → H' a = some o) : OwnAt Z' H' a ct := by
  cases ct with
  | ls ds => obtain ⟨xs, h1, h2⟩ := h; exact ⟨xs, e _ h1, Reps.move m _ _ h2⟩
  | dk ks => exact e _ h
/-- a new object is hidden -/
theorem SR.fresh (s : SR c Z H σ ρ) {p : Addr} (o : HO) (hp : H p = none) : SR c (hide Z p) (upd H p o) σ ρ := by
  have e : Ex H (upd H p o) := Ex.new hp
  have m : Lt Z H (hide Z p) (upd H p o) := (lt_hide hp).trans (Lt.ex e)
  have hc : (∀ q l ns, c.p = some (q, l, ns) → p ≠ q) → c.H0 p = none := fun hq => by
    cases q : c.H0 p with
    | none => rfl
    | some u => rw [s.ex p u hq q] at hp; cases hp
  have hq : ∀ q l ns, c.p = some (q, l, ns) → p ≠ q := fun q l ns h z => by
    subst z
    obtain ⟨_, _, _, _, h1, _⟩ := (s.stm _ _ _ h).2.2
    rw [hp] at h1; cases h1
  refine ⟨s.len, fun a ha => ?_, fun a ha => ?_, fun a ha => .inl (s.out a ha), s.zd, fun a u h1 h2 => e _ _ (s.ex a u h1 h2), fun q l ns h => ?_, fun i d h => ?_, fun i ct h => ?_, s.inj, s.strm⟩
  · rcases ha with ha | rfl
    · cases q : H a with
      | none => exact absurd q (s.dom a ha)
      | some u => rw [e _ _ q]; exact fun z => nomatch z
    · rw [upd_same]; exact fun z => nomatch z
  · rcases ha with ha | rfl
    · exact s.zin a ha
    · exact .inr (hc hq)
  · obtain ⟨h1, h2, cc, k, a1, a2, a3, a4⟩ := s.stm q l ns h
    exact ⟨h1, (m l _ h2 a4).1, cc, k, a1, a2, e _ _ a3, e _ _ a4⟩
  · obtain ⟨v, h1, h2⟩ := s.data i d h
    exact ⟨v, h1, Rep.move m _ _ h2⟩
  · obtain ⟨a, h1, h2, h3, h4⟩ := s.own i ct h
    exact ⟨a, h1, .inl h2, h3, h4.move m fun o ho => e _ _ ho⟩
theorem SR.noP (s : SR c Z H σ ρ) {p : Addr} (hp : H p = none) : c.H0 p = none := by
  cases q : c.H0 p with
  | none => rfl
  | some u =>
    rw [s.ex p u (fun q l ns h z => by
      subst z
      obtain ⟨_, _, _, _, h1, _⟩ := (s.stm _ _ _ h).2.2
      rw [hp] at h1; cases h1) q] at hp
    cases hp
/-- a new own object in a slot -/
theorem SR.setO (s : SR c Z H σ ρ) (i : Nat) {p : Addr} {o : HO} {ct : Ct} (hp : H p = none) (h : OwnAt (hide Z p) (upd H p o) p ct) : SR c (hide Z p) (upd H p o) (σ.set i (some (.ref p))) (ρ.set i (.o ct)) := by
  have t := s.fresh o hp
  refine ⟨by rw [List.length_set, List.length_set, s.len], t.dom, t.zin, t.out, t.zd, t.ex, t.stm, fun j d e => ?_, fun j cu e => ?_, fun j k cu cv a e1 e2 e3 e4 => ?_, fun j e => ?_⟩
  · rcases getE_set e with ⟨_, q, _⟩ | ⟨n, q⟩
    · cases q
    · rw [List.getElem?_set_ne n]; exact t.data j d q
  · rcases getE_set e with ⟨h1, q, hl⟩ | ⟨n, q⟩
    · cases q
      subst h1
      exact ⟨p, List.getElem?_set_self (by rw [s.len]; exact hl), .inr rfl, s.noP hp, h⟩
    · rw [List.getElem?_set_ne n]; exact t.own j cu q
  · have far : ∀ (j : Nat) (cu : Ct), ρ[j]? = some (.o cu) → σ[j]? = some (some (.ref p)) → False := fun j cu h1 h2 => by
      obtain ⟨b, g1, g2, g3, g4⟩ := s.own j cu h1
      rw [g1] at h2
      cases h2
      exact s.dom _ g2 hp
    rcases getE_set e1 with ⟨h1, q1, hl⟩ | ⟨n1, q1⟩
    · rcases getE_set e2 with ⟨h2, q2, _⟩ | ⟨n2, q2⟩
      · exact h1.symm.trans h2
      · rw [List.getElem?_set_ne n2] at e4
        subst h1
        rw [List.getElem?_set_self (by rw [s.len]; exact hl)] at e3
        cases e3
        exact (far k cv q2 e4).elim
    · rcases getE_set e2 with ⟨h2, q2, hl⟩ | ⟨n2, q2⟩
      · rw [List.getElem?_set_ne n1] at e3
        subst h2
        rw [List.getElem?_set_self (by rw [s.len]; exact hl)] at e4
        cases e4
        exact (far j cu q1 e3).elim
      · rw [List.getElem?_set_ne n1] at e3
        rw [List.getElem?_set_ne n2] at e4
        exact s.inj j k cu cv a q1 q2 e3 e4
  · rcases getE_set e with ⟨_, q, _⟩ | ⟨n, q⟩
    · cases q
    · rw [List.getElem?_set_ne n]; exact t.strm j q
/-- an own object changes -/
theorem SR.mut (s : SR c Z H σ ρ) {i : Nat} {a : Addr} {o : HO} {ct cu : Ct} (hi : ρ[i]? = some (.o ct)) (ha : σ[i]? = some (some (.ref a))) (h : OwnAt Z (upd H a o) a cu) : SR c Z (upd H a o) σ (ρ.set i (.o cu)) := by
  obtain ⟨a', h1, h2, h3, h4⟩ := s.own i ct hi
  rw [h1] at ha
  cases ha
  have hl : i < ρ.length := (List.getElem?_eq_some_iff.mp hi).1
  have m : Lt Z H Z (upd H a o) := fun b u n e => ⟨n, by rw [upd_ne (fun z => n (by rw [z]; exact h2))]; exact e⟩
  have hq : ∀ q l ns, c.p = some (q, l, ns) → a ≠ q := fun q l ns e z => by
    subst z
    exact s.zd _ (s.stm _ _ _ e).1 h3
  have kp : ∀ b u, b ≠ a → H b = some u → upd H a o b = some u := fun b u n e => by rw [upd_ne n]; exact e
  refine ⟨by rw [List.length_set, s.len], fun b hb => ?_, s.zin, s.out, s.zd, fun b u g1 g2 => kp b u (fun z => by rw [z, h3] at g2; cases g2) (s.ex b u g1 g2), fun q l ns e => ?_, fun j d e => ?_, fun j cv e => ?_, fun j k cv cw b e1 e2 e3 e4 => ?_, fun j e => ?_⟩
  · by_cases z : b = a
    · subst z; rw [upd_same]; exact fun z => nomatch z
    · rw [upd_ne z]; exact s.dom b hb
  · obtain ⟨g1, g2, cc, k, a1, a2, a3, a4⟩ := s.stm q l ns e
    exact ⟨g1, g2, cc, k, a1, a2, kp _ _ (fun z => hq q l ns e z.symm) a3, (m _ _ g2 a4).2⟩
  · rcases getE_set e with ⟨_, q, _⟩ | ⟨n, q⟩
    · cases q
    · obtain ⟨v, g1, g2⟩ := s.data j d q
      exact ⟨v, g1, Rep.move m _ _ g2⟩
  · rcases getE_set e with ⟨g1, q, _⟩ | ⟨n, q⟩
    · cases q
      subst g1
      exact ⟨a, h1, h2, h3, h⟩
    · obtain ⟨b, g1, g2, g3, g4⟩ := s.own j cv q
      have nb : b ≠ a := fun z => by
        subst z
        exact n (s.inj i j ct cv b hi q h1 g1)
      exact ⟨b, g1, g2, g3, g4.keep m fun u hu => kp b u nb hu⟩
  · have f1 : ∃ ct1, ρ[j]? = some (.o ct1) := by
      rcases getE_set e1 with ⟨g, _, _⟩ | ⟨n, q⟩
      · exact ⟨ct, by rw [← g]; exact hi⟩
      · exact ⟨_, q⟩
    have f2 : ∃ ct1, ρ[k]? = some (.o ct1) := by
      rcases getE_set e2 with ⟨g, _, _⟩ | ⟨n, q⟩
      · exact ⟨ct, by rw [← g]; exact hi⟩
      · exact ⟨_, q⟩
    obtain ⟨c1, f1⟩ := f1
    obtain ⟨c2, f2⟩ := f2
    exact s.inj j k c1 c2 b f1 f2 e3 e4
  · rcases getE_set e with ⟨_, q, _⟩ | ⟨n, q⟩
    · cases q
    · exact s.strm j q
theorem lt_own (s : SR c Z H σ ρ) {i : Nat} {a : Addr} {o : HO} {ct : Ct} (hi : ρ[i]? = some (.o ct)) (ha : σ[i]? = some (some (.ref a))) : Lt Z H Z (upd H a o) := by
  obtain ⟨a', h1, h2, h3, h4⟩ := s.own i ct hi
  rw [h1] at ha
  cases ha
  exact fun b u n e => ⟨n, by rw [upd_ne (fun z => n (by rw [z]; exact h2))]; exact e⟩
/-- an own list is from now on data -/
def unhide (Z : Addr → Prop) (p : Addr) : Addr → Prop := fun a => Z a ∧ a ≠ p
theorem SR.freeze (s : SR c Z H σ ρ) {i : Nat} {ds : List D} (hi : ρ[i]? = some (.o (.ls ds))) : ∃ Z', Lt Z H Z' H ∧ SR c Z' H σ (ρ.set i (.d (.l ds))) := by
  obtain ⟨a, h1, h2, h3, xs, h4, h5⟩ := s.own i _ hi
  have m : Lt Z H (unhide Z a) H := fun b u n e => ⟨fun z => n z.1, e⟩
  have hz0 : ¬ c.Z0 a := fun z => s.zd a z h3
  refine ⟨unhide Z a, m, by rw [List.length_set, s.len], fun b hb => s.dom b hb.1, fun b hb => s.zin b hb.1, fun b hb => ⟨s.out b hb, fun z => hz0 (by rw [← z]; exact hb)⟩, s.zd, s.ex, fun q l ns e => ⟨(s.stm q l ns e).1, fun z => (s.stm q l ns e).2.1 z.1, (s.stm q l ns e).2.2⟩, fun j d e => ?_, fun j ct e => ?_, fun j k ct cu b e1 e2 => ?_, fun j e => ?_⟩
  · rcases getE_set e with ⟨g1, q, _⟩ | ⟨n, q⟩
    · cases q
      subst g1
      exact ⟨_, h1, a, xs, rfl, fun z => z.2 rfl, h4, Reps.move m _ _ h5⟩
    · obtain ⟨v, g1, g2⟩ := s.data j d q
      exact ⟨v, g1, Rep.move m _ _ g2⟩
  · rcases getE_set e with ⟨_, q, _⟩ | ⟨n, q⟩
    · cases q
    · obtain ⟨b, g1, g2, g3, g4⟩ := s.own j ct q
      exact ⟨b, g1, ⟨g2, fun z => n (s.inj i j _ _ b hi q (by rw [z]; exact h1) g1)⟩, g3, g4.move m fun _ ho => ho⟩
  · rcases getE_set e1 with ⟨_, q, _⟩ | ⟨n1, q1⟩
    · cases q
    · rcases getE_set e2 with ⟨_, q, _⟩ | ⟨n2, q2⟩
      · cases q
      · exact s.inj j k ct cu b q1 q2
  · rcases getE_set e with ⟨_, q, _⟩ | ⟨n, q⟩
    · cases q
    · exact s.strm j q
/-- own lists read as data -/
def wk1 : Sl → Sl
  | .o (.ls ds) => .d (.l ds)
  | .o (.dk _) => .un
  | x => x
def wk (ρ : Rho) : Rho := ρ.map wk1
theorem wk_get {i : Nat} {x : Sl} (h : (wk ρ)[i]? = some x) : ∃ y, ρ[i]? = some y ∧ wk1 y = x := by
  unfold wk at h
  rw [List.getElem?_map] at h
  cases e : ρ[i]? with
  | none => rw [e] at h; cases h
  | some y => rw [e] at h; exact ⟨y, rfl, Option.some.inj h⟩
theorem SR.weak (s : SR c Z H σ ρ) : SR ⟨H, c.Z0, c.p⟩ c.Z0 H σ (wk ρ) := by
  have m : Lt Z H c.Z0 H := fun b u n e => ⟨fun z => n (s.out b z), e⟩
  refine ⟨by unfold wk; rw [List.length_map]; exact s.len, fun a ha => s.dom a (s.out a ha), fun a ha => .inl ha, fun a ha => ha, fun a ha => s.dom a (s.out a ha), fun a o _ e => e, fun q l ns e => ⟨(s.stm q l ns e).1, fun z => (s.stm q l ns e).2.1 (s.out _ z), (s.stm q l ns e).2.2⟩, fun i d e => ?_, fun i ct e => ?_, fun i j ct cu a e => ?_, fun i e => ?_⟩
  · obtain ⟨y, h1, h2⟩ := wk_get e
    cases y with
    | un => cases h2
    | d x =>
      cases h2
      obtain ⟨v, g1, g2⟩ := s.data i _ h1
      exact ⟨v, g1, Rep.move m _ _ g2⟩
    | o ct =>
      cases ct with
      | ls ds =>
        cases h2
        obtain ⟨a, g1, g2, g3, xs, g4, g5⟩ := s.own i _ h1
        exact ⟨_, g1, a, xs, rfl, fun z => s.zd a z g3, g4, Reps.move m _ _ g5⟩
      | dk ks => cases h2
    | s => cases h2
  · obtain ⟨y, h1, h2⟩ := wk_get e
    cases y with
    | o ct => cases ct <;> cases h2
    | _ => cases h2
  · obtain ⟨y, h1, h2⟩ := wk_get e
    cases y with
    | o ct => cases ct <;> cases h2
    | _ => cases h2
  · obtain ⟨y, h1, h2⟩ := wk_get e
    cases y with
    | o ct => cases ct <;> cases h2
    | s => exact s.strm i h1
    | _ => cases h2
theorem SR.unweak (s : SR c Z H σ ρ) (w : SR ⟨H, c.Z0, c.p⟩ c.Z0 H' σ (wk ρ)) : SR c Z H' σ ρ ∧ Lt Z H Z H' := by
  have hz : ∀ a, ¬ Z a → ∀ q l ns, c.p = some (q, l, ns) → a ≠ q := fun a n q l ns e z => n (s.out _ (by rw [z]; exact (s.stm q l ns e).1))
  have m : Lt Z H Z H' := fun a o n e => ⟨n, w.ex a o (hz a n) e⟩
  exact ⟨s.go m (fun a o _ hq e => w.ex a o hq e) fun q l ns e => (w.stm q l ns e).2.2, m⟩
/-- less is said -/
def Wkn (ρ ρ' : Rho) : Prop := ρ.length = ρ'.length ∧ ∀ (i : Nat) (x : Sl), ρ'[i]? = some x → x = .un ∨ ρ[i]? = some x
theorem Wkn.refl : Wkn ρ ρ := ⟨rfl, fun _ _ h => .inr h⟩
theorem SR.wkn (s : SR c Z H σ ρ) (w : Wkn ρ ρ') : SR c Z H σ ρ' := by
  have g : ∀ (i : Nat) (x : Sl), ρ'[i]? = some x → x ≠ .un → ρ[i]? = some x := fun i x h n => (w.2 i x h).elim (fun z => absurd z n) id
  exact ⟨s.len.trans w.1, s.dom, s.zin, s.out, s.zd, s.ex, s.stm, fun i d e => s.data i d (g i _ e (by intro z; cases z)), fun i ct e => s.own i ct (g i _ e (by intro z; cases z)),
    fun i j ct cu a e1 e2 => s.inj i j ct cu a (g i _ e1 (by intro z; cases z)) (g j _ e2 (by intro z; cases z)), fun i e => s.strm i (g i _ e (by intro z; cases z))⟩
end
end Dl

set_option maxRecDepth 100000
set_option maxHeartbeats 4000000
/-! Dl2: judgements of expressions -/
namespace Dl
open PySem PySem.Spec PyProof.Rows L2
open Evl (Ex)
/-- what an expression does to the heap: nothing that stands is changed but the stream, which stays one -/
structure Go (c : Cxt) (Z : Addr → Prop) (H H2 : Hp) : Prop where
  m : Lt Z H Z H2
  k : ∀ a o, Z a → (∀ q l ns, c.p = some (q, l, ns) → a ≠ q) → H a = some o → H2 a = some o
  st : ∀ q l ns, c.p = some (q, l, ns) → StmOk q l ns H2
section
variable {c : Cxt} {Z Z' : Addr → Prop} {H H1 H2 : Hp} {σ : L2.St} {ρ : Rho}
theorem SR.to (s : SR c Z H σ ρ) (g : Go c Z H H2) : SR c Z H2 σ ρ := s.go g.m g.k g.st
theorem SR.goX (s : SR c Z H σ ρ) (e : Ex H H2) : Go c Z H H2 := ⟨Lt.ex e, fun a o _ _ h => e a o h, fun q l ns h => by
  obtain ⟨cc, k, a1, a2, a3, a4⟩ := (s.stm q l ns h).2.2
  exact ⟨cc, k, a1, a2, e _ _ a3, e _ _ a4⟩⟩
theorem SR.goR (s : SR c Z H σ ρ) : Go c Z H H := s.goX (fun _ _ h => h)
theorem Go.trans (a : Go c Z H H1) (b : Go c Z H1 H2) : Go c Z H H2 := ⟨a.m.trans b.m, fun x o hz hq e => b.k x o hz hq (a.k x o hz hq e), b.st⟩
theorem Go.x (a : Go c Z H H1) (s : SR c Z H σ ρ) (e : Ex H1 H2) : Go c Z H H2 := a.trans ((s.to a).goX e)
end
/-- an expression gives data of which P holds -/
def EE (te : TE) (ρ : Rho) (P : D → Prop) : Prop := ∀ (c : Cxt) (Z : Addr → Prop) (H : Hp) (σ : L2.St), SR c Z H σ ρ → ∀ Q : VK, (∀ d v H2, P d → Go c Z H H2 → Rep Z H2 d v → Q v H2) → te σ H Q
abbrev EV (te : TE) (ρ : Rho) (d : D) : Prop := EE te ρ (fun x => x = d)
def ET (tt : TT) (ρ : Rho) (P : Bool → Prop) : Prop := ∀ (c : Cxt) (Z : Addr → Prop) (H : Hp) (σ : L2.St), SR c Z H σ ρ → ∀ Q : Bool → Hp → Prop, (∀ b H2, P b → Go c Z H H2 → Q b H2) → tt σ H Q
abbrev EB (tt : TT) (ρ : Rho) (b : Bool) : Prop := ET tt ρ (fun x => x = b)
def EA (ta : TA) (ρ : Rho) (P : List D → Prop) : Prop := ∀ (c : Cxt) (Z : Addr → Prop) (H : Hp) (σ : L2.St), SR c Z H σ ρ → ∀ Q : List V → Hp → Prop, (∀ ds vs H2, P ds → Go c Z H H2 → Reps Z H2 ds vs → Q vs H2) → ta σ H Q
abbrev EL (ta : TA) (ρ : Rho) (ds : List D) : Prop := EA ta ρ (fun x => x = ds)
def EO (to : TO) (ρ : Rho) (o : Option Int) : Prop := ∀ (c : Cxt) (Z : Addr → Prop) (H : Hp) (σ : L2.St), SR c Z H σ ρ → ∀ Q : Option Int → Hp → Prop, (∀ H2, Go c Z H H2 → Q o H2) → to σ H Q
/-- a new list (an own one, if one wants) -/
def EF (te : TE) (ρ : Rho) (P : List D → Prop) : Prop := ∀ (c : Cxt) (Z : Addr → Prop) (H : Hp) (σ : L2.St), SR c Z H σ ρ → ∀ Q : VK, (∀ ds xs H2 p, P ds → Go c Z H H2 → H2 p = none → Reps Z H2 ds xs → Q (.ref p) (upd H2 p (.lst xs))) → te σ H Q
/-- by values -/
abbrev Dom (Z : Addr → Prop) (H : Hp) : Prop := ∀ a, Z a → H a ≠ none
def RD (r : R2) (x y z : D) : Prop := ∀ (Z : Addr → Prop) (H : Hp) (vx vy : V), Dom Z H → Rep Z H x vx → Rep Z H y vy → ∀ Q : VK, (∀ v H2, Ex H H2 → Rep Z H2 z v → Q v H2) → r vx vy H Q
def UD (r : V → Hp → VK → Prop) (x z : D) : Prop := ∀ (Z : Addr → Prop) (H : Hp) (vx : V), Dom Z H → Rep Z H x vx → ∀ Q : VK, (∀ v H2, Ex H H2 → Rep Z H2 z v → Q v H2) → r vx H Q
def CD (r : List V → Hp → VK → Prop) (ds : List D) (z : D) : Prop := ∀ (Z : Addr → Prop) (H : Hp) (vs : List V), Dom Z H → Reps Z H ds vs → ∀ Q : VK, (∀ v H2, Ex H H2 → Rep Z H2 z v → Q v H2) → r vs H Q
def SD (r : V → Option Int → Option Int → Hp → VK → Prop) (x : D) (lo hi : Option Int) (z : D) : Prop := ∀ (Z : Addr → Prop) (H : Hp) (vx : V), Dom Z H → Rep Z H x vx → ∀ Q : VK, (∀ v H2, Ex H H2 → Rep Z H2 z v → Q v H2) → r vx lo hi H Q
section
variable {K : PySem.W.Frag} {ρ ρ' : Rho} {ta tb tc te : TE} {tt tu : TT} {t tr : TA} {x y z d : D} {r r' : R2} {P P' R : D → Prop} {b b' : Bool} {ds : List D}
theorem EE.imp (h : EE te ρ P) (i : ∀ d, P d → R d) : EE te ρ R := fun c Z H σ s Q k => h c Z H σ s Q fun d v H2 p => k d v H2 (i d p)
theorem EV.is (h : EV te ρ x) (e : x = y) : EV te ρ y := by rw [← e]; exact h
theorem EV.of (h : EE te ρ P) (i : ∀ d, P d → d = x) : EV te ρ x := h.imp i
theorem EB.is (h : EB tt ρ b) (e : b = b') : EB tt ρ b' := by rw [← e]; exact h
theorem EE.wkn (w : Wkn ρ ρ') (h : EE te ρ' P) : EE te ρ P := fun c Z H σ s Q k => h c Z H σ (s.wkn w) Q k
theorem ET.wkn {P : Bool → Prop} (w : Wkn ρ ρ') (h : ET tt ρ' P) : ET tt ρ P := fun c Z H σ s Q k => h c Z H σ (s.wkn w) Q k
/-- own lists may be read where what comes out is flat -/
theorem EE.weak (h : EE te (wk ρ) P) (f : ∀ d, P d → ∃ x, d = .v x) : EE te ρ P := fun c Z H σ s Q k => h _ _ H σ s.weak Q fun d v H2 p g q => by
  obtain ⟨x, rfl⟩ := f d p
  refine k _ v H2 p ⟨fun a o n e => ⟨n, (g.m a o (fun z => n (s.out a z)) e).2⟩, fun a o hz hq e => ?_, g.st⟩ q
  by_cases h0 : c.Z0 a
  · exact g.k a o h0 hq e
  · exact (g.m a o h0 e).2
theorem ET.weak {P : Bool → Prop} (h : ET tt (wk ρ) P) : ET tt ρ P := fun c Z H σ s Q k => h _ _ H σ s.weak Q fun d H2 p g => by
  refine k _ H2 p ⟨fun a o n e => ⟨n, (g.m a o (fun z => n (s.out a z)) e).2⟩, fun a o hz hq e => ?_, g.st⟩
  by_cases h0 : c.Z0 a
  · exact g.k a o h0 hq e
  · exact (g.m a o h0 e).2
theorem ev_weak {x : V} (h : EV te (wk ρ) (.v x)) : EV te ρ (.v x) := EE.weak h fun d e => ⟨x, e⟩
theorem EF.ee {P : List D → Prop} (h : EF te ρ P) (i : ∀ ds, P ds → R (.l ds)) : EE te ρ R := fun c Z H σ s Q k => h c Z H σ s Q fun ds xs H2 p hp g q r => by
  have e : Ex H2 (upd H2 p (.lst xs)) := Ex.new q
  exact k _ _ _ (i ds hp) (g.x s e) ⟨p, xs, rfl, fun z => (s.to g).dom p z q, upd_same, Reps.move (Lt.ex e) _ _ r⟩

theorem ev_var {i : Nat} (h : ρ[i]? = some (.d d)) : EV (tVar i) ρ d := fun c Z H σ s Q k => by
  obtain ⟨v, h1, h2⟩ := s.data i d h
  exact ⟨v, h1, k d v H rfl s.goR h2⟩
theorem ev_c {v : V} : EV (tC v) ρ (.v v) := fun c Z H σ s Q k => k _ v H rfl s.goR rfl
theorem ee_op (ha : EE ta ρ P) (hb : EE tb ρ P') (h : ∀ x y, P x → P' y → ∃ z, R z ∧ RD r x y z) : EE (tOp r ta tb) ρ R := fun c Z H σ s Q k =>
  ha c Z H σ s _ fun x vx H1 px g1 r1 => hb c Z H1 σ (s.to g1) _ fun y vy H2 py g2 r2 => by
    obtain ⟨z, hz, hr⟩ := h x y px py
    exact hr Z H2 vx vy ((s.to g1).to g2).dom (Rep.move g2.m _ _ r1) r2 Q fun v H3 e r3 => k z v H3 hz ((g1.trans g2).x s e) r3
theorem ev_op (ha : EV ta ρ x) (hb : EV tb ρ y) (h : RD r x y z) : EV (tOp r ta tb) ρ z := ee_op ha hb fun _ _ e1 e2 => ⟨z, rfl, by rw [e1, e2]; exact h⟩
theorem ev_un {u : V → Hp → VK → Prop} (ha : EV ta ρ x) (h : UD u x z) : EV (tUn u ta) ρ z := fun c Z H σ s Q k =>
  ha c Z H σ s _ fun x' vx H1 px g1 r1 => h Z H1 vx (s.to g1).dom (by rw [← px]; exact r1) Q fun v H3 e r3 => k z v H3 rfl (g1.x s e) r3
theorem eb_test (h : EV te ρ (B b)) : EB (tTest te) ρ b := fun c Z H σ s Q k => h c Z H σ s _ fun d v H2 e g q => ⟨b, by rw [e] at q; exact q, k b H2 rfl g⟩
theorem et_test {P : Bool → Prop} (h : EE te ρ R) (i : ∀ d, R d → ∃ b, d = B b ∧ P b) : ET (tTest te) ρ P := fun c Z H σ s Q k => h c Z H σ s _ fun d v H2 e g q => by
  obtain ⟨b, rfl, hb⟩ := i d e
  exact ⟨b, q, k b H2 hb g⟩
def truD : D → Bool
  | .v .non => false
  | .v (.bl b) => b
  | .v (.int i) => i != 0
  | .t ds => !ds.isEmpty
  | .l ds => !ds.isEmpty
  | _ => false
def isTru : D → Prop
  | .v .non => True
  | .v (.bl _) => True
  | .v (.int _) => True
  | .t _ => True
  | .l _ => True
  | _ => False
theorem Reps.emp {Z : Addr → Prop} {H : Hp} {ds : List D} {xs : List V} (h : Reps Z H ds xs) : xs.isEmpty = ds.isEmpty := by
  cases ds with
  | nil => cases h; rfl
  | cons d ds => obtain ⟨y, ys, rfl, _, _⟩ := h; rfl
theorem tru_d {Z : Addr → Prop} {H : Hp} {d : D} {v : V} (h : Rep Z H d v) (i : isTru d) : TruV K v H (truD d) := by
  cases d with
  | v x =>
    have e : v = x := h
    subst e
    cases v <;> first | exact i.elim | rfl
  | t ds =>
    obtain ⟨a, xs, rfl, _, h1, h2⟩ := h
    exact .inr (.inl ⟨xs, SqT.of h1, by rw [h2.emp]; rfl⟩)
  | l ds =>
    obtain ⟨a, xs, rfl, _, h1, h2⟩ := h
    exact .inl ⟨xs, SqL.of h1, by rw [h2.emp]; rfl⟩
/-- a value's truth -/
theorem eb_tru (h : EV te ρ d) (i : isTru d) : EB (fun σ H Q => te σ H fun x H' => ∃ k, TruV K x H' k ∧ Q k H') ρ (truD d) := fun c Z H σ s Q k => h c Z H σ s _ fun d' v H2 e g q => by
  subst e
  exact ⟨_, tru_d q i, k _ H2 rfl g⟩
theorem eb_not (h : EB tt ρ b) : EB (tNot tt) ρ (!b) := fun c Z H σ s Q k => h c Z H σ s _ fun b' H2 e g => k _ H2 (by rw [e]) g
theorem eb_and (h1 : EB tt ρ b) (h2 : b = true → EB tu ρ b') : EB (tAnd tt tu) ρ (b && b') := fun c Z H σ s Q k => h1 c Z H σ s _ fun b1 H1 e g => by
  subst e
  cases b1 with
  | true =>
    show tu σ H1 Q
    exact h2 rfl c Z H1 σ (s.to g) Q fun b2 H2 e2 g2 => k b2 H2 (by rw [e2]; rfl) (g.trans g2)
  | false =>
    show Q false H1
    exact k _ H1 rfl g
theorem eb_or (h1 : EB tt ρ b) (h2 : b = false → EB tu ρ b') : EB (tOr tt tu) ρ (b || b') := fun c Z H σ s Q k => h1 c Z H σ s _ fun b1 H1 e g => by
  subst e
  cases b1 with
  | false =>
    show tu σ H1 Q
    exact h2 rfl c Z H1 σ (s.to g) Q fun b2 H2 e2 g2 => k b2 H2 (by rw [e2]; rfl) (g.trans g2)
  | true =>
    show Q true H1
    exact k _ H1 rfl g
theorem eb_yes : EB tYes ρ true := fun c Z H σ s Q k => k true H rfl s.goR
theorem ev_and (h1 : EV ta ρ (B b)) (h2 : b = true → EV tb ρ (B b')) : EV (tAndV ta tb) ρ (B (b && b')) := fun c Z H σ s Q k => h1 c Z H σ s _ fun d v H1 e g q => by
  subst e
  have q' : v = .bl b := q
  refine ⟨b, q', ?_⟩
  cases b with
  | true =>
    show tb σ H1 Q
    exact h2 rfl c Z H1 σ (s.to g) Q fun b2 v2 H2 e2 g2 q2 => k b2 v2 H2 (by rw [e2]; rfl) (g.trans g2) q2
  | false =>
    show Q (.bl false) H1
    exact k _ _ H1 rfl g rfl
theorem ev_or (h1 : EV ta ρ (B b)) (h2 : b = false → EV tb ρ (B b')) : EV (tOrV ta tb) ρ (B (b || b')) := fun c Z H σ s Q k => h1 c Z H σ s _ fun d v H1 e g q => by
  subst e
  have q' : v = .bl b := q
  refine ⟨b, q', ?_⟩
  cases b with
  | false =>
    show tb σ H1 Q
    exact h2 rfl c Z H1 σ (s.to g) Q fun b2 v2 H2 e2 g2 q2 => k b2 v2 H2 (by rw [e2]; rfl) (g.trans g2) q2
  | true =>
    show Q (.bl true) H1
    exact k _ _ H1 rfl g rfl
theorem ev_not (h1 : EV ta ρ (B b)) : EV (tNotV ta) ρ (B (!b)) := fun c Z H σ s Q k => h1 c Z H σ s _ fun d v H1 e g q => by
  subst e
  exact ⟨b, q, k _ _ H1 rfl g rfl⟩
theorem ev_if (h : EB tt ρ b) (h1 : b = true → EV ta ρ d) (h2 : b = false → EV tb ρ d) : EV (tIf tt ta tb) ρ d := fun c Z H σ s Q k => h c Z H σ s _ fun b1 H1 e g => by
  subst e
  cases b1 with
  | true =>
    show ta σ H1 Q
    exact h1 rfl c Z H1 σ (s.to g) Q fun b2 v2 H2 e2 g2 q2 => k b2 v2 H2 e2 (g.trans g2) q2
  | false =>
    show tb σ H1 Q
    exact h2 rfl c Z H1 σ (s.to g) Q fun b2 v2 H2 e2 g2 q2 => k b2 v2 H2 e2 (g.trans g2) q2
theorem ev_chain (ha : EV ta ρ x) (hb : EV tb ρ y) (h1 : RD r x y (B b)) (hc : b = true → EV tc ρ z) (h2 : b = true → RD r' y z (B b')) : EV (tChain r r' ta tb tc) ρ (B (b && b')) := fun c Z H σ s Q k =>
  ha c Z H σ s _ fun x' vx H1 px g1 r1 => hb c Z H1 σ (s.to g1) _ fun y' vy H2 py g2 r2 => by
    subst px py
    refine h1 Z H2 vx vy ((s.to g1).to g2).dom (Rep.move g2.m _ _ r1) r2 _ fun v H3 e r3 => ?_
    have r3' : v = .bl b := r3
    have g3 : Go c Z H H3 := (g1.trans g2).x s e
    refine ⟨b, r3', ?_⟩
    cases b with
    | true =>
      show tc σ H3 fun w' H4 => r' vy w' H4 Q
      refine hc rfl c Z H3 σ (s.to g3) _ fun z' vz H4 pz g4 r4 => ?_
      subst pz
      exact h2 rfl Z H4 vy vz ((s.to g3).to g4).dom (Rep.move g4.m _ _ (Rep.move (Lt.ex e) _ _ r2)) r4 Q fun v5 H5 e5 r5 => k _ v5 H5 rfl ((g3.trans g4).x s e5) r5
    | false =>
      show Q (.bl false) H3
      exact k _ _ H3 rfl g3 rfl
theorem el_nil : EL tNil ρ [] := fun c Z H σ s Q k => k [] [] H rfl s.goR rfl
theorem el_cons (h : EV te ρ d) (ht : EL tr ρ ds) : EL (tCons te tr) ρ (d :: ds) := fun c Z H σ s Q k => h c Z H σ s _ fun d' v H1 e g r => ht c Z H1 σ (s.to g) _ fun ds' vs H2 e2 g2 r2 => by
  subst e e2
  exact k _ _ H2 rfl (g.trans g2) ⟨v, vs, rfl, Rep.move g2.m _ _ r, r2⟩
theorem ea_cons {A : List D → Prop} {A' : List D → Prop} (h : EE te ρ P) (ht : EA tr ρ A) (i : ∀ d ds, P d → A ds → A' (d :: ds)) : EA (tCons te tr) ρ A' := fun c Z H σ s Q k => h c Z H σ s _ fun d' v H1 e g r => ht c Z H1 σ (s.to g) _ fun ds' vs H2 e2 g2 r2 =>
  k _ _ H2 (i _ _ e e2) (g.trans g2) ⟨v, vs, rfl, Rep.move g2.m _ _ r, r2⟩
theorem sz {n : Nat} (h : n ≤ 100000) : n ≤ sizeLine := Nat.le_trans h (by decide)
theorem ee_tup {A : List D → Prop} (h : EA t ρ A) (i : ∀ ds, A ds → ds.length ≤ 100000 ∧ R (.t ds)) : EE (tTup t) ρ R := fun c Z H σ s Q k => h c Z H σ s _ fun ds vs H1 e g r => by
  obtain ⟨hl, hR⟩ := i ds e
  refine ⟨sz (by rw [r.len]; exact hl), fun p hp => ?_⟩
  have e : Ex H1 (upd H1 p (.tup vs)) := Ex.new hp
  exact k _ _ _ hR (g.x s e) ⟨p, vs, rfl, fun z => (s.to g).dom p z hp, upd_same, Reps.move (Lt.ex e) _ _ r⟩
theorem ev_tup (h : EL t ρ ds) (hl : ds.length ≤ 100000 := by decide) : EV (tTup t) ρ (.t ds) := ee_tup h fun ds' e => by rw [e]; exact ⟨hl, rfl⟩
theorem ef_lst {A : List D → Prop} (h : EA t ρ A) (i : ∀ ds, A ds → ds.length ≤ 100000) : EF (tLst t) ρ A := fun c Z H σ s Q k => h c Z H σ s _ fun ds vs H1 e g r =>
  ⟨sz (by rw [r.len]; exact i ds e), fun p hp => k ds vs H1 p e g hp r⟩
theorem ev_lst (h : EL t ρ ds) (hl : ds.length ≤ 100000 := by decide) : EV (tLst t) ρ (.l ds) := EF.ee (ef_lst h fun ds' e => by rw [e]; exact hl) fun _ e => by rw [e]
theorem ee_cb {u : List V → Hp → VK → Prop} {A : List D → Prop} (h : EA t ρ A) (hu : ∀ ds, A ds → ∃ z, R z ∧ CD u ds z) : EE (tCB u t) ρ R := fun c Z H σ s Q k => h c Z H σ s _ fun ds vs H1 e g r => by
  obtain ⟨z, hz, hr⟩ := hu ds e
  exact hr Z H1 vs (s.to g).dom r Q fun v H2 e r2 => k z v H2 hz (g.x s e) r2
theorem ev_cb {u : List V → Hp → VK → Prop} (h : EL t ρ ds) (hu : CD u ds z) : EV (tCB u t) ρ z := ee_cb h fun ds' e => ⟨z, rfl, by rw [e]; exact hu⟩
theorem ev_cb1 {u : List V → Hp → VK → Prop} (h : EV te ρ x) (hu : CD u [x] z) : EV (tCB u (tCons te tNil)) ρ z := ev_cb (el_cons h el_nil) hu
theorem eo_none : EO tNoPart ρ none := fun c Z H σ s Q k => k H s.goR
theorem eo_some {i : Int} (h : EV te ρ (I i)) : EO (tPart te) ρ (some i) := fun c Z H σ s Q k => h c Z H σ s _ fun d v H1 e g r => by
  subst e
  exact ⟨i, r, k H1 g⟩
theorem ev_sl {u : V → Option Int → Option Int → Hp → VK → Prop} {tl th : TO} {lo hi : Option Int} (h : EV te ρ x) (hl : EO tl ρ lo) (hh : EO th ρ hi) (hu : SD u x lo hi z) : EV (tSl u te tl th) ρ z := fun c Z H σ s Q k =>
  h c Z H σ s _ fun d v H1 e g r => hl c Z H1 σ (s.to g) _ fun H2 g2 => hh c Z H2 σ ((s.to g).to g2) _ fun H3 g3 => by
    subst e
    have g4 := (g.trans g2).trans g3
    exact hu Z H3 v (s.to g4).dom (Rep.move g3.m _ _ (Rep.move g2.m _ _ r)) Q fun w H4 e r4 => k z w H4 rfl (g4.x s e) r4
end
/-! ### calls of own defs -/
/-- a pure def: for the arguments A i, where ok i, it gives some d with O i d -/
def spP {ι : Type} (A : ι → List D) (ok : ι → Prop) (O : ι → D → Prop) : Sp := fun vs H Q _ => ∃ (Z : Addr → Prop) (i : ι), Dom Z H ∧ ok i ∧ Reps Z H (A i) vs ∧ ∀ d v H2, O i d → Ex H H2 → Rep Z H2 d v → Q v H2
/-- a def that draws from the stream, its first argument -/
def spS {ι : Type} (A : ι → List D) (ok : ι → Prop) (O : ι → D → Prop) : Sp := fun vs H Q _ => ∃ (Z : Addr → Prop) (i : ι) (q l : Addr) (ns : List Int) (ws : List V), Dom Z H ∧ ok i ∧ vs = .ref q :: ws ∧ Z q ∧ ¬ Z l ∧ StmOk q l ns H ∧ Reps Z H (A i) ws ∧
  ∀ d v H2, O i d → (∀ a o, a ≠ q → H a = some o → H2 a = some o) → StmOk q l ns H2 → Rep Z H2 d v → Q v H2
section
variable {ι : Type} {A : ι → List D} {ok : ι → Prop} {O : ι → D → Prop} {ρ : Rho} {t : TA} {E : XK}
theorem ee_call (i : ι) (hi : ok i) (h : EL t ρ (A i)) : EE (tCall (spP A ok O) [] E t) ρ (O i) := fun c Z H σ s Q k => h c Z H σ s _ fun ds vs H1 e g r => by
  subst e
  refine ⟨Z, i, (s.to g).dom, hi, by rw [List.append_nil]; exact r, fun d v H2 o e r2 => k d v H2 o (g.x s e) r2⟩
theorem ev_call {z : ι → D} (i : ι) (hi : ok i) (h : EL t ρ (A i)) : EV (tCall (spP A ok fun i d => d = z i) [] E t) ρ (z i) := ee_call i hi h
theorem ee_callA {P : List D → Prop} {R : D → Prop} (h : EA t ρ P) (hi : ∀ ds, P ds → ∃ i, ok i ∧ A i = ds ∧ ∀ d, O i d → R d) : EE (tCall (spP A ok O) [] E t) ρ R := fun c Z H σ s Q k => h c Z H σ s _ fun ds vs H1 e g r => by
  obtain ⟨i, h1, h2, h3⟩ := hi ds e
  subst h2
  exact ⟨Z, i, (s.to g).dom, h1, by rw [List.append_nil]; exact r, fun d v H2 o e r2 => k d v H2 (h3 d o) (g.x s e) r2⟩
theorem ee_callS {te : TE} {j : Nat} (i : ι) (hi : ok i) (hj : ρ[j]? = some .s) (h : EL t ρ (A i)) : EE (tCall (spS A ok O) [] E (tCons (tVar j) t)) ρ (O i) := fun c Z H σ s Q k => by
  obtain ⟨q, l, ns, e0, hq⟩ := s.strm j hj
  refine ⟨_, hq, ?_⟩
  refine h c Z H σ s _ fun ds vs H1 e g r => ?_
  subst e
  obtain ⟨h1, h2, h3⟩ := (s.to g).stm q l ns e0
  refine ⟨Z, i, q, l, ns, vs, (s.to g).dom, hi, by rw [List.append_nil], s.out _ h1, h2, h3, r, fun d v H2 o m st r2 => k d v H2 o (g.trans ⟨fun a u n e => ⟨n, m a u (fun z => n (by rw [z]; exact s.out _ h1)) e⟩, fun a u _ nq e => m a u (nq q l ns e0) e, fun q' l' ns' e1 => ?_⟩) r2⟩
  rw [e0] at e1
  cases e1
  exact st
end
end Dl

set_option maxRecDepth 100000
set_option maxHeartbeats 4000000
/-! Dl3: sources, comprehensions, statements, loops -/
namespace Dl
open PySem PySem.Spec PyProof.Rows L2
open Evl (Ex)
/-! ### what is walked: the items xs; b x tells the slots behind the binding of x; vs: the slots that it binds -/
def Walks {α : Type} (J : It) (g : TG) (vs : List Nat) (Z : Addr → Prop) (H1 : Hp) (xs : List α) (b : α → Rho → Rho) : Prop := ∀ (Z2 : Addr → Prop) (H2 : Hp), Lt Z H1 Z2 H2 →
  (∀ i, i < xs.length → J.go i H2) ∧ J.stop xs.length H2 ∧
  ∀ (i : Nat) (v : V) (H3 : Hp) (x : α), xs[i]? = some x → J.yld i H2 v H3 → ∀ (c2 : Cxt) (σ2 : L2.St) (ρ2 : Rho), SR c2 Z2 H2 σ2 ρ2 → ∀ Q : L2.St → Hp → Prop,
    (∀ σ3 H4, Ex H2 H4 → SR c2 Z2 H4 σ3 (b x ρ2) → σ3.length = σ2.length → (∀ k, k ∉ vs → σ3[k]? = σ2[k]?) → Q σ3 H4) → g v σ2 H3 Q
def Src {α : Type} (wi : TI) (g : TG) (vs : List Nat) (ρ : Rho) (xs : List α) (b : α → Rho → Rho) : Prop := ∀ (c : Cxt) (Z : Addr → Prop) (H : Hp) (σ : L2.St), SR c Z H σ ρ → ∀ R : It → Hp → Prop, (∀ J H1, Go c Z H H1 → Walks J g vs Z H1 xs b → R J H1) → wi σ H R
/-- one name bound -/
def bind1 {α : Type} (j : Nat) (f : α → D) : α → Rho → Rho := fun x ρ => ρ.set j (.d (f x))
def bind2 {α : Type} (j k : Nat) (f g : α → D) : α → Rho → Rho := fun x ρ => (ρ.set j (.d (f x))).set k (.d (g x))
section
variable {K : PySem.W.Frag} {ρ : Rho} {te : TE} {t : TA} {α : Type} {j : Nat}
theorem Reps.map_get {Z : Addr → Prop} {H : Hp} {f : α → D} {xs : List α} {vs : List V} (h : Reps Z H (xs.map f) vs) {i : Nat} {x : α} (e : xs[i]? = some x) : ∃ v, vs[i]? = some v ∧ Rep Z H (f x) v :=
  h.get (by rw [List.getElem?_map, e]; rfl)
theorem src_tup {xs : List α} {f : α → D} (h : EV te ρ (.t (xs.map f))) : Src (iTup K te) (gName j) [j] ρ xs (bind1 j f) := fun c Z H σ s R k => h c Z H σ s _ fun d v H1 e g r => by
  subst e
  obtain ⟨a, vs, rfl, n, h1, h2⟩ := r
  have hl : vs.length = xs.length := by rw [h2.len, List.length_map]
  refine ⟨a, rfl, ⟨vs, SqT.of h1⟩, k _ H1 g fun Z2 H2 m => ?_⟩
  obtain ⟨n2, e2⟩ := m a _ n h1
  refine ⟨fun i hi => ⟨vs, vs[i]'(by omega), SqT.of e2, by simp [show i < vs.length by omega]⟩, ⟨vs, SqT.of e2, by omega⟩, fun i v H3 x hx y c2 σ2 ρ2 s2 Q q => ?_⟩
  obtain ⟨rfl, y⟩ := y
  obtain ⟨u, hu, ru⟩ := Reps.map_get h2 hx
  have e3 := y vs (SqT.of e2)
  rw [hu] at e3
  cases e3
  exact q _ _ (fun _ _ h => h) (s2.setD j (Rep.move m _ _ ru)) (by rw [List.length_set]) fun k hk => List.getElem?_set_ne (by simpa using fun z => hk (by simp [z]))
theorem src_list {xs : List α} {f : α → D} (h : EV te ρ (.l (xs.map f))) : Src (iList K te) (gName j) [j] ρ xs (bind1 j f) := fun c Z H σ s R k => h c Z H σ s _ fun d v H1 e g r => by
  subst e
  obtain ⟨a, vs, rfl, n, h1, h2⟩ := r
  have hl : vs.length = xs.length := by rw [h2.len, List.length_map]
  refine ⟨a, rfl, ⟨vs, SqL.of h1⟩, k _ H1 g fun Z2 H2 m => ?_⟩
  obtain ⟨n2, e2⟩ := m a _ n h1
  refine ⟨fun i hi => ⟨vs, vs[i]'(by omega), SqL.of e2, by simp [show i < vs.length by omega]⟩, ⟨vs, SqL.of e2, by omega⟩, fun i v H3 x hx y c2 σ2 ρ2 s2 Q q => ?_⟩
  obtain ⟨rfl, y⟩ := y
  obtain ⟨u, hu, ru⟩ := Reps.map_get h2 hx
  have e3 := y vs (SqL.of e2)
  rw [hu] at e3
  cases e3
  exact q _ _ (fun _ _ h => h) (s2.setD j (Rep.move m _ _ ru)) (by rw [List.length_set]) fun k hk => List.getElem?_set_ne (by simpa using fun z => hk (by simp [z]))
/-- a tuple of pairs, both names bound -/
theorem src_pairs {xs : List α} {f f2 : α → D} {j2 : Nat} (h : EV te ρ (.t (xs.map fun x => .t [f x, f2 x]))) : Src (iTup K te) (gTup K 2 (gCons (gName j) (gCons (gName j2) gNil))) [j, j2] ρ xs (bind2 j j2 f f2) := fun c Z H σ s R k => h c Z H σ s _ fun d v H1 e g r => by
  subst e
  obtain ⟨a, vs, rfl, n, h1, h2⟩ := r
  have hl : vs.length = xs.length := by rw [h2.len, List.length_map]
  refine ⟨a, rfl, ⟨vs, SqT.of h1⟩, k _ H1 g fun Z2 H2 m => ?_⟩
  obtain ⟨n2, e2⟩ := m a _ n h1
  refine ⟨fun i hi => ⟨vs, vs[i]'(by omega), SqT.of e2, by simp [show i < vs.length by omega]⟩, ⟨vs, SqT.of e2, by omega⟩, fun i v H3 x hx y c2 σ2 ρ2 s2 Q q => ?_⟩
  obtain ⟨rfl, y⟩ := y
  obtain ⟨u, hu, ru⟩ := Reps.map_get (f := fun x => D.t [f x, f2 x]) h2 hx
  have e3 := y vs (SqT.of e2)
  rw [hu] at e3
  cases e3
  obtain ⟨b, ws, rfl, nb, hb, y1, ws1, rfl, r1, y2, ws2, rfl, r2, e4⟩ := Rep.move m _ _ ru
  have e5 : ws2 = [] := e4
  subst e5
  exact ⟨b, _, rfl, SqT.of hb, rfl, _, _, rfl, _, _, rfl, rfl, q _ _ (fun _ _ h => h) ((s2.setD j r1).setD j2 r2) (by rw [List.length_set, List.length_set]) fun k hk => by
    rw [List.getElem?_set_ne (by simpa using fun z => hk (by simp [z])), List.getElem?_set_ne (by simpa using fun z => hk (by simp [z]))]⟩
def rgL (lo n : Int) : List Int := (List.range (n - lo).toNat).map fun (i : Nat) => lo + (i : Int)
theorem rgL_get {lo n : Int} {i : Nat} {x : Int} (h : (rgL lo n)[i]? = some x) : x = lo + i := by
  unfold rgL at h
  rw [List.getElem?_map] at h
  cases e : (List.range (n - lo).toNat)[i]? with
  | none => rw [e] at h; cases h
  | some k =>
    rw [e] at h
    have e2 := List.getElem?_eq_some_iff.mp e
    obtain ⟨h1, h2⟩ := e2
    rw [List.getElem_range] at h2
    subst h2
    exact (Option.some.inj h).symm
theorem src_rng1 {n : Int} (h : EL t ρ [I n]) (hn : -100000 ≤ n ∧ n ≤ 100000) : Src (iRng1 t) (gName j) [j] ρ (rgL 0 n) (bind1 j I) := fun c Z H σ s R k => h c Z H σ s _ fun ds vs H1 e g r => by
  subst e
  obtain ⟨y, ys, rfl, e1, e2⟩ := r
  have e1 : y = .int n := e1
  have e2 : ys = [] := e2
  subst e1 e2
  refine ⟨n, rfl, by omega, by omega, k _ H1 g fun Z2 H2 m => ?_⟩
  have hl : (rgL 0 n).length = n.toNat := by unfold rgL; simp
  refine ⟨fun i hi => by rw [hl] at hi; exact hi, by rw [hl]; exact Nat.le_refl _, fun i v H3 x hx y c2 σ2 ρ2 s2 Q q => ?_⟩
  obtain ⟨rfl, rfl⟩ := y
  rw [rgL_get hx] at *
  exact q _ _ (fun _ _ h => h) (s2.setD j rfl) (by rw [List.length_set]) fun k hk => List.getElem?_set_ne (by simpa using fun z => hk (by simp [z]))
theorem src_rng2 {lo n : Int} (h : EL t ρ [I lo, I n]) (hn : (-100000 ≤ n ∧ n ≤ 100000) ∧ (-100000 ≤ lo ∧ lo ≤ 100000)) : Src (iRng2 t) (gName j) [j] ρ (rgL lo n) (bind1 j I) := fun c Z H σ s R k => h c Z H σ s _ fun ds vs H1 e g r => by
  subst e
  obtain ⟨y, ys, rfl, e1, y', ys', rfl, e2, e3⟩ := r
  have e1 : y = .int lo := e1
  have e2 : y' = .int n := e2
  have e3 : ys' = [] := e3
  subst e1 e2 e3
  refine ⟨lo, n, rfl, ⟨by omega, by omega, by omega, by omega⟩, k _ H1 g fun Z2 H2 m => ?_⟩
  have hl : (rgL lo n).length = (n - lo).toNat := by unfold rgL; simp
  refine ⟨fun i hi => by rw [hl] at hi; exact hi, by rw [hl]; exact Nat.le_refl _, fun i v H3 x hx y c2 σ2 ρ2 s2 Q q => ?_⟩
  obtain ⟨rfl, rfl⟩ := y
  rw [rgL_get hx] at *
  exact q _ _ (fun _ _ h => h) (s2.setD j rfl) (by rw [List.length_set]) fun k hk => List.getElem?_set_ne (by simpa using fun z => hk (by simp [z]))
end
/-! ### comprehensions -/
def wp (ρ : Rho) : List Nat → Rho
  | [] => ρ
  | v :: vs => (wp ρ vs).set v .un
theorem SR.wipe {c : Cxt} {Z : Addr → Prop} {H : Hp} {σ : L2.St} {ρ : Rho} (s : SR c Z H σ ρ) : ∀ vs : List Nat, SR c Z H (wipe σ vs) (wp ρ vs)
  | [] => s
  | v :: vs => (s.wipe vs).setU v none
theorem wipe_get (σ : L2.St) : ∀ (vs : List Nat) (k : Nat), (wipe σ vs)[k]? = if k ∈ vs ∧ k < σ.length then some none else σ[k]?
  | [], k => by simp [wipe]
  | v :: vs, k => by
    unfold wipe
    have ih := wipe_get σ vs k
    by_cases e : v = k
    · subst e
      by_cases hl : v < σ.length
      · rw [List.getElem?_set_self (by rw [wipe_length]; exact hl), if_pos ⟨by simp, hl⟩]
      · rw [List.getElem?_eq_none (by rw [List.length_set, wipe_length]; omega), if_neg (fun z => hl z.2), List.getElem?_eq_none (by omega)]
    · rw [List.getElem?_set_ne e, ih]
      have : (k ∈ v :: vs ∧ k < σ.length) ↔ (k ∈ vs ∧ k < σ.length) := by simp [Ne.symm e]
      simp only [this]
theorem wipe_same {σ σ3 : L2.St} {vs : List Nat} (hl : σ3.length = (wipe σ vs).length) (h : ∀ k, k ∉ vs → σ3[k]? = (wipe σ vs)[k]?) : wipe σ3 vs = wipe σ vs := by
  apply List.ext_getElem?
  intro k
  rw [wipe_length] at hl
  rw [wipe_get, wipe_get, hl]
  by_cases hk : k ∈ vs ∧ k < σ.length
  · rw [if_pos hk, if_pos hk]
  · rw [if_neg hk, if_neg hk]
    by_cases hv : k ∈ vs
    · have : ¬ k < σ.length := fun z => hk ⟨hv, z⟩
      rw [List.getElem?_eq_none (by omega), List.getElem?_eq_none (by omega)]
    · rw [h k hv, wipe_get, if_neg hk]
section
variable {ρ : Rho} {te : TE} {tt : TT} {α : Type} {wi : TI} {g : TG} {vs : List Nat} {xs : List α} {b : α → Rho → Rho}
theorem hideAt {c : Cxt} {Z : Addr → Prop} {H1 H' : Hp} {p : Addr} (g : Go c Z H1 H') (hp : H1 p = none) : Lt Z H1 (hide Z p) H' := fun a o n e => ⟨fun z => z.elim n (fun y => by rw [y, hp] at e; cases e), (g.m a o n e).2⟩
theorem SR.hideAt {c : Cxt} {Z : Addr → Prop} {H1 H' : Hp} {σ : L2.St} {ρ : Rho} {p : Addr} (s : SR c Z H1 σ ρ) (g : Go c Z H1 H') (hp : H1 p = none) (hp' : H' p ≠ none) : SR c (hide Z p) H' σ ρ := by
  have t := s.to g
  have m := Dl.hideAt g hp
  refine ⟨t.len, fun a ha => ha.elim (t.dom a) (fun z => by rw [z]; exact hp'), fun a ha => ha.elim (t.zin a) (fun z => by rw [z]; exact .inr (s.noP hp)), fun a ha => .inl (t.out a ha), t.zd, t.ex, fun q l ns e => ⟨(t.stm q l ns e).1, ?_, (t.stm q l ns e).2.2⟩, fun i d e => ?_, fun i ct e => ?_, t.inj, t.strm⟩
  · obtain ⟨_, h2, cc, k, a1, a2, a3, a4⟩ := s.stm q l ns e
    exact (m l _ h2 a4).1
  · obtain ⟨v, h1, h2⟩ := s.data i d e
    exact ⟨v, h1, Rep.move m _ _ h2⟩
  · obtain ⟨a, h1, h2, h3, h4⟩ := s.own i ct e
    refine ⟨a, h1, .inl h2, h3, h4.move m fun o ho => g.k a o h2 (fun q l ns e z => ?_) ho⟩
    rw [z] at h3
    exact s.zd _ (s.stm _ _ _ e).1 h3
/-- THE comprehension: I i acc holds behind i turns -/
theorem ef_lc (hs : Src wi g vs ρ xs b) (hl : xs.length ≤ 40000) (I : Nat → List D → Prop) (h0 : I 0 [])
    (ht : ∀ i x acc, xs[i]? = some x → I i acc → ∃ P : Bool → Prop, ET tt (b x (wp ρ vs)) P ∧ (P true → EE te (b x (wp ρ vs)) fun d => I (i + 1) (acc ++ [d])) ∧ (P false → I (i + 1) acc)) :
    EF (tLc wi g tt te vs) ρ (I xs.length) := fun c Z H σ s Q k => hs c Z H σ s _ fun J H1 g1 wk => by
  intro p hp
  have s1 := s.to g1
  have hq : ∀ q l ns, c.p = some (q, l, ns) → p ≠ q ∧ p ≠ l := fun q l ns e => by
    obtain ⟨_, _, cc, k, a1, a2, a3, a4⟩ := s1.stm q l ns e
    exact ⟨fun z => (by rw [← z, hp] at a3; cases a3), fun z => (by rw [← z, hp] at a4; cases a4)⟩
  -- the state within
  let W : Nat → Nat → Hp → Prop := fun i m H' => m = xs.length - i ∧ i ≤ xs.length ∧ ∃ acc ys, Go c Z H1 H' ∧ H' p = some (.lst ys) ∧ Reps (hide Z p) H' acc ys ∧ acc.length ≤ i ∧ I i acc
  refine ⟨W, ⟨xs.length, by simp, Nat.zero_le _, [], [], s1.goX (Ex.new hp), upd_same, rfl, Nat.le_refl _, h0⟩, ?_⟩
  rintro i m H' ⟨rfl, hi, acc, ys, g2, hD, rD, hacc, hI⟩
  have hp' : H' p ≠ none := by rw [hD]; exact fun z => nomatch z
  have m2 := hideAt g2 hp
  obtain ⟨w1, w2, w3⟩ := wk (hide Z p) H' m2
  by_cases hlt : i < xs.length
  · refine .inr ⟨w1 i hlt, fun H'' => ∃ m', m' < xs.length - i ∧ W (i + 1) m' H'', fun H'' h => h, fun v H3 y => ?_⟩
    have hx : xs[i]? = some xs[i] := by simp [hlt]
    have s2 : SR c (hide Z p) H' (wipe σ vs) (wp ρ vs) := (s1.wipe vs).hideAt g2 hp hp'
    refine w3 i v H3 xs[i] hx y c _ _ s2 _ fun σ3 H4 e4 s4 l4 k4 => ⟨wipe_same l4 k4, ?_⟩
    have g4 : Go c (hide Z p) H' H4 := s2.goX e4
    have pk : ∀ Ha : Hp, Go c (hide Z p) H' Ha → Ha p = some (.lst ys) := fun Ha ga => ga.k p _ (.inr rfl) (fun q l ns e => (hq q l ns e).1) hD
    have gk : ∀ Ha : Hp, Go c (hide Z p) H' Ha → Go c Z H1 Ha := fun Ha ga => ⟨fun a o n e => ⟨n, (ga.m a o (m2 a o n e).1 (m2 a o n e).2).2⟩, fun a o hz hq e => ga.k a o (.inl hz) hq (g2.k a o hz hq e), ga.st⟩
    obtain ⟨P, hT, hE, hF⟩ := ht i xs[i] acc hx hI
    refine hT c _ H4 σ3 s4 _ fun bb H5 hb g5 => ?_
    have g45 := g4.trans g5
    cases bb with
    | false =>
      rw [if_neg (by decide)]
      exact ⟨xs.length - (i + 1), by omega, rfl, hlt, acc, ys, gk _ g45, pk _ g45, Reps.move g45.m _ _ rD, by omega, hF hb⟩
    | true =>
      rw [if_pos rfl]
      refine hE hb c _ H5 σ3 (s4.to g5) _ fun d y H6 hd g6 r6 => ?_
      have g46 := g45.trans g6
      have rD6 := Reps.move g46.m _ _ rD
      have hlen : ys.length = acc.length := rD.len
      refine ⟨ys, pk _ g46, by rw [sizeLine_eq]; omega, xs.length - (i + 1), by omega, rfl, hlt, acc ++ [d], ys ++ [y], ?_, upd_same, ?_, by rw [List.length_append, List.length_singleton]; omega, hd⟩
      · have ga := gk _ g46
        refine ⟨fun a o n e => ⟨n, by rw [upd_ne (fun z => by rw [z, hp] at e; cases e)]; exact (ga.m a o n e).2⟩, fun a o hz hq e => by rw [upd_ne (fun z => by rw [z, hp] at e; cases e)]; exact ga.k a o hz hq e, fun q l ns e => ?_⟩
        obtain ⟨cc, kk, a1, a2, a3, a4⟩ := ga.st q l ns e
        exact ⟨cc, kk, a1, a2, by rw [upd_ne (fun z => (hq q l ns e).1 z.symm)]; exact a3, by rw [upd_ne (fun z => (hq q l ns e).2 z.symm)]; exact a4⟩
      · have m6 : Lt (hide Z p) H6 (hide Z p) (upd H6 p (.lst (ys ++ [y]))) := fun a o n e => ⟨n, by rw [upd_ne (fun z => n (.inr z))]; exact e⟩
        exact Reps.app (Reps.move m6 _ _ rD6) ⟨y, [], rfl, Rep.move m6 _ _ r6, rfl⟩
  · have e : i = xs.length := by omega
    subst e
    refine .inl ⟨w2, ?_⟩
    have eH : H' = upd (fun a => if a = p then none else H' a) p (.lst ys) := by
      funext a
      unfold upd
      by_cases ha : a = p
      · rw [if_pos ha, ha, hD]
      · rw [if_neg ha]
        show H' a = if a = p then none else H' a
        rw [if_neg ha]
    have ne : ∀ a o, H1 a = some o → a ≠ p := fun a o e z => by rw [z, hp] at e; cases e
    have gf : Go c Z H (fun a => if a = p then none else H' a) := g1.trans ⟨fun a o n e => ⟨n, by show (if a = p then none else H' a) = some o; rw [if_neg (ne a o e)]; exact (g2.m a o n e).2⟩, fun a o hz hq e => by show (if a = p then none else H' a) = some o; rw [if_neg (ne a o e)]; exact g2.k a o hz hq e, fun q l ns e => by
      obtain ⟨cc, kk, a1, a2, a3, a4⟩ := g2.st q l ns e
      exact ⟨cc, kk, a1, a2, by show (if q = p then none else H' q) = _; rw [if_neg (fun z => (hq q l ns e).1 z.symm)]; exact a3, by show (if l = p then none else H' l) = _; rw [if_neg (fun z => (hq q l ns e).2 z.symm)]; exact a4⟩⟩
    rw [eH]
    refine k acc ys _ p hI gf (if_pos rfl) (Reps.move (fun a o n e => ⟨fun z => n (.inl z), ?_⟩) _ _ rD)
    show (if a = p then none else H' a) = some o
    rw [if_neg (fun z => n (.inr z))]
    exact e
theorem take_succ_get {xs : List α} {i : Nat} {x : α} (h : xs[i]? = some x) : xs.take (i + 1) = xs.take i ++ [x] := by
  rw [List.take_succ, h]; rfl
/-- .. where all is determined -/
theorem ev_lc (hs : Src wi g vs ρ xs b) (p : α → Bool) (e : α → D) (ht : ∀ x ∈ xs, EB tt (b x (wp ρ vs)) (p x)) (he : ∀ x ∈ xs, p x = true → EV te (b x (wp ρ vs)) (e x)) (hl : xs.length ≤ 40000) :
    EV (tLc wi g tt te vs) ρ (.l ((xs.filter p).map e)) := by
  refine EF.ee (ef_lc hs hl (fun i acc => acc = ((xs.take i).filter p).map e) (by simp) fun i x acc hx hI => ⟨_, ht x (List.mem_of_getElem? hx), fun hp => (he x (List.mem_of_getElem? hx) hp.symm).imp fun d hd => ?_, fun hp => ?_⟩) fun ds e => ?_
  · rw [take_succ_get hx, List.filter_append, List.map_append, hI, hd, List.filter_cons, if_pos hp.symm]; rfl
  · rw [take_succ_get hx, List.filter_append, List.map_append, hI, List.filter_cons, if_neg (by rw [← hp]; decide)]; simp
  · rw [e, List.take_length]
theorem ev_lc0 (hs : Src wi g vs ρ xs b) (e : α → D) (he : ∀ x ∈ xs, EV te (b x (wp ρ vs)) (e x)) (hl : xs.length ≤ 40000) : EV (tLc wi g tYes te vs) ρ (.l (xs.map e)) := by
  have h := ev_lc (tt := tYes) hs (fun _ => true) e (fun _ _ => eb_yes) (fun x hx _ => he x hx) hl
  have e2 : xs.filter (fun _ => true) = xs := by simp
  rw [e2] at h
  exact h
end
/-! ### statements -/
inductive Oc where
  | nx (ρ : Rho) | rt (d : D) | bk (ρ : Rho) | ct (ρ : Rho)
structure Sat (c : Cxt) (Z : Addr → Prop) (H : Hp) (Dn : Ends) (Φ : Oc → Prop) : Prop where
  nx : ∀ ρ' Z' H' σ', Φ (.nx ρ') → Lt Z H Z' H' → SR c Z' H' σ' ρ' → Dn.nx σ' H'
  rt : ∀ d v H', Φ (.rt d) → (∀ a o, (∀ q l ns, c.p = some (q, l, ns) → a ≠ q) → c.H0 a = some o → H' a = some o) → (∀ q l ns, c.p = some (q, l, ns) → StmOk q l ns H') → Rep c.Z0 H' d v → Dn.rt v H'
  bk : ∀ ρ' Z' H' σ', Φ (.bk ρ') → Lt Z H Z' H' → SR c Z' H' σ' ρ' → Dn.bk σ' H'
  ct : ∀ ρ' Z' H' σ', Φ (.ct ρ') → Lt Z H Z' H' → SR c Z' H' σ' ρ' → Dn.ct σ' H'
theorem Sat.later {c : Cxt} {Z Z1 : Addr → Prop} {H H1 : Hp} {Dn : Ends} {Φ : Oc → Prop} (t : Sat c Z H Dn Φ) (m : Lt Z H Z1 H1) : Sat c Z1 H1 Dn Φ :=
  ⟨fun ρ' Z' H' σ' h m2 => t.nx ρ' Z' H' σ' h (m.trans m2), t.rt, fun ρ' Z' H' σ' h m2 => t.bk ρ' Z' H' σ' h (m.trans m2), fun ρ' Z' H' σ' h m2 => t.ct ρ' Z' H' σ' h (m.trans m2)⟩
def ES (ts : TS) (ρ : Rho) (Φ : Oc → Prop) : Prop := ∀ (c : Cxt) (Z : Addr → Prop) (H : Hp) (σ : L2.St) (Dn : Ends), SR c Z H σ ρ → Sat c Z H Dn Φ → ts Dn σ H
section
variable {K : PySem.W.Frag} {ρ ρ' : Rho} {Φ Ψ : Oc → Prop} {t u w : TS} {te : TE} {tt : TT} {ta : TA} {P : D → Prop} {d : D} {i : Nat} {b : Bool}
theorem ES.wkn (k : Wkn ρ ρ') (h : ES t ρ' Φ) : ES t ρ Φ := fun c Z H σ Dn s q => h c Z H σ Dn (s.wkn k) q
theorem ES.imp (h : ES t ρ Ψ) (i : ∀ o, Ψ o → Φ o) : ES t ρ Φ := fun c Z H σ Dn s q => h c Z H σ Dn s ⟨fun ρ' Z' H' σ' p => q.nx ρ' Z' H' σ' (i _ p), fun d v H' p => q.rt d v H' (i _ p), fun ρ' Z' H' σ' p => q.bk ρ' Z' H' σ' (i _ p), fun ρ' Z' H' σ' p => q.ct ρ' Z' H' σ' (i _ p)⟩
/-- one after another -/
theorem es_seq (h : ES t ρ Ψ) (k : ∀ o, Ψ o → match o with | .nx ρ' => ES u ρ' Φ | o => Φ o) : ES (tSeq t u) ρ Φ := fun c Z H σ Dn s q => h c Z H σ { Dn with nx := u Dn } s
  ⟨fun ρ' Z' H' σ' p m s' => k (.nx ρ') p c Z' H' σ' Dn s' (q.later m), fun d v H' p => q.rt d v H' (k (.rt d) p), fun ρ' Z' H' σ' p => q.bk ρ' Z' H' σ' (k (.bk ρ') p), fun ρ' Z' H' σ' p => q.ct ρ' Z' H' σ' (k (.ct ρ') p)⟩
theorem es_next (h : Φ (.nx ρ)) : ES tNext ρ Φ := fun c Z H σ Dn s q => q.nx ρ Z H σ h .refl s
theorem es_break (h : Φ (.bk ρ)) : ES tBreak ρ Φ := fun c Z H σ Dn s q => q.bk ρ Z H σ h .refl s
theorem es_cont (h : Φ (.ct ρ)) : ES tCont ρ Φ := fun c Z H σ Dn s q => q.ct ρ Z H σ h .refl s
theorem es_asg (h : EE te ρ P) (k : ∀ d, P d → Φ (.nx (ρ.set i (.d d)))) : ES (tAsg te (gName i)) ρ Φ := fun c Z H σ Dn s q => h c Z H σ s _ fun d v H2 p g r => q.nx _ Z H2 _ (k d p) g.m ((s.to g).setD i r)
theorem q_asgE (h : EE te ρ P) (k : ∀ d, P d → ES u (ρ.set i (.d d)) Φ) : ES (tSeq (tAsg te (gName i)) u) ρ Φ := es_seq (Ψ := fun o => ∃ d, P d ∧ o = .nx (ρ.set i (.d d))) (es_asg h fun d p => ⟨d, p, rfl⟩) fun o ⟨d, p, e⟩ => by subst e; exact k d p
theorem q_asg (h : EV te ρ d) (k : ES u (ρ.set i (.d d)) Φ) : ES (tSeq (tAsg te (gName i)) u) ρ Φ := q_asgE h fun d' e => by rw [e]; exact k
/-- a new own list -/
theorem es_own {A : List D → Prop} (h : EF te ρ A) (k : ∀ ds, A ds → Φ (.nx (ρ.set i (.o (.ls ds))))) : ES (tAsg te (gName i)) ρ Φ := fun c Z H σ Dn s q => h c Z H σ s _ fun ds xs H2 p hA g hp r =>
  q.nx _ _ _ _ (k ds hA) (g.m.trans ((lt_hide hp).trans (Lt.ex (Ex.new hp)))) ((s.to g).setO i hp ⟨xs, upd_same, Reps.move ((lt_hide hp).trans (Lt.ex (Ex.new hp))) _ _ r⟩)
theorem q_own {A : List D → Prop} (h : EF te ρ A) (k : ∀ ds, A ds → ES u (ρ.set i (.o (.ls ds))) Φ) : ES (tSeq (tAsg te (gName i)) u) ρ Φ := es_seq (Ψ := fun o => ∃ ds, A ds ∧ o = .nx (ρ.set i (.o (.ls ds)))) (es_own h fun d p => ⟨d, p, rfl⟩) fun o ⟨d, p, e⟩ => by subst e; exact k d p
/-- an own list becomes data -/
theorem es_freeze {ds : List D} (hi : ρ[i]? = some (.o (.ls ds))) (h : ES t (ρ.set i (.d (.l ds))) Φ) : ES t ρ Φ := fun c Z H σ Dn s q => by
  obtain ⟨Z', m, s'⟩ := s.freeze hi
  exact h c Z' H σ Dn s' (q.later m)
theorem es_ret (h : EE te (wk ρ) P) (k : ∀ d, P d → Φ (.rt d)) : ES (tRet te) ρ Φ := fun c Z H σ Dn s q => h _ _ H σ s.weak _ fun d v H2 p g r => by
  refine q.rt d v H2 (k d p) (fun a o hq e => ?_) g.st r
  have e1 := s.ex a o hq e
  by_cases h0 : c.Z0 a
  · exact g.k a o h0 hq e1
  · exact (g.m a o h0 e1).2
theorem s_ret (h : EV te (wk ρ) d) (k : Φ (.rt d)) : ES (tRet te) ρ Φ := es_ret h fun d' e => by rw [e]; exact k
theorem es_if {P : Bool → Prop} (h : ET tt ρ P) (h1 : P true → ES t ρ Φ) (h2 : P false → ES u ρ Φ) : ES (tIfS tt t u) ρ Φ := fun c Z H σ Dn s q => h c Z H σ s _ fun b H1 p g => by
  cases b with
  | true =>
    show t Dn σ H1
    exact h1 p c Z H1 σ Dn (s.to g) (q.later g.m)
  | false =>
    show u Dn σ H1
    exact h2 p c Z H1 σ Dn (s.to g) (q.later g.m)
theorem s_if (h : EB tt ρ b) (h1 : b = true → ES t ρ Φ) (h2 : b = false → ES u ρ Φ) : ES (tIfS tt t u) ρ Φ := es_if h (fun e => h1 e.symm) (fun e => h2 e.symm)
theorem q_ifE {P : Bool → Prop} (h : ET tt ρ P) (h1 : P true → ES (tSeq t w) ρ Φ) (h2 : P false → ES (tSeq u w) ρ Φ) : ES (tSeq (tIfS tt t u) w) ρ Φ := fun c Z H σ Dn s q => h c Z H σ s _ fun b H1 p g => by
  cases b with
  | true =>
    show (tSeq t w) Dn σ H1
    exact h1 p c Z H1 σ Dn (s.to g) (q.later g.m)
  | false =>
    show (tSeq u w) Dn σ H1
    exact h2 p c Z H1 σ Dn (s.to g) (q.later g.m)
theorem q_if (h : EB tt ρ b) (h1 : b = true → ES (tSeq t w) ρ Φ) (h2 : b = false → ES (tSeq u w) ρ Φ) : ES (tSeq (tIfS tt t u) w) ρ Φ := q_ifE h (fun e => h1 e.symm) (fun e => h2 e.symm)
theorem q_ret (h : ES (tRet te) ρ Φ) : ES (tSeq (tRet te) w) ρ Φ := fun c Z H σ Dn s q => h c Z H σ Dn s q
/-- if A: return .. ; rest -/
theorem q_ifr (h : EB tt ρ b) (h1 : b = true → ES (tRet te) ρ Φ) (h2 : b = false → ES w ρ Φ) : ES (tSeq (tIfS tt (tRet te) tNext) w) ρ Φ := fun c Z H σ Dn s q => h c Z H σ s _ fun b' H1 p g => by
  cases b' with
  | true =>
    show (tRet te) Dn σ H1
    exact h1 p.symm c Z H1 σ Dn (s.to g) (q.later g.m)
  | false =>
    show w Dn σ H1
    exact h2 p.symm c Z H1 σ Dn (s.to g) (q.later g.m)
theorem q_next (h : ES w ρ Φ) : ES (tSeq tNext w) ρ Φ := h
/-- xs.append(e), xs.extend(es), xs an own list -/
theorem es_app {ds : List D} (hi : ρ[i]? = some (.o (.ls ds))) (h : EE te ρ P) (hl : ds.length < 100000) (k : ∀ d, P d → Φ (.nx (ρ.set i (.o (.ls (ds ++ [d])))))) : ES (tDrop (tBM K "list" rAppend (tVar i) (tCons te tNil))) ρ Φ := fun c Z H σ Dn s q => by
  obtain ⟨a, h1, h2, h3, xs, h4, h5⟩ := s.own i _ hi
  refine ⟨.ref a, h1, .inl ⟨rfl, xs, .inl (.inl h4)⟩, h c Z H σ s _ fun d v H2 p g r => ?_⟩
  have na : ∀ q l ns, c.p = some (q, l, ns) → a ≠ q := fun q l ns e z => by rw [z] at h3; exact s.zd _ (s.stm _ _ _ e).1 h3
  have e4 := g.k a _ h2 na h4
  have s2 := s.to g
  have m3 := lt_own (o := .lst (xs ++ [v])) s2 hi h1
  exact ⟨a, xs, v, rfl, rfl, e4, by rw [h5.len, sizeLine_eq]; omega, q.nx _ Z _ σ (k d p) (g.m.trans m3) (s2.mut hi h1 ⟨_, upd_same, Reps.app (Reps.move m3 _ _ (Reps.move g.m _ _ h5)) ⟨v, [], rfl, Rep.move m3 _ _ r, rfl⟩⟩)⟩
theorem q_app {ds : List D} (hi : ρ[i]? = some (.o (.ls ds))) (h : EE te ρ P) (hl : ds.length < 100000) (k : ∀ d, P d → ES u (ρ.set i (.o (.ls (ds ++ [d])))) Φ) : ES (tSeq (tDrop (tBM K "list" rAppend (tVar i) (tCons te tNil))) u) ρ Φ :=
  es_seq (Ψ := fun o => ∃ d, P d ∧ o = .nx (ρ.set i (.o (.ls (ds ++ [d]))))) (es_app hi h hl fun d p => ⟨d, p, rfl⟩) fun o ⟨d, p, e⟩ => by subst e; exact k d p
theorem es_ext {ds : List D} {xs : List V} (hi : ρ[i]? = some (.o (.ls ds))) (h : EV te (wk ρ) (.l (flats xs))) (hl : ds.length + xs.length < 100000) (k : Φ (.nx (ρ.set i (.o (.ls (ds ++ flats xs)))))) : ES (tDrop (tBM K "list" rExtend (tVar i) (tCons te tNil))) ρ Φ := fun c Z H σ Dn s q => by
  obtain ⟨a, h1, h2, h3, ys, h4, h5⟩ := s.own i _ hi
  refine ⟨.ref a, h1, .inl ⟨rfl, ys, .inl (.inl h4)⟩, h _ _ H σ s.weak _ fun d v H2 p g r => ?_⟩
  subst p
  have na : ∀ q l ns, c.p = some (q, l, ns) → a ≠ q := fun q l ns e z => by rw [z] at h3; exact s.zd _ (s.stm _ _ _ e).1 h3
  have g' : Go c Z H H2 := ⟨fun a o n e => ⟨n, (g.m a o (fun z => n (s.out a z)) e).2⟩, fun a o hz hq e => by
    by_cases h0 : c.Z0 a
    · exact g.k a o h0 hq e
    · exact (g.m a o h0 e).2, g.st⟩
  have e4 := g'.k a _ h2 na h4
  have s2 := s.to g'
  obtain ⟨bb, zs, rfl, nb, hb, rb⟩ := r
  have ez := Reps.flats.mp rb
  subst ez
  have m3 := lt_own (o := .lst (ys ++ zs)) s2 hi h1
  exact ⟨a, bb, ys, zs, rfl, rfl, e4, hb, by rw [h5.len, sizeLine_eq]; omega, q.nx _ Z _ σ k (g'.m.trans m3) (s2.mut hi h1 ⟨_, upd_same, Reps.app (Reps.move m3 _ _ (Reps.move g'.m _ _ h5)) (Reps.flats.mpr rfl)⟩)⟩
end
end Dl

set_option maxRecDepth 100000
set_option maxHeartbeats 4000000
/-! Dl4: loops, defs -/
namespace Dl
open PySem PySem.Spec PyProof.Rows L2
open Evl (Ex)
section
variable {K : PySem.W.Frag} {ρ : Rho} {Φ : Oc → Prop} {t u : TS} {tt : TT} {α β : Type} {wi : TI} {g : TG} {vs : List Nat} {xs : List α} {b : α → Rho → Rho}
/-- THE for: R s are the slots at the state s, I i s holds behind i turns -/
theorem es_for (hs : Src wi g vs ρ xs b) (R : β → Rho) (I : Nat → β → Prop) (h0 : ∃ s, I 0 s ∧ Wkn ρ (R s))
    (ht : ∀ i x s, xs[i]? = some x → I i s → ES t (b x (R s)) fun o => match o with | .nx ρ2 => ∃ s', I (i + 1) s' ∧ Wkn ρ2 (R s') | .ct ρ2 => ∃ s', I (i + 1) s' ∧ Wkn ρ2 (R s') | .bk ρ2 => Φ (.nx ρ2) | .rt d => Φ (.rt d))
    (fin : ∀ s, I xs.length s → Φ (.nx (R s))) : ES (tFor wi g t) ρ Φ := fun c Z H σ Dn s q => hs c Z H σ s _ fun J H1 g1 wk => by
  let W : Nat → Nat → L2.St → Hp → Prop := fun i m σ' H' => m = xs.length - i ∧ i ≤ xs.length ∧ ∃ z Z', I i z ∧ Lt Z H1 Z' H' ∧ SR c Z' H' σ' (R z)
  obtain ⟨z0, i0, w0⟩ := h0
  refine ⟨W, ⟨xs.length, by simp, Nat.zero_le _, z0, Z, i0, .refl, (s.to g1).wkn w0⟩, ?_⟩
  rintro i m σ' H' ⟨rfl, hi, z, Z', hI, m2, s2⟩
  obtain ⟨w1, w2, w3⟩ := wk Z' H' m2
  by_cases hlt : i < xs.length
  · refine .inr ⟨w1 i hlt, fun σ'' H'' => ∃ m', m' < xs.length - i ∧ W (i + 1) m' σ'' H'', fun _ _ h => h, fun v H3 y => ?_⟩
    have hx : xs[i]? = some xs[i] := by simp [hlt]
    refine w3 i v H3 xs[i] hx y c _ _ s2 _ fun σ3 H4 e4 s4 _ _ => ?_
    have m4 : Lt Z H1 Z' H4 := m2.trans (Lt.ex e4)
    have mb : Lt Z H Z' H4 := g1.m.trans m4
    refine ht i xs[i] z hx hI c Z' H4 σ3 _ s4 ⟨fun ρ' Z5 H5 σ5 p m5 s5 => ?_, fun d v H5 p => q.rt d v H5 p, fun ρ' Z5 H5 σ5 p m5 s5 => q.nx ρ' Z5 H5 σ5 p (mb.trans m5) s5, fun ρ' Z5 H5 σ5 p m5 s5 => ?_⟩
    · obtain ⟨z', i', w'⟩ := p
      exact ⟨xs.length - (i + 1), by omega, rfl, hlt, z', Z5, i', m4.trans m5, s5.wkn w'⟩
    · obtain ⟨z', i', w'⟩ := p
      exact ⟨xs.length - (i + 1), by omega, rfl, hlt, z', Z5, i', m4.trans m5, s5.wkn w'⟩
  · have e : i = xs.length := by omega
    subst e
    exact .inl ⟨w2, q.nx (R z) Z' H' σ' (fin z hI) (g1.m.trans m2) s2⟩
/-- all is determined: a fold -/
theorem es_forF (hs : Src wi g vs ρ xs b) (R : β → Rho) (f : β → α → β) (s0 : β) (h0 : Wkn ρ (R s0))
    (ht : ∀ i x, xs[i]? = some x → ES t (b x (R ((xs.take i).foldl f s0))) fun o => match o with | .nx ρ2 => Wkn ρ2 (R (f ((xs.take i).foldl f s0) x)) | .ct ρ2 => Wkn ρ2 (R (f ((xs.take i).foldl f s0) x)) | _ => False)
    (fin : Φ (.nx (R (xs.foldl f s0)))) : ES (tFor wi g t) ρ Φ :=
  es_for hs R (fun i s => s = (xs.take i).foldl f s0) ⟨s0, by simp, h0⟩ (fun i x s hx hI => by
    subst hI
    refine (ht i x hx).imp fun o ho => ?_
    have e : (xs.take (i + 1)).foldl f s0 = f ((xs.take i).foldl f s0) x := by rw [take_succ_get hx, List.foldl_append]; rfl
    cases o with
    | nx ρ2 => exact ⟨_, rfl, by rw [e]; exact ho⟩
    | ct ρ2 => exact ⟨_, rfl, by rw [e]; exact ho⟩
    | bk ρ2 => exact ho.elim
    | rt d => exact ho.elim) (fun s hI => by rw [hI, List.take_length]; exact fin)
/-- a search: f x tells what a turn returns, if it does -/
theorem es_forS (hs : Src wi g vs ρ xs b) (ρ0 : Rho) (f : α → Option D) (h0 : Wkn ρ ρ0)
    (ht : ∀ x, x ∈ xs → ES t (b x ρ0) fun o => match o with | .nx ρ2 => f x = none ∧ Wkn ρ2 ρ0 | .ct ρ2 => f x = none ∧ Wkn ρ2 ρ0 | .rt d => f x = some d | .bk _ => False)
    (fin : xs.findSome? f = none → Φ (.nx ρ0)) (got : ∀ d, xs.findSome? f = some d → Φ (.rt d)) : ES (tFor wi g t) ρ Φ :=
  es_for hs (fun _ : Unit => ρ0) (fun i _ => (xs.take i).findSome? f = none) ⟨(), by simp, h0⟩ (fun i x s hx hI => by
    refine (ht x (List.mem_of_getElem? hx)).imp fun o ho => ?_
    have e : (xs.take (i + 1)).findSome? f = f x := by rw [take_succ_get hx, List.findSome?_append, hI]; simp
    cases o with
    | nx ρ2 => exact ⟨(), by rw [e]; exact ho.1, ho.2⟩
    | ct ρ2 => exact ⟨(), by rw [e]; exact ho.1, ho.2⟩
    | bk ρ2 => exact ho.elim
    | rt d =>
      refine got d ?_
      have e2 : xs = xs.take (i + 1) ++ xs.drop (i + 1) := (List.take_append_drop _ _).symm
      have ho' : f x = some d := ho
      rw [e2, List.findSome?_append, e, ho']
      rfl) (fun s hI => fin (by rw [List.take_length] at hI; exact hI))
/-- THE while: by fuel -/
theorem es_while (R : β → Rho) (I : Nat → β → Prop) (n0 : Nat) (s0 : β) (h0 : I n0 s0) (w0 : Wkn ρ (R s0))
    (ht : ∀ n s, I n s → ∃ bb, EB tt (R s) bb ∧ (bb = true → ES t (R s) fun o => match o with | .nx ρ2 => ∃ n' s', n' < n ∧ I n' s' ∧ Wkn ρ2 (R s') | .ct ρ2 => ∃ n' s', n' < n ∧ I n' s' ∧ Wkn ρ2 (R s') | .bk ρ2 => Φ (.nx ρ2) | .rt d => Φ (.rt d)) ∧ (bb = false → Φ (.nx (R s)))) :
    ES (tWhile tt t) ρ Φ := fun c Z H σ Dn s q => by
  refine ⟨fun m σ' H' => ∃ z Z', I m z ∧ Lt Z H Z' H' ∧ SR c Z' H' σ' (R z), ⟨n0, s0, Z, h0, .refl, s.wkn w0⟩, ?_⟩
  rintro m σ' H' ⟨z, Z', hI, m2, s2⟩
  obtain ⟨bb, hb, h1, h2⟩ := ht m z hI
  refine hb c Z' H' σ' s2 _ fun b' H3 e g => ?_
  subst e
  have m3 := m2.trans g.m
  cases b' with
  | true =>
    rw [if_pos rfl]
    refine ⟨fun σ'' H'' => ∃ m', m' < m ∧ ∃ z Z', I m' z ∧ Lt Z H Z' H'' ∧ SR c Z' H'' σ'' (R z), fun _ _ h => h, ?_⟩
    refine h1 rfl c Z' H3 σ' _ (s2.to g) ⟨fun ρ' Z5 H5 σ5 p m5 s5 => ?_, fun d v H5 p => q.rt d v H5 p, fun ρ' Z5 H5 σ5 p m5 s5 => q.nx ρ' Z5 H5 σ5 p (m3.trans m5) s5, fun ρ' Z5 H5 σ5 p m5 s5 => ?_⟩
    · obtain ⟨n', z', hn, i', w'⟩ := p
      exact ⟨n', hn, z', Z5, i', m3.trans m5, s5.wkn w'⟩
    · obtain ⟨n', z', hn, i', w'⟩ := p
      exact ⟨n', hn, z', Z5, i', m3.trans m5, s5.wkn w'⟩
  | false =>
    rw [if_neg (by decide)]
    exact q.nx (R z) Z' H3 σ' (h2 rfl) m3 (s2.to g)
end
/-! ### defs -/
def ini (N : List Str) (A : List D) : Rho := A.map Sl.d ++ List.replicate (N.length - A.length) .un
def iniS (N : List Str) (A : List D) : Rho := .s :: (A.map Sl.d ++ List.replicate (N.length - (A.length + 1)) .un)
/-- what is wanted behind a body -/
def Got (P : D → Prop) : Oc → Prop
  | .rt d => P d
  | .nx _ => P (.v .non)
  | _ => False
theorem ini_data {Z : Addr → Prop} {H : Hp} {N : List Str} : ∀ {A : List D} {vs : List V}, Reps Z H A vs → ∀ (i : Nat) (d : D), (ini N A)[i]? = some (.d d) → ∃ v, (L2.start N vs)[i]? = some (some v) ∧ Rep Z H d v := by
  intro A vs h i d e
  unfold ini at e
  unfold L2.start
  by_cases hi : i < A.length
  · rw [List.getElem?_append_left (by simpa using hi), List.getElem?_map] at e
    cases q : A[i]? with
    | none => rw [q] at e; cases e
    | some d' =>
      rw [q] at e
      obtain ⟨v, h1, h2⟩ := h.get q
      refine ⟨v, ?_, by cases (Sl.d.inj (Option.some.inj e)); exact h2⟩
      rw [List.getElem?_append_left (by rw [List.length_map, h.len]; exact hi), List.getElem?_map, h1]
      rfl
  · rw [List.getElem?_append_right (by simpa using Nat.le_of_not_lt hi)] at e
    have := List.mem_of_getElem? e
    rw [List.mem_replicate] at this
    cases this.2
theorem ini_un {N : List Str} {A : List D} {i : Nat} {x : Sl} (e : (ini N A)[i]? = some x) : x = .un ∨ ∃ d, x = .d d := by
  unfold ini at e
  have := List.mem_of_getElem? e
  rcases List.mem_append.mp this with h | h
  · obtain ⟨d, _, e⟩ := List.mem_map.mp h
    exact .inr ⟨d, e.symm⟩
  · exact .inl (List.mem_replicate.mp h).2
theorem ini_sr {Z : Addr → Prop} {H : Hp} {N : List Str} {A : List D} {vs : List V} (dm : Dom Z H) (h : Reps Z H A vs) (hl : A.length ≤ N.length) : SR ⟨H, Z, none⟩ Z H (L2.start N vs) (ini N A) where
  len := by
    unfold L2.start ini
    simp only [List.length_append, List.length_map, List.length_replicate]
    rw [h.len]
  dom := dm
  zin := fun a ha => .inl ha
  out := fun a ha => ha
  zd := dm
  ex := fun a o _ e => e
  stm := fun q l ns e => nomatch e
  data := ini_data h
  own := fun i ct e => by rcases ini_un e with z | ⟨d, z⟩ <;> cases z
  inj := fun i j ct cu a e => by rcases ini_un e with z | ⟨d, z⟩ <;> cases z
  strm := fun i e => by rcases ini_un e with z | ⟨d, z⟩ <;> cases z
abbrev FnP (K : PySem.W.Frag) (x : Str) (st : Stmt) (f : Addr) (fd : FuncData) : Prop := FunD K x x (defArgs st) (defBody st) (defScope st) [] [] f fd
section
variable {P : Program} {w : World} {K : PySem.W.Frag} {mg : Str → Option Value} {base : Heap} {ι : Type} {A : ι → List D} {ok : ι → Prop} {O : ι → D → Prop}
/-- a pure def -/
theorem okP {x : Str} {st : Stmt} {f : Addr} {fd : FuncData} {N ps : List Str} {k : Nat} (F : FnP K x st f fd) (S : FnScope N ps (defScope st)) (hA : ∀ i, (A i).length = ps.length) (hN : ps.length ≤ N.length)
    (hb : ∀ (cdv : Value) (A' : Around) (outer : List Env) (s : Shared) (H : Hp) (E : XK), Room k (A'.deeper (envOfC x (defScope st) s.heap.objs.size f cdv)) →
      ∃ t, PSs (cxOf CX0 P w K mg base N x (defScope st) f cdv A' outer s H E).nox (defBody st) t ∧ ∀ i, ok i → ES t (ini N (A i)) (Got (O i))) : FnOk P w K mg base CX0 (k + 1) f fd ps (spP A ok O) := by
  refine F.ok S (fun vs H Q E h => ?_) (fun cdv A' outer s H vs Q E hr h => ?_)
  · obtain ⟨Z, i, _, _, r, _⟩ := h
    rw [r.len, hA]
  · obtain ⟨t, h1, h2⟩ := hb cdv A' outer s H E hr
    obtain ⟨Z, i, dm, hi, r, k⟩ := h
    refine ⟨t, h1.nox, h2 i hi _ Z H _ _ (ini_sr dm r (by rw [hA]; exact hN)) ⟨fun ρ' Z' H' σ' p m s' => ?_, fun d v H' p e _ rr => k d v H' p (fun a o h => e a o (fun _ _ _ z => nomatch z) h) rr, fun ρ' Z' H' σ' p => p.elim, fun ρ' Z' H' σ' p => p.elim⟩⟩
    exact k _ _ H' p (fun a o h => s'.ex a o (fun _ _ _ z => nomatch z) h) rfl
/-- a def that draws -/
theorem okS {x : Str} {st : Stmt} {f : Addr} {fd : FuncData} {N ps : List Str} {k : Nat} (F : FnP K x st f fd) (S : FnScope N ps (defScope st)) (hA : ∀ i, (A i).length + 1 = ps.length) (hN : ps.length ≤ N.length)
    (hb : ∀ (cdv : Value) (A' : Around) (outer : List Env) (s : Shared) (H : Hp) (E : XK), Room k (A'.deeper (envOfC x (defScope st) s.heap.objs.size f cdv)) →
      ∃ t, PSs (cxOf CX0 P w K mg base N x (defScope st) f cdv A' outer s H E).nox (defBody st) t ∧ ∀ i, ok i → ES t (iniS N (A i)) (Got (O i))) : FnOk P w K mg base CX0 (k + 1) f fd ps (spS A ok O) := by
  refine F.ok S (fun vs H Q E h => ?_) (fun cdv A' outer s H vs Q E hr h => ?_)
  · obtain ⟨Z, i, q, l, ns, ws, _, _, rfl, _, _, _, r, _⟩ := h
    rw [List.length_cons, r.len, hA]
  · obtain ⟨t, h1, h2⟩ := hb cdv A' outer s H E hr
    obtain ⟨Z, i, q, l, ns, ws, dm, hi, rfl, zq, zl, st0, r, k⟩ := h
    have hA1 := hA i
    have g : SR ⟨H, Z, some (q, l, ns)⟩ Z H (L2.start N (.ref q :: ws)) (iniS N (A i)) := by
      have ei : ∀ j, (iniS N (A i))[j + 1]? = (ini (N.drop 1) (A i))[j]? := fun j => by
        unfold iniS ini
        rw [List.getElem?_cons_succ, List.length_drop]
        congr 3
        omega
      have es : ∀ j, (L2.start N (.ref q :: ws))[j + 1]? = (L2.start (N.drop 1) ws)[j]? := fun j => by
        unfold L2.start
        rw [List.map_cons, List.cons_append, List.getElem?_cons_succ, List.length_drop, List.length_cons]
        congr 3
        omega
      refine ⟨?_, dm, fun a ha => .inl ha, fun a ha => ha, dm, fun a o _ e => e, fun q' l' ns' e => ?_, fun j d e => ?_, fun j ct e => ?_, fun j1 j2 ct cu a e => ?_, fun j e => ?_⟩
      · unfold L2.start iniS
        simp only [List.length_cons, List.length_append, List.length_map, List.length_replicate]
        rw [r.len]
        omega
      · cases e; exact ⟨zq, zl, st0⟩
      · cases j with
        | zero => cases e
        | succ j =>
          rw [ei] at e
          rw [es]
          exact ini_data r j d e
      · cases j with
        | zero => cases e
        | succ j => rw [ei] at e; rcases ini_un e with z | ⟨d, z⟩ <;> cases z
      · cases j1 with
        | zero => cases e
        | succ j => rw [ei] at e; rcases ini_un e with z | ⟨d, z⟩ <;> cases z
      · cases j with
        | zero => exact ⟨q, l, ns, rfl, rfl⟩
        | succ j => rw [ei] at e; rcases ini_un e with z | ⟨d, z⟩ <;> cases z
    have kk : ∀ H' : Hp, (∀ a o, (∀ q' l' ns', (some (q, l, ns) : Option (Addr × Addr × List Int)) = some (q', l', ns') → a ≠ q') → H a = some o → H' a = some o) → ∀ a o, a ≠ q → H a = some o → H' a = some o := fun H' h a o n => h a o (fun _ _ _ e => by cases e; exact n)
    refine ⟨t, h1.nox, h2 i hi _ Z H _ _ g ⟨fun ρ' Z' H' σ' p m s' => ?_, fun d v H' p e st1 rr => k d v H' p (kk H' e) (st1 q l ns rfl) rr, fun ρ' Z' H' σ' p => p.elim, fun ρ' Z' H' σ' p => p.elim⟩⟩
    exact k _ _ H' p (kk H' s'.ex) (s'.stm q l ns rfl).2.2 rfl
end
end Dl

set_option maxRecDepth 100000
set_option maxHeartbeats 4100000
/-! Dr: rules that the layer lacks: enumerate over a tuple, set of a list of ints, sorted of a tuple of ints -/
namespace PySem
open Sem (wp)
set_option maxHeartbeats 1300000 in
theorem meets_enumerate_newB1 {v : Value} {o : Obj} {H : Heap → Prop} (B : Begins v o H) :
    Meets (Builtin.«enumerate.__new__» ⟨[.type "enumerate", v], []⟩) (fun _ R s => H s.heap ∧
      R (.ok (.ret (.ref (s.heap.push o).objs.size))) { s with heap := (s.heap.push o).push { cls := .type "enumerate", data := .fields #[.none, .bool false, .ref s.heap.objs.size, rawInt 0, .none, .none] } }) :=
  .of_wp fun prog w A R s hgoal => by
    obtain ⟨hp, g, d, tk, os⟩ := s; obtain ⟨h1, h⟩ := hgoal
    have sU := sub_enumerate
    have qI : ∀ {A' : Around} {E : Value → Shared → Prop} {Q : Value → Shared → Prop}, Q (.ref hp.objs.size) ⟨hp.push o, g, d, tk, os⟩ → wpAny (model prog w) A' (pyIter v) Q E ⟨hp, g, d, tk, os⟩ :=
      fun post => B.iter prog w _ _ ⟨hp, g, d, tk, os⟩ _ h1 post
    wp_walk using qI
    refine wpAny_stack_any fun st => wpAny_pure ?_; split
    · rename_i c _ _ _ _ _
      cases isE : (c == Value.type "enumerate")
      · wp_walk using qI
        exact ⟨_, rfl, h⟩
      · wp_walk using qI
        exact ⟨_, rfl, h⟩
    · wp_walk using qI
      exact ⟨_, rfl, h⟩
section
variable {w : World} {A : Around} {s : Shared} {prog : Program} {E : Value → Shared → Prop}
/-- enumerate(v): us0 two nw cells -/
theorem enum_begins1 {v : Value} {o : Obj} {H : Heap → Prop} {Q : Value → Shared → Prop} (B : Begins v o H) (h1 : H s.heap)
    (h : ∀ h', IsEnum h' (s.heap.objs.size + 1) s.heap.objs.size 0 .none → h'.get? s.heap.objs.size = some o → h'.objs.size = s.heap.objs.size + 2 → (∀ b o, s.heap.get? b = some o → h'.get? b = some o) → Q (.ref (s.heap.objs.size + 1)) { s with heap := h' }) :
    wpAny (model prog w) A (call (.type "enumerate") [v]) Q E s := by
  refine callType_new F.called_enumerate (by decide) (F.typeCall_enumerate_1 _) (F.newCall_enumerate_1 _) (fun obj => F.args_object_init_2 obj _) F.entry_enumerate_new (meets_enumerate_newB1 B) ⟨h1, ?_⟩
  have zS : (s.heap.push o).objs.size = s.heap.objs.size + 1 := Heap.size_push ..
  show _ ∧ _
  rw [zS]
  have hE : IsEnum ((s.heap.push o).push { cls := .type "enumerate", data := .fields #[.none, .bool false, .ref s.heap.objs.size, rawInt 0, .none, .none] }) (s.heap.objs.size + 1) s.heap.objs.size 0 .none := by
    have := Heap.get?_push_size (s.heap.push o) (o := { cls := .type "enumerate", data := .fields #[.none, .bool false, .ref s.heap.objs.size, rawInt 0, .none, .none] }) rfl
    rw [zS] at this; exact this
  refine ⟨⟨_, hE, rfl⟩, h _ hE (Heap.get?_push_of_some _ (Heap.get?_push_size _ B.free)) (by rw [Heap.size_push, zS]) fun b o x => Heap.get?_push_of_some _ (Heap.get?_push_of_some _ x)⟩
end
end PySem

namespace Dl
open PySem PySem.Spec PyProof.Rows L2
open Evl (Ex)
/-! ### enumerate over a tuple -/
def IteT (K : PySem.W.Frag) (a : Addr) : It :=
  ⟨fun i H => ∃ (xs : List V) (x : V), SqT K H a xs ∧ xs[i]? = some x, fun i H v H' => ∃ T x, v = .ref T ∧ H T = none ∧ H' = upd H T (.tup [.int (i : Nat), x]) ∧ ∀ xs, SqT K H a xs → xs[i]? = some x, fun i H => ∃ xs : List V, SqT K H a xs ∧ xs.length ≤ i⟩
theorem turn_enumT {P : Program} {w : World} {K : PySem.W.Frag} {elts : List Expr} {kk : Nat} {tpos : Pos} (a e it : Addr) :
    Turn P w K (.Tuple elts kk tpos) (IteT K a) [e, it] e (fun i h => (∃ prev, IsEnum h e it ((i : Nat) : Int) prev) ∧ h.IsTupleIter it a i ∧ e ≠ it) where
  mem := by simp
  obj := fun i h st b hb => by
    obtain ⟨⟨prev, hE⟩, ⟨o, oB, cL, dT⟩, _⟩ := st
    have or1 : b = e ∨ b = it := by simpa using hb
    rcases or1 with z | z
    · rw [z]; exact ⟨_, hE, fun v q => nomatch q⟩
    · rw [z]; exact ⟨o, oB, fun v q => by rw [dT] at q; cases q⟩
  keep := fun i h h' st k => let ⟨⟨prev, hE⟩, hi, nei⟩ := st; ⟨⟨prev, k e (by simp) _ hE⟩, hi.at fun o q => k it (by simp) o q, nei⟩
  item := by
    intro X eP eW eK cL i pins s σ H E I fP st gO
    subst eP eW eK
    obtain ⟨⟨prev, hE⟩, iI, nei⟩ := st
    obtain ⟨xs, x, qS, xI⟩ := gO
    obtain ⟨us0, rV, p, zS⟩ := I.tuple qS
    obtain ⟨u, uI, rU⟩ := rV.get xI
    have lE : e < s.heap.objs.size := Heap.lt_size hE
    have lI : it < s.heap.objs.size := by obtain ⟨_, q, _⟩ := iI; exact Heap.lt_size q
    have pt : s.heap.IsTuple a us0.toArray := p
    have nea : e ≠ a := fun z => by
      obtain ⟨o, oB, hcl, _⟩ := pt
      rw [← z, hE] at oB
      cases oB
      have hcl' : Value.type "enumerate" = Value.type "tuple" := hcl
      exact absurd hcl' (by decide)
    have nia : a ≠ it := fun z => by
      obtain ⟨o, oB, hcl, _⟩ := pt
      obtain ⟨o', ho', hc', _⟩ := iI
      rw [z, ho'] at oB
      cases oB
      rw [hc'] at hcl
      exact absurd hcl (by decide)
    have hi : i < us0.toArray.size := by
      have h1 := (List.getElem?_eq_some_iff.mp uI).1
      simpa using h1
    refine wpAny_pyNext_enum_itemD (Draws.tuple (prog := X.prog) (w := X.w) (A := X.A.in1) (show X.A.in1.handled = none from I.ok.hd cL) it a nia us0.toArray) hE ⟨iI, pt⟩ hi nei (by simpa using ⟨nei, nea⟩) fun x' h' tk hx' oB hst' tY sz2 kP => ?_
    have ex : x' = u := by
      have eq1 : us0[i]? = some x' := by
        have hx2 : us0.toArray[i]? = some x' := hx'
        simpa using hx2
      rw [uI] at eq1
      exact (Option.some.inj eq1).symm
    subst ex
    refine ⟨_, rfl, wpAny_letOwnedTupleGo_enum (s := { s with heap := h', toks := tk + 1 }) oB fun h'' he' sB => ?_⟩
    have hT2 : h''.get? s.heap.objs.size = some { cls := .type "tuple", data := .seq #[.int i tk, x'] } := (sB.2 _ (Nat.ne_of_gt lE)).trans tY
    have nw : ObjOk X.prog X.w (upd H s.heap.objs.size (.tup [.int (i : Nat), x])) h'' s.heap.objs.size (.tup [.int (i : Nat), x]) :=
      ⟨by show 2 ≤ sizeLine; decide, [.int i tk, x'], .cons ⟨_, rfl⟩ (.cons rU .nil), ⟨_, hT2, rfl, _, rfl⟩⟩
    have I1 : Inv X pins σ (upd H s.heap.objs.size (.tup [.int (i : Nat), x])) { s with heap := h'', toks := tk + 1 } :=
      I.turnedNew (ch := [e, it]) (fun b ob hb q => (sB.2 b (fun z => hb (by simp [z]))).trans (kP b ob (fun z => hb (by simp [z])) (fun z => hb (by simp [z])) q)) fP (Nat.le_refl _) nw
    refine ⟨.ref s.heap.objs.size, _, I1, rfl, ⟨_, x, rfl, I.hok.fresh (Nat.le_refl _), rfl, fun ys hy => by rw [I.tuple_inj hy qS]; exact xI⟩, ⟨⟨x', ?_⟩, hst'.1.at fun o q => (sB.2 it (Ne.symm nei)).trans q, nei⟩, fun b hb => ?_⟩
    · have eq1 : ((i + 1 : Nat) : Int) = (i : Int) + 1 := by omega
      rw [eq1]; exact he'
    · have bl : b < s.heap.objs.size := by
        have or1 : b = e ∨ b = it := by simpa using hb
        rcases or1 with z | z
        · rw [z]; exact lE
        · rw [z]; exact lI
      rw [upd_ne (Nat.ne_of_lt bl)]
      exact (fP b hb).1
  done := by
    intro X eP eW eK cL i pins s σ H E I fP st gO
    subst eP eW eK
    obtain ⟨⟨prev, hE⟩, iI, nei⟩ := st
    obtain ⟨xs, qS, xI⟩ := gO
    obtain ⟨us0, rV, p, zS⟩ := I.tuple qS
    obtain ⟨f0, f1, f2, f3, f4, f5⟩ := fP it (by simp)
    have isT := rV.length
    have pt : s.heap.IsTuple a us0.toArray := p
    have nia : a ≠ it := fun z => by
      obtain ⟨o, oB, hcl, _⟩ := pt
      obtain ⟨o', ho', hc', _⟩ := iI
      rw [z, ho'] at oB
      cases oB
      rw [hc'] at hcl
      exact absurd hcl (by decide)
    have fin : ∀ (Q' E' : Value → Shared → Prop), (∀ h' e, Heap.ExtBut it s.heap h' → (∃ o, h'.get? e = some o ∧ o.cls = .type "StopIteration") → E' (.ref e) { s with heap := h' }) → wpAny (model X.prog X.w) X.A.in1 (Builtin.SmallTypes.nextOf (.ref it)) Q' E' s := fun Q' E' hE =>
      wpAny_nextOf_tuple_end (show X.A.in1.handled = none from I.ok.hd cL) iI pt (by simp; omega) hE
    have tY : s.TypeIs (.ref e) "enumerate" := ⟨_, hE, rfl⟩
    unfold pyNext
    refine wpAny_bind (wpAny_attempt (wpAny_callSpecial?_slot (name := Str.ofString "__next__") tY F.slot_enumerate_next
      (wpAny_call_entry F.slot_enumerate_next tY F.entry_enumerate_next ?_ (F.args_enumerate_next_1 _))))
    show wpAny _ _ (field (.ref e) 2 >>= _) _ _ _; refine wpAny_bind (wpAny_field hE rfl (x := .ref it) rfl ?_)
    refine wpAny_bind (fin _ _ fun h' x he' hx' => ?_)
    obtain ⟨o, oB, hc2⟩ := hx'
    refine wpAny_bind (wpAny_isInstance (T := "StopIteration") (b := true) ⟨o, oB, hc2⟩ isSubtype_stop ?_)
    exact wpAny_pure ⟨rfl, I.turned (t' := s.toks) (fun b o hb q => he' b o hb q) f0 f1 f3 f4 f5⟩
  self := fun A i s Q E st h => let ⟨⟨_, hE⟩, _⟩ := st; wpAny_pyIter_enum hE h
def iEnumT (K : PySem.W.Frag) (ta : TA) : TI := fun σ H R => ta σ H fun vs H1 => ∃ a xs, vs = [.ref a] ∧ SqT K H1 a xs ∧ R (IteT K a) H1
theorem pi_enumT {X : Cx} {e : Expr} {ta : TA} {p pos tpos : Pos} {elts : List Expr} {kk : Nat} (gO : Gl X "enumerate") (hm : X.mg "enumerate" = none) (ha : PA X [e] ta) (hs : starEach [e] X.env = [(false, eval e X.env)] := by rfl) :
    PI X (.Tuple elts kk tpos) (.Call (.Name "enumerate" p) [e] [] pos) (iEnumT X.K ta) := by
  refine ⟨fun pins s σ H R I h => ?_⟩; refine Call_ (ld_blt I gO hm boot_enumerate (PyProof.Rows.callWith_type1 (thn (ha.run pos pins s σ H _ I h) fun us s1 ⟨vs, H1, I1, r1, qI⟩ => ?_) hs rfl))
  obtain ⟨a, xs, ex, qS, q⟩ := qI
  subst ex
  cases r1 with
  | cons r rr =>
    cases rr
    cases r
    obtain ⟨us0, rV, p', zS⟩ := I1.tuple qS
    refine enum_begins1 (begins_tuple a us0.toArray) p' fun h' hE iI sz2 kP => wpAny_pyIter_enum hE ?_
    have I2 : Inv X pins σ H1 { s1 with heap := h' } := I1.kept (t' := s1.toks) kP
    refine ⟨s1.heap.objs.size + 1, [s1.heap.objs.size + 1, s1.heap.objs.size], _, _, H1, rfl, I2, turn_enumT a (s1.heap.objs.size + 1) s1.heap.objs.size, ⟨⟨.none, hE⟩, ⟨_, iI, rfl, rfl⟩, Nat.succ_ne_self _⟩, fun b hb => ?_, q⟩
    have or1 : b = s1.heap.objs.size + 1 ∨ b = s1.heap.objs.size := by simpa using hb
    have geN : s1.heap.objs.size ≤ b := by
      rcases or1 with z | z
      · rw [z]; exact Nat.le_succ _
      · rw [z]; exact Nat.le_refl _
    exact I1.fpOk geN (I1.hok.fresh geN)
/-! ### sorted of a tuple of ints -/
section
variable {w : World} {A : Around} {s : Shared} {prog : Program} {E : Value → Shared → Prop}
theorem collect_tup {l : Addr} {vs : List Value} {Q : List Value → Shared → Prop} (isT : s.heap.IsTuple l vs.toArray)
    (h : Q vs { s with heap := (s.heap.push (seqObj "list" #[] 0)).update s.heap.objs.size (Obj.mapSeq (· ++ vs.toArray)) }) (sz2 : vs.length ≤ sizeLine) : wpAny (model prog w) A (collect (.ref l)) Q E s := by
  obtain ⟨o, oB, cL, n, dT⟩ := id isT
  unfold collect
  refine wpAny_bind (wpAny_runValue (codeAny_builtin entry_proto_collect' ?_)); show wpAny _ _ (do again (.builtin "list.__iadd__" ⟨[← newList [], .ref l], []⟩)) _ _ s
  refine wpAny_bind (wpAny_newList (wpAny_pure ⟨Code.quiet_builtin _ (by decide +kernel), codeAny_builtin entry_list_iadd' ?_⟩)); show wpAny _ _ (Builtin.List.listExtendWith (.ref s.heap.objs.size) (.ref l) (.ref s.heap.objs.size)) _ _ { s with heap := s.heap.push (seqObj "list" #[] 0) }
  unfold Builtin.List.listExtendWith; have ho' : (s.heap.push (seqObj "list" #[] 0)).get? l = some o := Heap.get?_push_of_some _ oB
  refine wpAny_bind (wpAny_typeOf (T := "tuple") ⟨o, ho', cL⟩ ?_)
  have ht : (Value.type "tuple" == Value.type "tuple") = true := by rfl
  rw [if_pos (by rw [ht]; simp)]; refine wpAny_bind (listItems_at ho' dT ?_)
  refine wpAny_bind (listItems_at (xs := #[]) (n := 0) (Heap.get?_push_size _ rfl) rfl ?_); rw [if_neg (by simp)]
  refine wpAny_bind (listUpdate_at (xs := #[]) (n := 0) (Heap.get?_push_size _ rfl) rfl ?_ (Nat.zero_le _) (by show (#[] ++ vs.toArray).size ≤ sizeLine + 1; simp only [Array.size_append, List.size_toArray, List.length_nil]; omega)); refine wpAny_pure ?_
  show wpAny (model prog w) A (do
      let o ← load s.heap.objs.size
      match o.data with
      | .seq xs _ => pure xs.toList
      | _ => unsupported "internal:collect") Q E { s with heap := (s.heap.push (seqObj "list" #[] 0)).update s.heap.objs.size (Obj.mapSeq (· ++ vs.toArray)) }
  refine wpAny_bind (wpAny_load (get?_update_seq (Heap.get?_push_size _ rfl) _) ?_); show wpAny _ _ (pure ((#[] : Array Value) ++ vs.toArray).toList) Q E _
  rw [show ((#[] : Array Value) ++ vs.toArray).toList = vs by simp]; exact wpAny_pure h
theorem sorted_tupI {l : Addr} {vs : List Value} {ns : List Int} {Q : Value → Shared → Prop} (isT : s.heap.IsTuple l vs.toArray) (isI : IntsAre vs ns) (fits : vs.length ≤ sizeLine)
    (h : ∀ (out : Array Value) (ns' : List Int), IntsAre out.toList ns' → ns'.Perm ns → ns'.Pairwise (· ≤ ·) → Q (.ref (s.heap.objs.size + 1)) { s with heap := sortedAll s.heap vs out }) : wpAny (model prog w) A (call (.builtin "sorted") [.ref l]) Q E s := by
  refine Calls.call_function_entry kind_sorted plain_sorted entry_sorted (args_sorted1 _) ?_; unfold Builtin.«sorted»
  refine wpAny_bind (m := checkCount "sorted" 1 1 _) (wpAny_pure ?_); refine wpAny_bind (collect_tup isT ?_ fits)
  refine wpAny_bind (wpAny_newList ?_ fits)
  have sz2 : ((s.heap.push (seqObj "list" #[] 0)).update s.heap.objs.size (Obj.mapSeq (· ++ vs.toArray))).objs.size = s.heap.objs.size + 1 := by rw [Heap.size_update, size_push']
  have atL : (((s.heap.push (seqObj "list" #[] 0)).update s.heap.objs.size (Obj.mapSeq (· ++ vs.toArray))).push (seqObj "list" vs.toArray 0)).get? (s.heap.objs.size + 1) = some (seqObj "list" vs.toArray 0) := by
    rw [← sz2]; exact Heap.get?_push_size _ rfl
  show wpAny _ _ _ _ _ { s with heap := ((s.heap.push (seqObj "list" #[] 0)).update s.heap.objs.size (Obj.mapSeq (· ++ vs.toArray))).push (seqObj "list" vs.toArray 0) }; rw [sz2]
  refine wpAny_bind (wpAny_holding (wpAny_call_entry slot_list_sort ⟨_, atL, rfl⟩ entry_list_sort (list_sort_treeAny atL isI fits fun out ns' a1 a2 a3 => ⟨_, rfl, ?_⟩) (args_list_sort _))); exact wpAny_pure ⟨_, rfl, h out ns' a1 a2 a3⟩
end
section
variable {X : Cx}
def rSortedTI (K : PySem.W.Frag) : List V → Hp → VK → Prop := fun vs H Q => ∃ (a : Addr) (ns : List Int), vs = [V.ref a] ∧ SqT K H a (ns.map V.int) ∧ ∀ (ns' : List Int) (p : Addr), ns'.Perm ns → ns'.Pairwise (· ≤ ·) → H p = none → Q (.ref p) (upd H p (.lst (ns'.map V.int)))
theorem cr_sortedTI : CallR X (.builtin "sorted") (rSortedTI X.K) := by
  intro pins s σ H vs us Q I r h; obtain ⟨a, ns, rfl, hs, q⟩ := h
  obtain ⟨us0, rV, isT, zS⟩ := I.tuple hs
  rw [Vals.ref1 r]
  have hi := rV.ints
  refine sorted_tupI isT hi (by rw [← rV.length]; exact zS) fun out ns' h1 h2 h3 => ?_
  obtain ⟨epo, he'⟩ := PyProof.Rows.sortedAll_at s.heap us0 out
  have hlen : (ns'.map V.int).length ≤ sizeLine := by
    rw [List.length_map, h2.length_eq]
    rw [List.length_map] at zS
    exact zS
  exact ⟨.ref _, upd H (s.heap.objs.size + 1) (.lst (ns'.map V.int)), I.laid (t' := s.toks) (fun _ _ => PyProof.Rows.sortedAll_old) (Nat.le_succ _) ⟨hlen, out.toList, epo, vals_of_ints h1, he'⟩, rfl, q ns' _ h2 h3 (I.hok.fresh (Nat.le_succ _))⟩
/-! ### set of a list of ints -/
end
/-- the empty set that set(..) makes -/
abbrev mtS (w : World) : Obj := { cls := .type "set", dict := none, data := .set #[] 0 (.fresh 0 0 (!w.params.followText "set-order")) }
section
variable {P : Program} {w : World} {E : Value → Shared → Prop} {A : Around} {s : Shared}
set_option maxHeartbeats 3600000 in
theorem set_of_list {l : Addr} {vs : Array Value} (ns : List Int) {Q : Value → Shared → Prop} (calm : A.handled = none) (isl : s.heap.IsList l vs) (ints_ : IntsAre vs.toList ns) (few : ns.length + 1 < scanBound)
    (k : ∀ (h2 : Heap) (t2 n2 : Nat), SetR w h2 s.heap.objs.size (fun j => decide (j ∈ ns)) n2 → n2 ≤ ns.length → (∀ b o, s.heap.get? b = some o → h2.get? b = some o) → Q (.ref s.heap.objs.size) { s with heap := h2, toks := t2 }) : wpAny (model P w) A (call (.type "set") [.ref l]) Q E s := by
  have vsn : vs.size = ns.length := by
    have e := IntsAre.length ints_
    rwa [Array.length_toList] at e
  obtain ⟨c, tl, hmro⟩ := F.called_set.mro; have made_ := F.called_set.made
  have sub_ := F.called_set.sub
  have isT := F.called_set.notType
  have may := F.called_set.canCreate
  have tc := F.typeCall_set_1 (.ref l)
  refine wpAny_call (codeAny_of_tree (show wpAny _ _ (callAny (.type "set") _) _ _ _ from wpAny_pure ⟨Code.quiet_builtin _ (by decide +kernel), codeAny_builtin F.entry_type_call ?_⟩)); rw [Around.under_plain (weight_type_call_type "set" [.ref l] []) rfl]
  repeat (any_goals (first | assumption | wp_step))
  have kn : ∀ b o, s.heap.get? b = some o → (s.heap.push (mtS w)).get? b = some o := fun b o e => Heap.get?_push_of_some _ e
  refine codeAny_mono (code_set_led1 (w := w) (.ref l) (E := E) (Q₁ := fun v s1 => v = .ref s.heap.objs.size ∧ s1 = { s with heap := s.heap.push (mtS w) }) ⟨rfl, rfl⟩) fun r s1 made => ?_
  cases r with
  | error e => exact made
  | ok fl =>
    cases fl with
    | ret v =>
      obtain ⟨rfl, rfl⟩ := made
      have at_ : (s.heap.push (mtS w)).get? s.heap.objs.size = some (mtS w) := Heap.get?_push_size _ rfl
      have ty_ : Shared.TypeIs { s with heap := s.heap.push (mtS w) } (.ref s.heap.objs.size) "set" := ⟨_, at_, rfl⟩
      have il := F.called_set.init.lookup
      have ib := F.called_set.init.bind (.ref s.heap.objs.size)
      repeat (any_goals (first | assumption | wp_step))
      refine codeAny_mono (codeAny_call_builtin (R := wants (fun r s2 => r = .none ∧ ∃ h2 t2 n2, s2 = { s with heap := h2, toks := t2 } ∧ SetR w h2 s.heap.objs.size (fun j => decide (j ∈ ns)) n2 ∧ n2 ≤ ns.length ∧
          ∀ b o, s.heap.get? b = some o → h2.get? b = some o) E) F.called_set.init.plain F.entry_set_init (check_set_init_1 ty_ ?_)) fun r2 s2 done_ => ?_
      · obtain ⟨⟨lc, ld, lt, ls⟩, atl, hc, ln, hd⟩ := isl
        simp only at hc hd
        subst hc hd
        have atl1 := kn l _ atl
        have s1s := F.sub_list_set
        have s1f := F.sub_list_frozenset
        have nd : (Value.type "list" == Value.type "dict") = false := by decide
        have il1 : (s.heap.push (mtS w)).IsList l vs := ⟨_, atl1, rfl, ln, rfl⟩
        unfold Builtin.«set.__init__» noKeywords Builtin.Frozenset.updateFrom; generalize hI : pyIter = PI
        wp_walk
        subst hI
        refine wpAny_pyIter_list il1 (wpAny_bind (wpAny_runValue ?_))
        have ll : l < s.heap.objs.size := Heap.lt_size atl
        have calm3 : A.in1.in1.in1.handled = none := by simp [calm]
        have apart1 : l ≠ (s.heap.push (mtS w)).objs.size := by
          rw [Heap.size_push]
          exact Nat.ne_of_lt (Nat.lt_succ_of_lt ll)
        have apart2 : s.heap.objs.size ∉ [(s.heap.push (mtS w)).objs.size, l] := by
          rw [Heap.size_push]
          simp only [List.mem_cons, List.mem_singleton, List.not_mem_nil, or_false, not_or]
          exact ⟨Nat.ne_of_lt (Nat.lt_succ_self _), Nat.ne_of_gt ll⟩
        have items_ : ∀ (i : Nat) (v : Value), vs[i]? = some v → ∃ z t, ns[i]? = some z ∧ v = .int z t := fun i v hv => by
          have lt_ : i < ns.length := vsn ▸ (Array.getElem?_eq_some_iff.mp hv).1
          obtain ⟨t, e⟩ := PyProof.Rows.IntsAre.int_at ints_ i v (by rw [Array.getElem?_toList]; exact hv)
          exact ⟨ns[i], t, List.getElem?_eq_getElem lt_, by rw [e, List.getD_eq_getElem?_getD, List.getElem?_eq_getElem lt_] <;> rfl⟩
        have start0 : ((s.heap.push (mtS w)).push { cls := .type "list_iterator", data := .fields #[.ref l, .int 0 0] }).get? s.heap.objs.size = some (mtS w) := Heap.get?_push_of_some _ at_
        refine set_update_ints ((Walks.list calm3 _ l apart1 vs).toS) s.heap.objs.size apart2 ns vsn few items_ (vs.size - 0) 0 _ (by omega) (Nat.zero_le _)
          ⟨⟨_, Heap.get?_push_size _ rfl, rfl, rfl⟩, il1.push _⟩ ⟨0, Nat.le_refl 0, setR_new_at start0⟩ fun s3 n3 mv le3 R3 => ?_
        obtain ⟨h3, g3, d3, t3, o3⟩ := s3
        obtain rfl : g3 = s.gens := mv.gens
        obtain rfl : d3 = s.drawn := mv.drawn
        obtain rfl : o3 = s.os := mv.os
        refine wpAny_pure (wpAny_pure ⟨rfl, h3, t3, n3, rfl, R3, by rwa [vsn] at le3, fun b o e => ?_⟩)
        have lb : b < s.heap.objs.size := Heap.lt_size e
        refine mv.heap b o ?_ (Heap.get?_push_of_some _ (kn b o e))
        simp only [List.mem_cons, List.mem_singleton, List.not_mem_nil, or_false, not_or]
        exact ⟨Nat.ne_of_lt lb, by rw [Heap.size_push]; exact Nat.ne_of_lt (Nat.lt_succ_of_lt lb)⟩
      · cases r2 with
        | error e => exact done_
        | ok f2 =>
          cases f2 with
          | ret r =>
            obtain ⟨rfl, h2, t2, n2, rfl, R2, le2, kp2⟩ := done_
            repeat (any_goals (first | assumption | wp_step))
            exact k h2 t2 n2 R2 le2 kp2
          | _ => exact done_.elim
    | _ => exact made.elim
end
section
variable {X : Cx}
def rSetI (K : PySem.W.Frag) (w : World) : List V → Hp → VK → Prop := fun xs H Q => ∃ (l : Addr) (ns : List Int), xs = [V.ref l] ∧ SqL K H l (ns.map V.int) ∧ ns.length ≤ 4000 ∧
  ∀ p n, n ≤ ns.length → H p = none → Q (.ref p) (upd H p (SetO w p (fun j => decide (j ∈ ns)) n))
theorem cr_setI (hc : X.calm = true) : CallR X (.type "set") (rSetI X.K X.w) := by
  intro pins s σ H xs us Q I r h; obtain ⟨l, ns, rfl, lq, few, q⟩ := h
  rw [Vals.ref1 r]
  obtain ⟨its, rv, pl, _⟩ := I.list lq
  exact set_of_list (P := X.prog) (w := X.w) ns (I.ok.hd hc) pl.isList (by simpa using rv.ints) (by unfold scanBound; omega) fun h2 t2 n2 R le2 kp =>
    ⟨.ref s.heap.objs.size, upd H s.heap.objs.size (SetO X.w s.heap.objs.size (fun j => decide (j ∈ ns)) n2), I.laid (t' := t2) kp (Nat.le_refl _) (setO_new R), rfl, q _ n2 le2 (I.hok.fresh (Nat.le_refl _))⟩
end
end Dl

set_option maxRecDepth 100000
set_option maxHeartbeats 4100000
/-! Dl5: operators, built-ins by data -/
namespace Dl
open PySem PySem.Spec PyProof.Rows
open L2
open Evl (Ex)
/-! ### joined rules -/
def rAddA (K : PySem.W.Frag) : R2 := fun x y H Q => rI0 (fun i j => .int (i + j)) x y H Q ∨ (rCat x y H Q ∨ rCatA K x y H Q)
def rNeA (K : PySem.W.Frag) : R2 := fun x y H Q => rNe x y H Q ∨ rNeD K x y H Q
def rLtA (K : PySem.W.Frag) : R2 := fun x y H Q => rI0 (fun i j => .bl (decide (i < j))) x y H Q ∨ rLtT K x y H Q
def rSlAny (K : PySem.W.Frag) : V → Option Int → Option Int → Hp → VK → Prop := fun x lo hi H Q => rSlL K x lo hi H Q ∨ rSlA K x lo hi H Q
def rLenK : List V → Hp → VK → Prop := fun xs H Q => ∃ a kvs, xs = [V.ref a] ∧ H a = some (.dK kvs) ∧ Q (.int kvs.length) H
def rLenA (K : PySem.W.Frag) : List V → Hp → VK → Prop := fun xs H Q => Evl.rLenS K xs H Q ∨ rLenK xs H Q
def rSortDI : List V → Hp → VK → Prop := fun xs H Q => ∃ (a : Addr) (kvs : List (Key × V)) (ks : List Int), xs = [.ref a] ∧ Rd H a (.dK kvs) ∧ kvs.map (·.1) = ks.map Sum.inl ∧ ks.length < 64 ∧
  ∀ (ys : List Int) (p : Addr), ys.Perm ks → ys.Pairwise (· ≤ ·) → H p = none → Q (.ref p) (upd H p (.lst (ys.map V.int)))
def rSortA (K : PySem.W.Frag) (w : World) : List V → Hp → VK → Prop := fun xs H Q => rSortedI K xs H Q ∨ (rSortedPO K xs H Q ∨ (rSortedTI K xs H Q ∨ (rSortDI xs H Q ∨ rSortedSet w xs H Q)))
section
variable {X : Cx} {K : PySem.W.Frag} {w : World}
theorem op_addA (k : X.K = K := by rfl) : OpR X (binaryOp .Add) (rAddA K) := by
  subst k
  exact OpR.or op_add (OpR.or op_cat op_catA)
theorem op_neA (hu : X.A.units + 64 < cLine) (k : X.K = K := by rfl) : OpR X (compareOp .NotEq) (rNeA K) := by
  subst k
  exact OpR.or op_ne (op_neD hu)
theorem op_ltA (hu : X.A.units < cLine) (k : X.K = K := by rfl) : OpR X (compareOp .Lt) (rLtA K) := by
  subst k
  exact OpR.or op_lt (op_ltT hu)
theorem op_inA (k : X.K = K := by rfl) : OpR X (compareOp .In) (rIn K false) := by
  subst k
  exact op_in_seq
theorem op_niA (k : X.K = K := by rfl) : OpR X (compareOp .NotIn) (rIn K true) := by
  subst k
  exact op_notIn_seq
theorem ix_any (k : X.K = K := by rfl) : IxR X (rIx K) := by
  subst k
  exact ix_seq
theorem sl_any (k : X.K = K := by rfl) : SlR X (rSlAny K) := by
  subst k
  exact SlR.or sl_list sl_tupA
theorem call_lenA (k : X.K = K := by rfl) : CallR X (.builtin "len") (rLenA K) := by
  subst k
  exact CallR.or call_len_seq call_lenD
theorem cr_sortA (hc : X.calm = true) (k : X.K = K := by rfl) (kw : X.w = w := by rfl) : CallR X (.builtin "sorted") (rSortA K w) := by
  subst k kw
  exact CallR.or cr_sortedI (CallR.or cr_sortedPO (CallR.or cr_sortedTI (CallR.or (call_sortedDI hc) (cr_sortedSet hc))))
theorem cr_setA (hc : X.calm = true) (k : X.K = K := by rfl) (kw : X.w = w := by rfl) : CallR X (.type "set") (rSetI K w) := by
  subst k kw
  exact cr_setI hc
theorem cr_allA (hc : X.calm = true) (k : X.K = K := by rfl) : CallR X (.builtin "all") (rAll K) := by
  subst k
  exact cr_all hc
theorem call_isiA (k : X.K = K := by rfl) : CallR X (.builtin "isinstance") (rIsi K) := by
  subst k
  exact call_isi
def rTupOf (K : PySem.W.Frag) : List V → Hp → VK → Prop := fun xs H Q => ∃ p ys, xs = [.ref p] ∧ ((SqL K H p ys ∧ ∀ l, H l = none → Q (.ref l) (upd H l (.tup ys))) ∨ (SqT K H p ys ∧ Q (.ref p) H))
def rLstOf (K : PySem.W.Frag) : List V → Hp → VK → Prop := fun xs H Q => ∃ p ys, xs = [.ref p] ∧ (SqL K H p ys ∨ SqT K H p ys) ∧ ∀ l, H l = none → Q (.ref l) (upd H l (.lst ys))
theorem call_tupA (k : X.K = K := by rfl) : CallR X (.type "tuple") (rTupOf K) := by
  subst k
  exact call_tuple_of
theorem call_lstA (k : X.K = K := by rfl) : CallR X (.type "list") (rLstOf K) := by
  subst k
  exact call_list_of
theorem pg_tupA {es : List Expr} {kk : Nat} {pos : Pos} {t : TGs} {n : Nat} (hc : X.calm = true) (h : PGs X es t) (hn : (assignEach es X.env).length = n := by rfl) (hs : (assignEach es X.env).findIdx? (·.1) = none := by rfl) (k : X.K = K := by rfl) : PG X (.Tuple es kk pos) (gTup K n t) := by
  subst k
  exact pg_tup hc h hn hs
end
/-! ### sorting, in plain Lean -/
def ins (x : Int) : List Int → List Int
  | [] => [x]
  | y :: ys => if x ≤ y then x :: y :: ys else y :: ins x ys
def srt : List Int → List Int
  | [] => []
  | x :: xs => ins x (srt xs)
theorem ins_perm (x : Int) : ∀ ys, (ins x ys).Perm (x :: ys)
  | [] => List.Perm.refl _
  | y :: ys => by
    unfold ins
    split
    · exact List.Perm.refl _
    · exact ((ins_perm x ys).cons y).trans (List.Perm.swap x y ys)
theorem srt_perm : ∀ xs, (srt xs).Perm xs
  | [] => List.Perm.refl _
  | x :: xs => (ins_perm x _).trans ((srt_perm xs).cons x)
theorem ins_pw (x : Int) : ∀ {ys : List Int}, ys.Pairwise (· ≤ ·) → (ins x ys).Pairwise (· ≤ ·)
  | [], _ => by simp [ins]
  | y :: ys, h => by
    unfold ins
    obtain ⟨h1, h2⟩ := List.pairwise_cons.mp h
    split
    · refine List.pairwise_cons.mpr ⟨fun z hz => ?_, h⟩
      rcases List.mem_cons.mp hz with e | e
      · omega
      · have := h1 z e; omega
    · refine List.pairwise_cons.mpr ⟨fun z hz => ?_, ins_pw x h2⟩
      rcases List.mem_cons.mp ((ins_perm x ys).mem_iff.mp hz) with e | e
      · omega
      · exact h1 z e
theorem srt_pw : ∀ xs : List Int, (srt xs).Pairwise (· ≤ ·)
  | [] => List.Pairwise.nil
  | x :: xs => ins_pw x (srt_pw xs)
theorem srt_is {xs ys : List Int} (p : ys.Perm xs) (s : ys.Pairwise (· ≤ ·)) : ys = srt xs :=
  List.Perm.eq_of_pairwise (fun x y _ _ h1 h2 => Int.le_antisymm h1 h2) s (srt_pw xs) (p.trans (srt_perm xs).symm)
theorem srt_len (xs : List Int) : (srt xs).length = xs.length := (srt_perm xs).length_eq
/-- pairs -/
def leP (p q : Int × Int) : Bool := decide (p.1 < q.1) || (decide (p.1 = q.1) && decide (p.2 ≤ q.2))
def insP (x : Int × Int) : List (Int × Int) → List (Int × Int)
  | [] => [x]
  | y :: ys => if leP x y = true then x :: y :: ys else y :: insP x ys
def srtP : List (Int × Int) → List (Int × Int)
  | [] => []
  | x :: xs => insP x (srtP xs)
theorem leP_iff {p q : Int × Int} : leP p q = true ↔ p.1 < q.1 ∨ (p.1 = q.1 ∧ p.2 ≤ q.2) := by simp [leP]
theorem leP_tot {p q : Int × Int} (h : ¬ leP p q = true) : leP q p = true := by
  rw [leP_iff] at *
  omega
theorem leP_tr {p q r : Int × Int} (h : leP p q = true) (h2 : leP q r = true) : leP p r = true := by
  rw [leP_iff] at *
  omega
theorem leP_anti {p q : Int × Int} (h : leP p q = true) (h2 : leP q p = true) : p = q := by
  rw [leP_iff] at *
  apply Prod.ext <;> omega
theorem insP_perm (x : Int × Int) : ∀ ys, (insP x ys).Perm (x :: ys)
  | [] => List.Perm.refl _
  | y :: ys => by
    unfold insP
    split
    · exact List.Perm.refl _
    · exact ((insP_perm x ys).cons y).trans (List.Perm.swap x y ys)
theorem srtP_perm : ∀ xs, (srtP xs).Perm xs
  | [] => List.Perm.refl _
  | x :: xs => (insP_perm x _).trans ((srtP_perm xs).cons x)
theorem insP_pw (x : Int × Int) : ∀ {ys : List (Int × Int)}, ys.Pairwise (fun a b => leP a b = true) → (insP x ys).Pairwise (fun a b => leP a b = true)
  | [], _ => by simp [insP]
  | y :: ys, h => by
    unfold insP
    obtain ⟨h1, h2⟩ := List.pairwise_cons.mp h
    split
    · rename_i hxy
      refine List.pairwise_cons.mpr ⟨fun z hz => ?_, h⟩
      rcases List.mem_cons.mp hz with e | e
      · rw [e]; exact hxy
      · exact leP_tr hxy (h1 z e)
    · rename_i hxy
      refine List.pairwise_cons.mpr ⟨fun z hz => ?_, insP_pw x h2⟩
      rcases List.mem_cons.mp ((insP_perm x ys).mem_iff.mp hz) with e | e
      · rw [e]; exact leP_tot hxy
      · exact h1 z e
theorem srtP_pw : ∀ xs, (srtP xs).Pairwise (fun a b => leP a b = true)
  | [] => List.Pairwise.nil
  | x :: xs => insP_pw x (srtP_pw xs)
theorem srtP_is {xs ys : List (Int × Int)} (p : ys.Perm xs) (s : ys.Pairwise (fun a b => leP a b = true)) : ys = srtP xs :=
  List.Perm.eq_of_pairwise (le := fun a b => leP a b = true) (fun x y _ _ h1 h2 => leP_anti h1 h2) s (srtP_pw xs) (p.trans (srtP_perm xs).symm)
/-- each once -/
def dd : List Int → List Int
  | [] => []
  | x :: xs => if x ∈ dd xs then dd xs else x :: dd xs
def sset (xs : List Int) : List Int := srt (dd xs)
theorem dd_mem {k : Int} : ∀ {xs : List Int}, k ∈ dd xs ↔ k ∈ xs
  | [] => Iff.rfl
  | x :: xs => by
    unfold dd
    split
    · rename_i h
      rw [dd_mem, List.mem_cons]
      constructor
      · exact .inr
      · rintro (e | e)
        · rw [e]; exact dd_mem.mp h
        · exact e
    · rw [List.mem_cons, List.mem_cons, dd_mem]
theorem dd_nodup : ∀ xs : List Int, (dd xs).Nodup
  | [] => List.nodup_nil
  | x :: xs => by
    unfold dd
    split
    · exact dd_nodup xs
    · rename_i h
      exact List.nodup_cons.mpr ⟨h, dd_nodup xs⟩
theorem sset_mem {k : Int} {xs : List Int} : k ∈ sset xs ↔ k ∈ xs := by
  unfold sset
  rw [(srt_perm _).mem_iff, dd_mem]
theorem sset_is {xs ys : List Int} (m : ∀ k, k ∈ ys ↔ k ∈ xs) (s : ys.Pairwise (· < ·)) : ys = sset xs := by
  have nd : ys.Nodup := s.imp fun h => by omega
  refine srt_is ((List.perm_ext_iff_of_nodup nd (dd_nodup xs)).mpr fun k => by rw [m, dd_mem]) (s.imp fun h => by omega)
/-! ### operators -/
section
variable {K : PySem.W.Frag}
theorem rd_0 {f : Int → Int → V} {i j : Int} : RD (rI0 f) (I i) (I j) (.v (f i j)) := fun Z H vx vy _ rx ry Q k => ⟨i, j, rx, ry, k _ H (fun _ _ h => h) rfl⟩
theorem rd_C {C : Int → Int → Prop} {f : Int → Int → V} {i j : Int} (h : C i j) : RD (rI C f) (I i) (I j) (.v (f i j)) := fun Z H vx vy _ rx ry Q k => ⟨i, j, rx, ry, h, k _ H (fun _ _ h => h) rfl⟩
theorem rd_addI {i j : Int} : RD (rAddA K) (I i) (I j) (I (i + j)) := fun Z H vx vy d rx ry Q k => .inl (rd_0 (f := fun i j => .int (i + j)) Z H vx vy d rx ry Q k)
theorem rd_addL {xs ys : List D} (hl : xs.length + ys.length ≤ 100000) : RD (rAddA K) (.l xs) (.l ys) (.l (xs ++ ys)) := fun Z H vx vy d rx ry Q k => by
  obtain ⟨a, us, rfl, na, ha, ra⟩ := rx
  obtain ⟨b, ws, rfl, nb, hb, rb⟩ := ry
  refine .inr (.inl ⟨a, b, us, ws, rfl, rfl, ha, hb, sz (by rw [ra.len, rb.len]; exact hl), fun p hp => ?_⟩)
  have e : Ex H (upd H p (.lst (us ++ ws))) := Ex.new hp
  exact k _ _ e ⟨p, _, rfl, fun z => d p z hp, upd_same, Reps.move (Lt.ex e) _ _ (Reps.app ra rb)⟩
theorem rd_addT {xs ys : List D} (hl : xs.length + ys.length ≤ 100000) : RD (rAddA K) (.t xs) (.t ys) (.t (xs ++ ys)) := fun Z H vx vy d rx ry Q k => by
  obtain ⟨a, us, rfl, na, ha, ra⟩ := id rx
  obtain ⟨b, ws, rfl, nb, hb, rb⟩ := id ry
  refine .inr (.inr ⟨a, b, us, ws, rfl, rfl, SqT.of ha, SqT.of hb, sz (by rw [ra.len, rb.len]; exact hl), fun e => ?_, fun _ e => ?_, fun _ _ p hp => ?_⟩)
  · have e2 : xs = [] := List.eq_nil_of_length_eq_zero (by rw [← ra.len, e]; rfl)
    rw [e2] at k
    exact k _ H (fun _ _ h => h) ry
  · have e2 : ys = [] := List.eq_nil_of_length_eq_zero (by rw [← rb.len, e]; rfl)
    rw [e2, List.append_nil] at k
    exact k _ H (fun _ _ h => h) rx
  · have e : Ex H (upd H p (.tup (us ++ ws))) := Ex.new hp
    exact k _ _ e ⟨p, _, rfl, fun z => d p z hp, upd_same, Reps.move (Lt.ex e) _ _ (Reps.app ra rb)⟩
theorem dec_vi {i j : Int} : decide (V.int i = V.int j) = decide (i = j) := by
  by_cases h : i = j
  · subst h; simp
  · rw [decide_eq_false h]
    exact decide_eq_false fun e => h (V.int.inj e)
theorem rd_eqI {i j : Int} : RD rEq (I i) (I j) (B (decide (i = j))) := fun Z H vx vy _ rx ry Q k => by
  have e1 : vx = .int i := rx
  have e2 : vy = .int j := ry
  subst e1 e2
  exact ⟨rfl, k _ H (fun _ _ h => h) (congrArg V.bl dec_vi)⟩
theorem rd_eqB {i j : Bool} : RD rEq (B i) (B j) (B (decide (i = j))) := fun Z H vx vy _ rx ry Q k => by
  have e1 : vx = .bl i := rx
  have e2 : vy = .bl j := ry
  subst e1 e2
  exact ⟨rfl, k _ H (fun _ _ h => h) (by show V.bl _ = V.bl _; cases i <;> cases j <;> rfl)⟩
theorem rd_neI {i j : Int} : RD (rNeA K) (I i) (I j) (B (!decide (i = j))) := fun Z H vx vy _ rx ry Q k => by
  have e1 : vx = .int i := rx
  have e2 : vy = .int j := ry
  subst e1 e2
  exact .inl ⟨rfl, k _ H (fun _ _ h => h) (by show V.bl _ = V.bl _; rw [dec_vi])⟩
theorem dpAll (H : Hp) : ∀ ns : List Int, DpAll K H (ns.map V.int) (ns.map PyData.int)
  | [] => .nil
  | n :: ns => .cons (.int n) (dpAll H ns)
theorem eqvAll_ints : ∀ a b : List Int, PyData.eqvAll (a.map PyData.int) (b.map PyData.int) = decide (a = b)
  | [], [] => rfl
  | [], _ :: _ => rfl
  | _ :: _, [] => rfl
  | x :: a, y :: b => by
    have ih := eqvAll_ints a b
    show (PyData.eqv (.int x) (.int y) && PyData.eqvAll (a.map PyData.int) (b.map PyData.int)) = decide (x :: a = y :: b)
    rw [ih]
    show ((x == y) && decide (a = b)) = decide (x :: a = y :: b)
    by_cases h : x = y
    · subst h
      by_cases h2 : a = b
      · subst h2; simp
      · simp [h2]
    · simp [h]
theorem shaped_ints (ns : List Int) : SeqAt.shaped (.tuple (ns.map PyData.int)) = true ∧ SeqAt.shaped (.list (ns.map PyData.int)) = true := by
  constructor <;> (unfold SeqAt.shaped PyData.canLay0 PyData.depth; rw [PyProof.Rows.canLayAll_ints, PyProof.Rows.depthAll_ints]; decide)
theorem rd_neT {a b : List Int} : RD (rNeA K) (.t (zD a)) (.t (zD b)) (B (!decide (a = b))) := fun Z H vx vy _ rx ry Q k => by
  obtain ⟨p, us, rfl, _, hp, rp⟩ := rx
  obtain ⟨q, ws, rfl, _, hq, rq⟩ := ry
  have e1 := Reps.zD.mp rp
  have e2 := Reps.zD.mp rq
  subst e1 e2
  exact .inr ⟨_, _, .tup (SqT.of hp) (dpAll H a), .tup (SqT.of hq) (dpAll H b), (shaped_ints a).1, (shaped_ints b).1, k _ H (fun _ _ h => h) (by show V.bl _ = V.bl _; rw [show PyData.eqv (.tuple (a.map PyData.int)) (.tuple (b.map PyData.int)) = decide (a = b) from eqvAll_ints a b])⟩
theorem rd_neL {a b : List Int} : RD (rNeA K) (.l (zD a)) (.l (zD b)) (B (!decide (a = b))) := fun Z H vx vy _ rx ry Q k => by
  obtain ⟨p, us, rfl, _, hp, rp⟩ := rx
  obtain ⟨q, ws, rfl, _, hq, rq⟩ := ry
  have e1 := Reps.zD.mp rp
  have e2 := Reps.zD.mp rq
  subst e1 e2
  exact .inr ⟨_, _, .lst (SqL.of hp) (dpAll H a), .lst (SqL.of hq) (dpAll H b), (shaped_ints a).2, (shaped_ints b).2, k _ H (fun _ _ h => h) (by show V.bl _ = V.bl _; rw [show PyData.eqv (.list (a.map PyData.int)) (.list (b.map PyData.int)) = decide (a = b) from eqvAll_ints a b])⟩
theorem rd_ltI {i j : Int} : RD (rLtA K) (I i) (I j) (B (decide (i < j))) := fun Z H vx vy d rx ry Q k => .inl (rd_0 (f := fun i j => .bl (decide (i < j))) Z H vx vy d rx ry Q k)
theorem rd_ltT {a b : List Int} : RD (rLtA K) (.t (zD a)) (.t (zD b)) (B (HT.lexLt a b)) := fun Z H vx vy _ rx ry Q k => by
  obtain ⟨p, us, rfl, _, hp, rp⟩ := rx
  obtain ⟨q, ws, rfl, _, hq, rq⟩ := ry
  have e1 := Reps.zD.mp rp
  have e2 := Reps.zD.mp rq
  subst e1 e2
  exact .inr ⟨p, q, a, b, rfl, rfl, SqT.of hp, SqT.of hq, k _ H (fun _ _ h => h) rfl⟩
def isNonD : D → Bool
  | .v x => decide (x = .non)
  | _ => false
abbrev rIsN0 : R2 := fun x y H Q => y = .non ∧ Q (.bl (decide (x = .non))) H
theorem rd_isN {x : D} : RD rIsN0 x (.v .non) (B (isNonD x)) := fun Z H vx vy _ rx ry Q k => by
  refine ⟨ry, k _ H (fun _ _ h => h) ?_⟩
  show V.bl _ = V.bl _
  cases x with
  | v y => have e : vx = y := rx; rw [e]; rfl
  | t ds => obtain ⟨p, us, rfl, _⟩ := rx; rfl
  | l ds => obtain ⟨p, us, rfl, _⟩ := rx; rfl
theorem inV_ints {i : Int} : ∀ {ns : List Int}, inV (.int i) (ns.map V.int) = decide (i ∈ ns)
  | [] => rfl
  | n :: ns => by
    have ih := inV_ints (i := i) (ns := ns)
    unfold inV at *
    rw [List.map_cons, List.any_cons, ih]
    show ((n == i) || decide (i ∈ ns)) = decide (i ∈ n :: ns)
    by_cases h : n = i
    · subst h; simp
    · have h2 : ¬ i = n := fun e => h e.symm
      simp [h, h2]
theorem flat_ints (ns : List Int) : (ns.map V.int).all flatV = true := by
  rw [List.all_map]
  exact List.all_eq_true.mpr fun _ _ => rfl
theorem rd_inT {i : Int} {ns : List Int} : RD (rIn K false) (I i) (.t (zD ns)) (B (decide (i ∈ ns))) := fun Z H vx vy _ rx ry Q k => by
  obtain ⟨q, ws, rfl, _, hq, rq⟩ := ry
  have e1 : vx = .int i := rx
  have e2 := Reps.zD.mp rq
  subst e1 e2
  exact ⟨q, _, rfl, .inr (SqT.of hq), rfl, flat_ints ns, k _ H (fun _ _ h => h) (by show V.bl _ = V.bl _; rw [if_neg (by decide), inV_ints])⟩
theorem rd_inL {i : Int} {ns : List Int} : RD (rIn K false) (I i) (.l (zD ns)) (B (decide (i ∈ ns))) := fun Z H vx vy _ rx ry Q k => by
  obtain ⟨q, ws, rfl, _, hq, rq⟩ := ry
  have e1 : vx = .int i := rx
  have e2 := Reps.zD.mp rq
  subst e1 e2
  exact ⟨q, _, rfl, .inl (SqL.of hq), rfl, flat_ints ns, k _ H (fun _ _ h => h) (by show V.bl _ = V.bl _; rw [if_neg (by decide), inV_ints])⟩
theorem rd_niT {i : Int} {ns : List Int} : RD (rIn K true) (I i) (.t (zD ns)) (B (!decide (i ∈ ns))) := fun Z H vx vy _ rx ry Q k => by
  obtain ⟨q, ws, rfl, _, hq, rq⟩ := ry
  have e1 : vx = .int i := rx
  have e2 := Reps.zD.mp rq
  subst e1 e2
  exact ⟨q, _, rfl, .inr (SqT.of hq), rfl, flat_ints ns, k _ H (fun _ _ h => h) (by show V.bl _ = V.bl _; rw [if_pos rfl, inV_ints])⟩
theorem rd_niL {i : Int} {ns : List Int} : RD (rIn K true) (I i) (.l (zD ns)) (B (!decide (i ∈ ns))) := fun Z H vx vy _ rx ry Q k => by
  obtain ⟨q, ws, rfl, _, hq, rq⟩ := ry
  have e1 : vx = .int i := rx
  have e2 := Reps.zD.mp rq
  subst e1 e2
  exact ⟨q, _, rfl, .inl (SqL.of hq), rfl, flat_ints ns, k _ H (fun _ _ h => h) (by show V.bl _ = V.bl _; rw [if_pos rfl, inV_ints])⟩
theorem atI_reps {Z : Addr → Prop} {H : Hp} {ds : List D} {us : List V} {i : Int} {d : D} (r : Reps Z H ds us) (h : atI ds i = some d) : ∃ v, atI us i = some v ∧ Rep Z H d v := by
  unfold atI at *
  rw [r.len]
  cases e : ixN ds.length i with
  | none => rw [e] at h; cases h
  | some j =>
    rw [e] at h
    exact r.get (i := j) h
theorem rd_ixT {ds : List D} {i : Int} {d : D} (h : atI ds i = some d) : RD (rIx K) (.t ds) (I i) d := fun Z H vx vy _ rx ry Q k => by
  obtain ⟨q, ws, rfl, _, hq, rq⟩ := rx
  obtain ⟨v, h1, h2⟩ := atI_reps rq h
  exact .inr (.inl ⟨q, ws, i, v, rfl, ry, SqT.of hq, h1, k _ H (fun _ _ h => h) h2⟩)
theorem rd_ixL {ds : List D} {i : Int} {d : D} (h : atI ds i = some d) : RD (rIx K) (.l ds) (I i) d := fun Z H vx vy _ rx ry Q k => by
  obtain ⟨q, ws, rfl, _, hq, rq⟩ := rx
  obtain ⟨v, h1, h2⟩ := atI_reps rq h
  exact .inl ⟨q, ws, i, v, rfl, ry, SqL.of hq, h1, k _ H (fun _ _ h => h) h2⟩
def cutD {α : Type} (xs : List α) (lo hi : Option Int) : List α := (xs.drop (HT.sIx xs.length 0 lo)).take (HT.sIx xs.length xs.length hi - HT.sIx xs.length 0 lo)
theorem cut_reps {Z : Addr → Prop} {H : Hp} {ds : List D} {us : List V} {lo hi : Option Int} (r : Reps Z H ds us) : Reps Z H (cutD ds lo hi) (cutV us lo hi) := by
  unfold cutD cutV
  rw [r.len]
  exact Reps.take _ (Reps.drop _ r)
theorem sd_T {ds : List D} {lo hi : Option Int} : SD (rSlAny K) (.t ds) lo hi (.t (cutD ds lo hi)) := fun Z H vx d rx Q k => by
  obtain ⟨q, ws, rfl, nq, hq, rq⟩ := id rx
  refine .inr ⟨q, ws, rfl, SqT.of hq, fun ⟨e1, e2⟩ => ?_, fun _ p hp => ?_⟩
  · have e : cutD ds lo hi = ds := by
      unfold cutD
      rw [rq.len] at e1 e2
      rw [e1, e2]
      simp
    rw [e] at k
    exact k _ H (fun _ _ h => h) rx
  · have e : Ex H (upd H p (.tup (cutV ws lo hi))) := Ex.new hp
    exact k _ _ e ⟨p, _, rfl, fun z => d p z hp, upd_same, Reps.move (Lt.ex e) _ _ (cut_reps rq)⟩
theorem sd_L {ds : List D} {lo hi : Option Int} : SD (rSlAny K) (.l ds) lo hi (.l (cutD ds lo hi)) := fun Z H vx d rx Q k => by
  obtain ⟨q, ws, rfl, nq, hq, rq⟩ := id rx
  refine .inl ⟨q, ws, rfl, SqL.of hq, fun p hp => ?_⟩
  have e : Ex H (upd H p (.lst (cutV ws lo hi))) := Ex.new hp
  exact k _ _ e ⟨p, _, rfl, fun z => d p z hp, upd_same, Reps.move (Lt.ex e) _ _ (cut_reps rq)⟩
/-! ### built-ins -/
theorem cd_1 {u : List V → Hp → VK → Prop} {x z : D} (h : ∀ (Z : Addr → Prop) (H : Hp) (v : V), Dom Z H → Rep Z H x v → ∀ Q : VK, (∀ w H2, Ex H H2 → Rep Z H2 z w → Q w H2) → u [v] H Q) : CD u [x] z := fun Z H vs d r Q k => by
  obtain ⟨v, ys, rfl, r1, e⟩ := r
  have e' : ys = [] := e
  subst e'
  exact h Z H v d r1 Q k
theorem cd_lenT {ds : List D} : CD (rLenA K) [.t ds] (I ds.length) := cd_1 fun Z H v d r Q k => by
  obtain ⟨q, ws, rfl, nq, hq, rq⟩ := r
  exact .inl ⟨q, ws, rfl, .inr (SqT.of hq), k _ H (fun _ _ h => h) (by show V.int _ = V.int _; rw [rq.len])⟩
theorem cd_lenL {ds : List D} : CD (rLenA K) [.l ds] (I ds.length) := cd_1 fun Z H v d r Q k => by
  obtain ⟨q, ws, rfl, nq, hq, rq⟩ := r
  exact .inl ⟨q, ws, rfl, .inl (SqL.of hq), k _ H (fun _ _ h => h) (by show V.int _ = V.int _; rw [rq.len])⟩
theorem bls_flats (bs : List Bool) : bs.map B = flats (bs.map V.bl) := by unfold flats; rw [List.map_map]; rfl
theorem cd_all {bs : List Bool} : CD (rAll K) [.l (bs.map B)] (B (bs.all id)) := cd_1 fun Z H v d r Q k => by
  obtain ⟨q, ws, rfl, nq, hq, rq⟩ := r
  rw [bls_flats] at rq
  have e := Reps.flats.mp rq
  subst e
  exact ⟨q, bs, rfl, SqL.of hq, k _ H (fun _ _ h => h) rfl⟩
theorem cd_sortL {w : World} {ns : List Int} : CD (rSortA K w) [.l (zD ns)] (.l (zD (srt ns))) := cd_1 fun Z H v d r Q k => by
  obtain ⟨q, ws, rfl, nq, hq, rq⟩ := r
  have e := Reps.zD.mp rq
  subst e
  refine .inl ⟨q, ns, rfl, SqL.of hq, fun ns' p pm pw hp => ?_⟩
  have e : Ex H (upd H p (.lst (ns'.map V.int))) := Ex.new hp
  rw [← srt_is pm pw] at k
  exact k _ _ e ⟨p, _, rfl, fun z => d p z hp, upd_same, Reps.zD.mpr rfl⟩
theorem cd_sortT {w : World} {ns : List Int} : CD (rSortA K w) [.t (zD ns)] (.l (zD (srt ns))) := cd_1 fun Z H v d r Q k => by
  obtain ⟨q, ws, rfl, nq, hq, rq⟩ := r
  have e := Reps.zD.mp rq
  subst e
  refine .inr (.inr (.inl ⟨q, ns, rfl, SqT.of hq, fun ns' p pm pw hp => ?_⟩))
  have e : Ex H (upd H p (.lst (ns'.map V.int))) := Ex.new hp
  rw [← srt_is pm pw] at k
  exact k _ _ e ⟨p, _, rfl, fun z => d p z hp, upd_same, Reps.zD.mpr rfl⟩
def pD (p : Int × Int) : D := .t [I p.1, I p.2]
def keyP (H : Hp) (x : V) : Int × Int := match x with
  | .ref t => (match H t with
    | some (.tup [.int i, .int j]) => (i, j)
    | _ => (0, 0))
  | _ => (0, 0)
theorem pD_of {Z : Addr → Prop} {H : Hp} {p : Int × Int} {x : V} (r : Rep Z H (pD p) x) : ∃ t, x = .ref t ∧ ¬ Z t ∧ H t = some (.tup [.int p.1, .int p.2]) := by
  obtain ⟨t, ws, rfl, nt, ht, y, ys, rfl, e1, y2, ys2, rfl, e2, e3⟩ := r
  have e1 : y = .int p.1 := e1
  have e2 : y2 = .int p.2 := e2
  have e3 : ys2 = [] := e3
  subst e1 e2 e3
  exact ⟨t, rfl, nt, ht⟩
theorem pDs_of {Z : Addr → Prop} {H : Hp} : ∀ {ps : List (Int × Int)} {xs : List V}, Reps Z H (ps.map pD) xs → xs.map (keyP H) = ps ∧ ∀ x ∈ xs, ∃ t, x = .ref t ∧ ¬ Z t ∧ H t = some (.tup [.int (keyP H x).1, .int (keyP H x).2])
  | [], _, h => by cases h; exact ⟨rfl, fun _ h => nomatch h⟩
  | p :: ps, _, ⟨y, ys, e, r, rs⟩ => by
    subst e
    obtain ⟨h1, h2⟩ := pDs_of rs
    obtain ⟨t, rfl, nt, ht⟩ := pD_of r
    have ek : keyP H (.ref t) = p := by show (match H t with | some (.tup [.int i, .int j]) => (i, j) | _ => (0, 0)) = p; rw [ht]
    refine ⟨by rw [List.map_cons, h1, ek], fun x hx => ?_⟩
    rcases List.mem_cons.mp hx with e | e
    · rw [e]; exact ⟨t, rfl, nt, by rw [ek]; exact ht⟩
    · exact h2 x e
theorem pDs_to {Z : Addr → Prop} {H : Hp} : ∀ {xs : List V}, (∀ x ∈ xs, ∃ t, x = .ref t ∧ ¬ Z t ∧ H t = some (.tup [.int (keyP H x).1, .int (keyP H x).2])) → Reps Z H ((xs.map (keyP H)).map pD) xs
  | [], _ => rfl
  | x :: xs, h => by
    obtain ⟨t, e, nt, ht⟩ := h x (List.mem_cons_self ..)
    exact ⟨x, xs, rfl, ⟨t, _, e, nt, ht, _, _, rfl, rfl, _, _, rfl, rfl, rfl⟩, pDs_to fun y hy => h y (List.mem_cons_of_mem _ hy)⟩
theorem leP_of {p q : Int × Int} (h : SrtO.lexB q p = false) : leP p q = true := by
  rw [leP_iff]
  unfold SrtO.lexB at h
  split at h
  · rename_i e
    have := of_decide_eq_false h
    omega
  · rename_i e
    have := of_decide_eq_false h
    omega
theorem cd_sortP {w : World} {ps : List (Int × Int)} : CD (rSortA K w) [.l (ps.map pD)] (.l ((srtP ps).map pD)) := cd_1 fun Z H v d r Q k => by
  obtain ⟨q, ws, rfl, nq, hq, rq⟩ := r
  obtain ⟨h1, h2⟩ := pDs_of rq
  refine .inr (.inl ⟨q, ws, keyP H, rfl, SqL.of hq, fun x hx => let ⟨t, e1, _, e2⟩ := h2 x hx; ⟨t, e1, e2⟩, fun ys p hs hb hp => ?_⟩)
  have e : Ex H (upd H p (.lst ys)) := Ex.new hp
  have ep : ys.map (keyP H) = srtP ps := by
    refine srtP_is (by rw [← h1]; exact hb.perm.map _) ?_
    rw [List.pairwise_map]
    exact List.Pairwise.imp (fun {a b} h => leP_of h) hs
  rw [← ep] at k
  exact k _ _ e ⟨p, _, rfl, fun z => d p z hp, upd_same, Reps.move (Lt.ex e) _ _ (pDs_to fun x hx => h2 x (hb.perm.mem_iff.mp hx))⟩
end
end Dl

set_option maxRecDepth 100000
set_option maxHeartbeats 4100000
/-! Dl6: sets, dicts, ranges, classes -/
namespace Dl
open PySem PySem.Spec PyProof.Rows
open L2
open Evl (Ex)
section
variable {K : PySem.W.Frag} {w : World} {ρ : Rho} {te : TE} {Φ : Oc → Prop} {u : TS}
theorem cd_tupL {ds : List D} : CD (rTupOf K) [.l ds] (.t ds) := cd_1 fun Z H v d r Q k => by
  obtain ⟨q, ws, rfl, nq, hq, rq⟩ := r
  refine ⟨q, ws, rfl, .inl ⟨SqL.of hq, fun p hp => ?_⟩⟩
  have e : Ex H (upd H p (.tup ws)) := Ex.new hp
  exact k _ _ e ⟨p, _, rfl, fun z => d p z hp, upd_same, Reps.move (Lt.ex e) _ _ rq⟩
theorem cd_tupT {ds : List D} : CD (rTupOf K) [.t ds] (.t ds) := cd_1 fun Z H v d r Q k => by
  obtain ⟨q, ws, rfl, nq, hq, rq⟩ := id r
  exact ⟨q, ws, rfl, .inr ⟨SqT.of hq, k _ H (fun _ _ h => h) r⟩⟩
theorem cd_lstT {ds : List D} : CD (rLstOf K) [.t ds] (.l ds) := cd_1 fun Z H v d r Q k => by
  obtain ⟨q, ws, rfl, nq, hq, rq⟩ := r
  refine ⟨q, ws, rfl, .inr (SqT.of hq), fun p hp => ?_⟩
  have e : Ex H (upd H p (.lst ws)) := Ex.new hp
  exact k _ _ e ⟨p, _, rfl, fun z => d p z hp, upd_same, Reps.move (Lt.ex e) _ _ rq⟩
/-- tuple(range(n)), list(range(n)) -/
theorem zD_rg {Z : Addr → Prop} {H : Hp} {a b : Int} : Reps Z H (zD (rgL a b)) (rgV a b) := by
  rw [Reps.zD]
  unfold rgV rgL
  rw [List.map_map]
  rfl
theorem ev_tupRg {n : Int} (h : EV te ρ (I n)) (hn : 0 ≤ n ∧ n ≤ 100000) : EV (tTupRg (tRg1 te)) ρ (.t (zD (rgL 0 n))) := fun c Z H σ s Q k => h c Z H σ s _ fun d v H1 e g r => by
  subst e
  refine ⟨n, r, RgOk.of_le (by omega) (by omega) (by omega) (by omega), fun p hp => ?_⟩
  have e : Ex H1 (upd H1 p (.tup (rgV 0 n))) := Ex.new hp
  exact k _ _ _ rfl (g.x s e) ⟨p, _, rfl, fun z => (s.to g).dom p z hp, upd_same, zD_rg⟩
theorem ev_lstRg {n : Int} (h : EV te ρ (I n)) (hn : 0 ≤ n ∧ n ≤ 100000) : EV (tLstRg (tRg1 te)) ρ (.l (zD (rgL 0 n))) := fun c Z H σ s Q k => h c Z H σ s _ fun d v H1 e g r => by
  subst e
  refine ⟨n, r, RgOk.of_le (by omega) (by omega) (by omega) (by omega), fun p hp => ?_⟩
  have e : Ex H1 (upd H1 p (.lst (rgV 0 n))) := Ex.new hp
  exact k _ _ _ rfl (g.x s e) ⟨p, _, rfl, fun z => (s.to g).dom p z hp, upd_same, zD_rg⟩
/-- sorted(set(xs)) -/
theorem ev_sortset {ns : List Int} (h : EV te ρ (.l (zD ns))) (hl : ns.length < 64) : EV (tCB (rSortA K w) (tCons (tCB (rSetI K w) (tCons te tNil)) tNil)) ρ (.l (zD (sset ns))) := fun c Z H σ s Q k => h c Z H σ s _ fun d v H1 e g r => by
  subst e
  obtain ⟨q, ws, rfl, nq, hq, rq⟩ := r
  have ew := Reps.zD.mp rq
  subst ew
  refine ⟨q, ns, rfl, SqL.of hq, by omega, fun p n hn hp => ?_⟩
  have e1 : Ex H1 (upd H1 p (SetO w p (fun j => decide (j ∈ ns)) n)) := Ex.new hp
  refine .inr (.inr (.inr (.inr ⟨p, _, n, rfl, upd_same, by omega, fun ys p2 pw mem _ hp2 => ?_⟩)))
  have e2 := e1.trans (Ex.new (o := .lst (ys.map V.int)) hp2)
  have ey : ys = sset ns := sset_is (fun k => by rw [mem]; exact decide_eq_true_iff) pw
  rw [← ey] at k
  exact k _ _ _ rfl (g.x s e2) ⟨p2, _, rfl, fun z => (s.to g).dom p2 z (Evl.fresh_back e1 hp2), upd_same, Reps.zD.mpr rfl⟩
/-- isinstance -/
def tyD : D → Option String
  | .v .non => some "NoneType"
  | .v (.bl _) => some "bool"
  | .v (.int _) => some "int"
  | .v (.str _) => some "str"
  | .v _ => none
  | .t _ => some "tuple"
  | .l _ => some "list"
theorem cd_isi {x : D} {n m : String} {b : Bool} (h : tyD x = some m) (hk : kitB m n = some b) : CD (rIsi K) [x, .v (.ty n)] (B b) := fun Z H vs d r Q k => by
  obtain ⟨v, ys, rfl, r1, y2, ys2, rfl, e2, e3⟩ := r
  have e2 : y2 = .ty n := e2
  have e3 : ys2 = [] := e3
  subst e2 e3
  have ty : TyX K H v (.type m) := by
    cases x with
    | v x =>
      have e : v = x := r1
      subst e
      cases v <;> cases h
      · exact .base .non
      · exact .base (.bl _)
      · exact .base (.int _)
      · exact .base (.str _)
    | t ds =>
      obtain ⟨q, ws, rfl, nq, hq, rq⟩ := r1
      cases h
      exact .base (.tup hq)
    | l ds =>
      obtain ⟨q, ws, rfl, nq, hq, rq⟩ := r1
      cases h
      exact .base (.lst hq)
  exact ⟨v, .ty n, .type m, .type n, b, rfl, by first | exact .ty n | exact rfl | trivial | constructor, ty, kit_ty hk, k _ H (fun _ _ h => h) rfl⟩
theorem cd_abs {i : Int} : CD (fun xs H Q => ∃ i, xs = [.int i] ∧ Q (.int (if i < 0 then -i else i)) H) [I i] (I (if i < 0 then -i else i)) := cd_1 fun Z H v d r Q k => ⟨i, by rw [show v = .int i from r], k _ H (fun _ _ h => h) rfl⟩
theorem cd_int {i : Int} : CD (fun xs H Q => (∃ i, xs = [.int i] ∧ Q (.int i) H) ∨ ∃ k, xs = [.bl k] ∧ Q (.int (if k then 1 else 0)) H) [I i] (I i) := cd_1 fun Z H v d r Q k => .inl ⟨i, by rw [show v = .int i from r], k _ H (fun _ _ h => h) rfl⟩
/-! ### the own dict -/
def insK (k : Int) (ks : List Int) : List Int := if k ∈ ks then ks else ks ++ [k]
theorem kvT_any {k : Int} {ks : List Int} : ((kvT ks).any fun kv => decide (kv.1 = Sum.inl k)) = decide (k ∈ ks) := by
  unfold kvT
  rw [List.any_map]
  induction ks with
  | nil => rfl
  | cons x xs ih =>
    rw [List.any_cons, ih]
    by_cases h : x = k
    · subst h; simp
    · have h2 : ¬ k = x := fun e => h e.symm
      simp [h, h2]
theorem kvT_put {k : Int} {ks : List Int} : putK (kvT ks) (Sum.inl k) (V.bl true) = kvT (insK k ks) := by
  unfold putK insK
  rw [kvT_any]
  by_cases h : k ∈ ks
  · rw [if_pos (decide_eq_true h), if_pos h]
    unfold kvT
    rw [List.map_map]
    apply List.map_congr_left
    intro x _
    show (if (Sum.inl x : Key) = Sum.inl k then _ else _) = _
    split
    · rfl
    · rfl
  · rw [if_neg (by rw [decide_eq_false h]; decide), if_neg h]
    unfold kvT
    rw [List.map_append]
    rfl
theorem kvT_len (ks : List Int) : (kvT ks).length = ks.length := by unfold kvT; rw [List.length_map]
theorem insK_len (k : Int) (ks : List Int) : (insK k ks).length ≤ ks.length + 1 := by
  unfold insK
  split
  · omega
  · rw [List.length_append, List.length_singleton]; omega
/-- found = {} -/
theorem q_dnew {i : Nat} (k : ES u (ρ.set i (.o (.dk []))) Φ) : ES (tSeq (tAsg tDNewK (gName i)) u) ρ Φ := fun c Z H σ Dn s q p hp =>
  k c _ _ _ Dn (s.setO i hp (ct := .dk []) upd_same) (q.later ((lt_hide hp).trans (Lt.ex (Ex.new hp))))
/-- found[e] = True -/
theorem es_dput {ks : List Int} {i : Nat} {ty : TE} {k : Int} (hi : ρ[i]? = some (.o (.dk ks))) (h : EV ty ρ (I k)) (hl : ks.length ≤ 100000) (kk : Φ (.nx (ρ.set i (.o (.dk (insK k ks)))))) : ES (sDPut (tVar i) ty (tC (.bl true))) ρ Φ := fun c Z H σ Dn s q => by
  obtain ⟨a, h1, h2, h3, h4⟩ := s.own i _ hi
  refine ⟨.ref a, h1, ?_⟩
  refine h c Z H σ s _ fun d v H2 e g r => ?_
  subst e
  have na : ∀ q l ns, c.p = some (q, l, ns) → a ≠ q := fun q l ns e z => by rw [z] at h3; exact s.zd _ (s.stm _ _ _ e).1 h3
  have e4 := g.k a _ h2 na h4
  have s2 := s.to g
  have r' : v = kV (Sum.inl k) := r
  subst r'
  refine ⟨a, _, rfl, DPut.k e4 (by rw [kvT_len, sizeLine_eq]; omega), ?_⟩
  rw [kvT_put]
  exact q.nx _ Z _ σ kk (g.m.trans (lt_own s2 hi h1)) (s2.mut hi h1 upd_same)
/-- sorted(found) -/
theorem ev_sortdk {ks : List Int} {i : Nat} (hi : ρ[i]? = some (.o (.dk ks))) (hl : ks.length < 64) : EV (tCB (rSortA K w) (tCons (tVar i) tNil)) ρ (.l (zD (srt ks))) := fun c Z H σ s Q k => by
  obtain ⟨a, h1, h2, h3, h4⟩ := s.own i _ hi
  refine ⟨.ref a, h1, .inr (.inr (.inr (.inl ⟨a, kvT ks, ks, rfl, .inl h4, ?_, hl, fun ys p pm pw hp => ?_⟩)))⟩
  · unfold kvT; rw [List.map_map]; rfl
  · have e : Ex H (upd H p (.lst (ys.map V.int))) := Ex.new hp
    rw [← srt_is pm pw] at k
    exact k _ _ _ rfl (s.goX e) ⟨p, _, rfl, fun z => s.dom p z hp, upd_same, Reps.zD.mpr rfl⟩
/-- a return of what hangs on no own list -/
theorem es_retS {P : D → Prop} (h : EE te ρ P) (k : ∀ d, P d → Φ (.rt d)) : ES (tRet te) ρ Φ := fun c Z H σ Dn s q => h c Z H σ s _ fun d v H2 p g r =>
  q.rt d v H2 (k d p) (s.to g).ex (fun q l ns e => ((s.to g).stm q l ns e).2.2) (Rep.move (fun a o n e => ⟨fun z => n (s.out a z), e⟩) _ _ r)
/-- an item of an own list -/
theorem ev_ixO {ds : List D} {i : Nat} {ti : TE} {j : Int} {d : D} (hi : ρ[i]? = some (.o (.ls ds))) (h : EV ti ρ (I j)) (ha : atI ds j = some d) : EV (tOp (rIx K) (tVar i) ti) ρ d := fun c Z H σ s Q k => by
  obtain ⟨a, h1, h2, h3, xs, h4, h5⟩ := s.own i _ hi
  refine ⟨.ref a, h1, h c Z H σ s _ fun d' v H2 e g r => ?_⟩
  subst e
  have na : ∀ q l ns, c.p = some (q, l, ns) → a ≠ q := fun q l ns e z => by rw [z] at h3; exact s.zd _ (s.stm _ _ _ e).1 h3
  have e4 := g.k a _ h2 na h4
  obtain ⟨y, g1, g2⟩ := atI_reps h5 ha
  exact .inl ⟨a, xs, j, y, rfl, r, SqL.of e4, g1, k _ _ H2 rfl g (Rep.move g.m _ _ g2)⟩
/-! ### len({x: True for x in ns}) -/
def dkL (ns : List Int) : List Int := ns.foldl (fun ks k => insK k ks) []
theorem dkL_len (ns : List Int) : ∀ ks : List Int, (ns.foldl (fun ks k => insK k ks) ks).length ≤ ks.length + ns.length := by
  induction ns with
  | nil => intro ks; exact Nat.le_refl _
  | cons n ns ih =>
    intro ks
    have h1 := ih (insK n ks)
    have h2 := insK_len n ks
    rw [List.foldl_cons, List.length_cons]
    omega
theorem ev_lenDc {wi : TI} {j : Nat} {ns : List Int} (hs : Src wi (gName j) [j] ρ ns (bind1 j I)) (hj : j < ρ.length) (hl : ns.length ≤ 40000) :
    EV (tCB (rLenA K) (tCons (tDc wi (gName j) tYes (tVar j) (tC (.bl true)) [j]) tNil)) ρ (I (dkL ns).length) := fun c Z H σ s Q k => hs c Z H σ s _ fun J H1 g1 wk => by
  intro p hp
  have s1 := s.to g1
  have hq : ∀ q l ns, c.p = some (q, l, ns) → p ≠ q ∧ p ≠ l := fun q l ns e => by
    obtain ⟨_, _, cc, k, a1, a2, a3, a4⟩ := s1.stm q l ns e
    exact ⟨fun z => (by rw [← z, hp] at a3; cases a3), fun z => (by rw [← z, hp] at a4; cases a4)⟩
  let W : Nat → Nat → Hp → Prop := fun i m H' => m = ns.length - i ∧ i ≤ ns.length ∧ Go c Z H1 H' ∧ H' p = some (.dK (kvT (dkL (ns.take i))))
  refine ⟨W, ⟨ns.length, by simp, Nat.zero_le _, s1.goX (Ex.new hp), upd_same⟩, ?_⟩
  rintro i m H' ⟨rfl, hi, g2, hD⟩
  have hp' : H' p ≠ none := by rw [hD]; exact fun z => nomatch z
  have m2 := hideAt g2 hp
  obtain ⟨w1, w2, w3⟩ := wk (hide Z p) H' m2
  have hlen : (kvT (dkL (ns.take i))).length ≤ 40000 := by
    rw [kvT_len]
    have h1 := dkL_len (ns.take i) []
    have h2 : (ns.take i).length ≤ ns.length := by rw [List.length_take]; omega
    have h3 : (dkL (ns.take i)).length ≤ ([] : List Int).length + (ns.take i).length := h1
    simp only [List.length_nil] at h3
    omega
  by_cases hlt : i < ns.length
  · refine .inr ⟨w1 i hlt, fun H'' => ∃ m', m' < ns.length - i ∧ W (i + 1) m' H'', fun H'' h => h, fun v H3 y => ?_⟩
    have hx : ns[i]? = some ns[i] := by simp [hlt]
    have s2 : SR c (hide Z p) H' (wipe σ [j]) (wp ρ [j]) := (s1.wipe [j]).hideAt g2 hp hp'
    refine w3 i v H3 ns[i] hx y c _ _ s2 _ fun σ3 H4 e4 s4 l4 k4 => ⟨wipe_same l4 k4, ?_⟩
    unfold tYes
    dsimp only
    rw [if_pos rfl]
    have hv : (bind1 j I ns[i] (wp ρ [j]))[j]? = some (.d (I ns[i])) := by
      unfold bind1
      exact List.getElem?_set_self (by show j < ((wp ρ []).set j .un).length; rw [List.length_set]; exact hj)
    obtain ⟨vv, hv1, hv2⟩ := s4.data j _ hv
    have hv2' : vv = kV (Sum.inl ns[i]) := hv2
    subst hv2'
    refine ⟨_, hv1, kvT (dkL (ns.take i)), Sum.inl ns[i], rfl, e4 _ _ hD, by rw [sizeLine_eq]; omega, ns.length - (i + 1), by omega, rfl, hlt, ?_, ?_⟩
    · have ga := g2.x s1 e4
      refine ⟨fun a o n e => ⟨n, by rw [upd_ne (fun z => by rw [z, hp] at e; cases e)]; exact (ga.m a o n e).2⟩, fun a o hz hq e => by rw [upd_ne (fun z => by rw [z, hp] at e; cases e)]; exact ga.k a o hz hq e, fun q l ns e => ?_⟩
      obtain ⟨cc, kk, a1, a2, a3, a4⟩ := ga.st q l ns e
      exact ⟨cc, kk, a1, a2, by rw [upd_ne (fun z => (hq q l ns e).1 z.symm)]; exact a3, by rw [upd_ne (fun z => (hq q l ns e).2 z.symm)]; exact a4⟩
    · rw [upd_same, kvT_put]
      have e : dkL (ns.take (i + 1)) = insK ns[i] (dkL (ns.take i)) := by
        unfold dkL
        rw [take_succ_get hx, List.foldl_append]
        rfl
      rw [e]
  · have e : i = ns.length := by omega
    subst e
    rw [List.take_length] at hD hlen
    refine .inl ⟨w2, .inr ⟨p, _, rfl, hD, ?_⟩⟩
    rw [kvT_len]
    exact k _ _ _ rfl (g1.trans g2) rfl
end
end Dl

set_option maxRecDepth 100000
set_option maxHeartbeats 4100000
/-! the text by places, scopes, facts: printed by gen.py -/
namespace TT
open PySem PySem.Spec PyProof.Rows
open L2
open Dl
def top (i : Nat) : Stmt := PySem.Challenge.pw_tabletalk_k20_whole_any_order.main.body.getD i (.Pass ⟨0, 0, 0, 0⟩)
abbrev s_is_whole : Stmt := top 6
abbrev N_is_whole : List Str := ["value", "low", "high"]
abbrev P_is_whole : List Str := ["value", "low", "high"]
theorem sc_is_whole : FnScope N_is_whole P_is_whole (defScope s_is_whole) := ⟨rfl, rfl, rfl, by decide +kernel, rfl, by decide +kernel, by decide +kernel⟩
abbrev s_is_climbing : Stmt := top 7
abbrev N_is_climbing : List Str := ["value", "at"]
abbrev P_is_climbing : List Str := ["value"]
theorem sc_is_climbing : FnScope N_is_climbing P_is_climbing (defScope s_is_climbing) := ⟨rfl, rfl, rfl, by decide +kernel, rfl, by decide +kernel, by decide +kernel⟩
abbrev s_are_variables : Stmt := top 8
abbrev N_are_variables : List Str := ["value", "one"]
abbrev P_are_variables : List Str := ["value"]
theorem sc_are_variables : FnScope N_are_variables P_are_variables (defScope s_are_variables) := ⟨rfl, rfl, rfl, by decide +kernel, rfl, by decide +kernel, by decide +kernel⟩
abbrev s_is_scope : Stmt := top 9
abbrev N_is_scope : List Str := ["value"]
abbrev P_is_scope : List Str := ["value"]
theorem sc_is_scope : FnScope N_is_scope P_is_scope (defScope s_is_scope) := ⟨rfl, rfl, rfl, by decide +kernel, rfl, by decide +kernel, by decide +kernel⟩
abbrev s_is_number : Stmt := top 12
abbrev N_is_number : List Str := ["value", "low", "high"]
abbrev P_is_number : List Str := ["value", "low", "high"]
theorem sc_is_number : FnScope N_is_number P_is_number (defScope s_is_number) := ⟨rfl, rfl, rfl, by decide +kernel, rfl, by decide +kernel, by decide +kernel⟩
abbrev s_is_edge : Stmt := top 13
abbrev N_is_edge : List Str := ["value", "many", "one"]
abbrev P_is_edge : List Str := ["value", "many"]
theorem sc_is_edge : FnScope N_is_edge P_is_edge (defScope s_is_edge) := ⟨rfl, rfl, rfl, by decide +kernel, rfl, by decide +kernel, by decide +kernel⟩
abbrev s_is_graph : Stmt := top 14
abbrev N_is_graph : List Str := ["value", "values", "scopes", "edges", "one", "edge", "at"]
abbrev P_is_graph : List Str := ["value"]
theorem sc_is_graph : FnScope N_is_graph P_is_graph (defScope s_is_graph) := ⟨rfl, rfl, rfl, by decide +kernel, rfl, by decide +kernel, by decide +kernel⟩
abbrev s_variables_of : Stmt := top 15
abbrev N_variables_of : List Str := ["graph"]
abbrev P_variables_of : List Str := ["graph"]
theorem sc_variables_of : FnScope N_variables_of P_variables_of (defScope s_variables_of) := ⟨rfl, rfl, rfl, by decide +kernel, rfl, by decide +kernel, by decide +kernel⟩
abbrev s_scope_of : Stmt := top 16
abbrev N_scope_of : List Str := ["graph", "nodes", "found", "node", "variable"]
abbrev P_scope_of : List Str := ["graph", "nodes"]
theorem sc_scope_of : FnScope N_scope_of P_scope_of (defScope s_scope_of) := ⟨rfl, rfl, rfl, by decide +kernel, rfl, by decide +kernel, by decide +kernel⟩
abbrev s_check_graph : Stmt := top 18
abbrev N_check_graph : List Str := ["value"]
abbrev P_check_graph : List Str := ["value"]
theorem sc_check_graph : FnScope N_check_graph P_check_graph (defScope s_check_graph) := ⟨rfl, rfl, rfl, by decide +kernel, rfl, by decide +kernel, by decide +kernel⟩
abbrev s_is_node : Stmt := top 19
abbrev N_is_node : List Str := ["value", "graph"]
abbrev P_is_node : List Str := ["value", "graph"]
theorem sc_is_node : FnScope N_is_node P_is_node (defScope s_is_node) := ⟨rfl, rfl, rfl, by decide +kernel, rfl, by decide +kernel, by decide +kernel⟩
abbrev s_neighbours : Stmt := top 20
abbrev N_neighbours : List Str := ["graph", "node", "found", "one", "other"]
abbrev P_neighbours : List Str := ["graph", "node"]
theorem sc_neighbours : FnScope N_neighbours P_neighbours (defScope s_neighbours) := ⟨rfl, rfl, rfl, by decide +kernel, rfl, by decide +kernel, by decide +kernel⟩
abbrev s_shared : Stmt := top 21
abbrev N_shared : List Str := ["graph", "one", "other", "variable"]
abbrev P_shared : List Str := ["graph", "one", "other"]
theorem sc_shared : FnScope N_shared P_shared (defScope s_shared) := ⟨rfl, rfl, rfl, by decide +kernel, rfl, by decide +kernel, by decide +kernel⟩
abbrev s_hanging : Stmt := top 22
abbrev N_hanging : List Str := ["graph", "node", "among", "found", "at", "other"]
abbrev P_hanging : List Str := ["graph", "node", "among"]
theorem sc_hanging : FnScope N_hanging P_hanging (defScope s_hanging) := ⟨rfl, rfl, rfl, by decide +kernel, rfl, by decide +kernel, by decide +kernel⟩
abbrev s_having : Stmt := top 23
abbrev N_having : List Str := ["graph", "variable", "node", "scope"]
abbrev P_having : List Str := ["graph", "variable"]
theorem sc_having : FnScope N_having P_having (defScope s_having) := ⟨rfl, rfl, rfl, by decide +kernel, rfl, by decide +kernel, by decide +kernel⟩
abbrev s_has_cycle : Stmt := top 24
abbrev N_has_cycle : List Str := ["graph", "left", "count", "node"]
abbrev P_has_cycle : List Str := ["graph"]
theorem sc_has_cycle : FnScope N_has_cycle P_has_cycle (defScope s_has_cycle) := ⟨rfl, rfl, rfl, by decide +kernel, rfl, by decide +kernel, by decide +kernel⟩
abbrev s_split_variable : Stmt := top 25
abbrev N_split_variable : List Str := ["graph", "variable", "nodes"]
abbrev P_split_variable : List Str := ["graph"]
theorem sc_split_variable : FnScope N_split_variable P_split_variable (defScope s_split_variable) := ⟨rfl, rfl, rfl, by decide +kernel, rfl, by decide +kernel, by decide +kernel⟩
abbrev s_is_tree_like : Stmt := top 26
abbrev N_is_tree_like : List Str := ["graph", "nodes"]
abbrev P_is_tree_like : List Str := ["graph"]
theorem sc_is_tree_like : FnScope N_is_tree_like P_is_tree_like (defScope s_is_tree_like) := ⟨rfl, rfl, rfl, by decide +kernel, rfl, by decide +kernel, by decide +kernel⟩
abbrev s_is_junction_tree : Stmt := top 27
abbrev N_is_junction_tree : List Str := ["graph"]
abbrev P_is_junction_tree : List Str := ["graph"]
theorem sc_is_junction_tree : FnScope N_is_junction_tree P_is_junction_tree (defScope s_is_junction_tree) := ⟨rfl, rfl, rfl, by decide +kernel, rfl, by decide +kernel, by decide +kernel⟩
abbrev s_are_nodes : Stmt := top 29
abbrev N_are_nodes : List Str := ["value", "graph", "node"]
abbrev P_are_nodes : List Str := ["value", "graph"]
theorem sc_are_nodes : FnScope N_are_nodes P_are_nodes (defScope s_are_nodes) := ⟨rfl, rfl, rfl, by decide +kernel, rfl, by decide +kernel, by decide +kernel⟩
abbrev s_is_order : Stmt := top 30
abbrev N_is_order : List Str := ["graph", "value", "at", "node", "before", "near", "other", "variable"]
abbrev P_is_order : List Str := ["graph", "value"]
theorem sc_is_order : FnScope N_is_order P_is_order (defScope s_is_order) := ⟨rfl, rfl, rfl, by decide +kernel, rfl, by decide +kernel, by decide +kernel⟩
abbrev s_accepts_order : Stmt := top 31
abbrev N_accepts_order : List Str := ["graph", "value"]
abbrev P_accepts_order : List Str := ["graph", "value"]
theorem sc_accepts_order : FnScope N_accepts_order P_accepts_order (defScope s_accepts_order) := ⟨rfl, rfl, rfl, by decide +kernel, rfl, by decide +kernel, by decide +kernel⟩
abbrev s_l_stream : Stmt := top 33
abbrev N_l_stream : List Str := ["_law_script"]
abbrev P_l_stream : List Str := ["_law_script"]
theorem sc_l_stream : FnScope N_l_stream P_l_stream (defScope s_l_stream) := ⟨rfl, rfl, rfl, by decide +kernel, rfl, by decide +kernel, by decide +kernel⟩
abbrev s_l_next : Stmt := top 34
abbrev N_l_next : List Str := ["_law_stream_here", "_law_many", "_law_k", "_law_cell", "_law_digit"]
abbrev P_l_next : List Str := ["_law_stream_here", "_law_many"]
theorem sc_l_next : FnScope N_l_next P_l_next (defScope s_l_next) := ⟨rfl, rfl, rfl, by decide +kernel, rfl, by decide +kernel, by decide +kernel⟩
abbrev s_l_is_integer : Stmt := top 35
abbrev N_l_is_integer : List Str := ["_law_actual"]
abbrev P_l_is_integer : List Str := ["_law_actual"]
theorem sc_l_is_integer : FnScope N_l_is_integer P_l_is_integer (defScope s_l_is_integer) := ⟨rfl, rfl, rfl, by decide +kernel, rfl, by decide +kernel, by decide +kernel⟩
abbrev s_l_equal : Stmt := top 36
abbrev N_l_equal : List Str := ["_law_actual", "_law_due", "_law_at"]
abbrev P_l_equal : List Str := ["_law_actual", "_law_due"]
theorem sc_l_equal : FnScope N_l_equal P_l_equal (defScope s_l_equal) := ⟨rfl, rfl, rfl, by decide +kernel, rfl, by decide +kernel, by decide +kernel⟩
abbrev s_l_scope : Stmt := top 37
abbrev N_l_scope : List Str := ["_law_stream_here", "_law_variables_here", "_law_found", "_law_variable"]
abbrev P_l_scope : List Str := ["_law_stream_here", "_law_variables_here"]
theorem sc_l_scope : FnScope N_l_scope P_l_scope (defScope s_l_scope) := ⟨rfl, rfl, rfl, by decide +kernel, rfl, by decide +kernel, by decide +kernel⟩
abbrev s_l_any_graph : Stmt := top 38
abbrev N_l_any_graph : List Str := ["_law_stream_here", "_law_most", "_law_many", "_law_variables_here", "_law_scopes", "_law_node", "_law_edges", "_law_one", "_law_other"]
abbrev P_l_any_graph : List Str := ["_law_stream_here", "_law_most"]
theorem sc_l_any_graph : FnScope N_l_any_graph P_l_any_graph (defScope s_l_any_graph) := ⟨rfl, rfl, rfl, by decide +kernel, rfl, by decide +kernel, by decide +kernel⟩
abbrev s_l_tree : Stmt := top 39
abbrev N_l_tree : List Str := ["_law_stream_here", "_law_most", "_law_many", "_law_scopes", "_law_edges", "_law_fresh", "_law_node", "_law_near_here", "_law_scope_here", "_law_variable"]
abbrev P_l_tree : List Str := ["_law_stream_here", "_law_most"]
theorem sc_l_tree : FnScope N_l_tree P_l_tree (defScope s_l_tree) := ⟨rfl, rfl, rfl, by decide +kernel, rfl, by decide +kernel, by decide +kernel⟩
abbrev s_l_some_graph : Stmt := top 40
abbrev N_l_some_graph : List Str := ["_law_stream_here", "_law_most", "_law_graph", "_law_at"]
abbrev P_l_some_graph : List Str := ["_law_stream_here", "_law_most"]
theorem sc_l_some_graph : FnScope N_l_some_graph P_l_some_graph (defScope s_l_some_graph) := ⟨rfl, rfl, rfl, by decide +kernel, rfl, by decide +kernel, by decide +kernel⟩
abbrev s_l_near : Stmt := top 41
abbrev N_l_near : List Str := ["_law_graph", "_law_node", "_law_found", "_law_one", "_law_other"]
abbrev P_l_near : List Str := ["_law_graph", "_law_node"]
theorem sc_l_near : FnScope N_l_near P_l_near (defScope s_l_near) := ⟨rfl, rfl, rfl, by decide +kernel, rfl, by decide +kernel, by decide +kernel⟩
abbrev s_l_hanging : Stmt := top 42
abbrev N_l_hanging : List Str := ["_law_graph", "_law_node", "_law_among", "_law_found", "_law_turn", "_law_other"]
abbrev P_l_hanging : List Str := ["_law_graph", "_law_node", "_law_among"]
theorem sc_l_hanging : FnScope N_l_hanging P_l_hanging (defScope s_l_hanging) := ⟨rfl, rfl, rfl, by decide +kernel, rfl, by decide +kernel, by decide +kernel⟩
abbrev s_l_having : Stmt := top 43
abbrev N_l_having : List Str := ["_law_graph", "_law_variable", "_law_node"]
abbrev P_l_having : List Str := ["_law_graph", "_law_variable"]
theorem sc_l_having : FnScope N_l_having P_l_having (defScope s_l_having) := ⟨rfl, rfl, rfl, by decide +kernel, rfl, by decide +kernel, by decide +kernel⟩
abbrev s_l_variables : Stmt := top 44
abbrev N_l_variables : List Str := ["_law_graph", "_law_found", "_law_scope_here"]
abbrev P_l_variables : List Str := ["_law_graph"]
theorem sc_l_variables : FnScope N_l_variables P_l_variables (defScope s_l_variables) := ⟨rfl, rfl, rfl, by decide +kernel, rfl, by decide +kernel, by decide +kernel⟩
abbrev s_l_shared : Stmt := top 45
abbrev N_l_shared : List Str := ["_law_graph", "_law_one", "_law_other", "_law_variable"]
abbrev P_l_shared : List Str := ["_law_graph", "_law_one", "_law_other"]
theorem sc_l_shared : FnScope N_l_shared P_l_shared (defScope s_l_shared) := ⟨rfl, rfl, rfl, by decide +kernel, rfl, by decide +kernel, by decide +kernel⟩
abbrev s_l_ways : Stmt := top 46
abbrev N_l_ways : List Str := ["_law_graph", "_law_one", "_law_other", "_law_found", "_law_row", "_law_turn", "_law_way", "_law_node"]
abbrev P_l_ways : List Str := ["_law_graph", "_law_one", "_law_other"]
theorem sc_l_ways : FnScope N_l_ways P_l_ways (defScope s_l_ways) := ⟨rfl, rfl, rfl, by decide +kernel, rfl, by decide +kernel, by decide +kernel⟩
abbrev s_l_cycles : Stmt := top 47
abbrev N_l_cycles : List Str := ["_law_graph", "_law_found", "_law_one", "_law_other", "_law_way"]
abbrev P_l_cycles : List Str := ["_law_graph"]
theorem sc_l_cycles : FnScope N_l_cycles P_l_cycles (defScope s_l_cycles) := ⟨rfl, rfl, rfl, by decide +kernel, rfl, by decide +kernel, by decide +kernel⟩
abbrev s_l_is_junction : Stmt := top 48
abbrev N_l_is_junction : List Str := ["_law_graph", "_law_nodes", "_law_variable", "_law_those"]
abbrev P_l_is_junction : List Str := ["_law_graph"]
theorem sc_l_is_junction : FnScope N_l_is_junction P_l_is_junction (defScope s_l_is_junction) := ⟨rfl, rfl, rfl, by decide +kernel, rfl, by decide +kernel, by decide +kernel⟩
abbrev s_l_is_order : Stmt := top 49
abbrev N_l_is_order : List Str := ["_law_graph", "_law_order", "_law_k", "_law_near_here", "_law_node", "_law_variable"]
abbrev P_l_is_order : List Str := ["_law_graph", "_law_order"]
theorem sc_l_is_order : FnScope N_l_is_order P_l_is_order (defScope s_l_is_order) := ⟨rfl, rfl, rfl, by decide +kernel, rfl, by decide +kernel, by decide +kernel⟩
abbrev s_l_orders : Stmt := top 50
abbrev N_l_orders : List Str := ["_law_many", "_law_found", "_law_node", "_law_longer", "_law_order", "_law_place"]
abbrev P_l_orders : List Str := ["_law_many"]
theorem sc_l_orders : FnScope N_l_orders P_l_orders (defScope s_l_orders) := ⟨rfl, rfl, rfl, by decide +kernel, rfl, by decide +kernel, by decide +kernel⟩
abbrev s_law : Stmt := top 51
abbrev N_law : List Str := ["_law_script", "_law_stream_here", "_law_graph", "_law_many", "_law_first", "_law_order", "_law_due", "_law_tree_here", "_law_two", "_law_odd"]
abbrev P_law : List Str := ["_law_script"]
theorem sc_law : FnScope N_law P_law (defScope s_law) := ⟨rfl, rfl, rfl, by decide +kernel, rfl, by decide +kernel, by decide +kernel⟩
theorem bo_len : bootBuiltins "len" = some (.builtin "len") := by decide +kernel
theorem bo_all : bootBuiltins "all" = some (.builtin "all") := by decide +kernel
theorem bo_sorted : bootBuiltins "sorted" = some (.builtin "sorted") := by decide +kernel
theorem bo_tuple : bootBuiltins "tuple" = some (.type "tuple") := by decide +kernel
theorem bo_list : bootBuiltins "list" = some (.type "list") := by decide +kernel
theorem bo_set : bootBuiltins "set" = some (.type "set") := by decide +kernel
theorem bo_abs : bootBuiltins "abs" = some (.builtin "abs") := by decide +kernel
theorem bo_int : bootBuiltins "int" = some (.type "int") := by decide +kernel
theorem bo_isinstance : bootBuiltins "isinstance" = some (.builtin "isinstance") := by decide +kernel
theorem bo_bool : bootBuiltins "bool" = some (.type "bool") := by decide +kernel
structure Txt (K : PySem.W.Frag) (mg : Str → Option Value) where
  f_is_whole : Addr
  d_is_whole : FuncData
  F_is_whole : FnP K "is_whole" s_is_whole f_is_whole d_is_whole
  g_is_whole : mg "is_whole" = some (.ref f_is_whole)
  bd_is_whole : Binds K d_is_whole P_is_whole []
  f_is_climbing : Addr
  d_is_climbing : FuncData
  F_is_climbing : FnP K "is_climbing" s_is_climbing f_is_climbing d_is_climbing
  g_is_climbing : mg "is_climbing" = some (.ref f_is_climbing)
  bd_is_climbing : Binds K d_is_climbing P_is_climbing []
  f_are_variables : Addr
  d_are_variables : FuncData
  F_are_variables : FnP K "are_variables" s_are_variables f_are_variables d_are_variables
  g_are_variables : mg "are_variables" = some (.ref f_are_variables)
  bd_are_variables : Binds K d_are_variables P_are_variables []
  f_is_scope : Addr
  d_is_scope : FuncData
  F_is_scope : FnP K "is_scope" s_is_scope f_is_scope d_is_scope
  g_is_scope : mg "is_scope" = some (.ref f_is_scope)
  bd_is_scope : Binds K d_is_scope P_is_scope []
  f_is_number : Addr
  d_is_number : FuncData
  F_is_number : FnP K "is_number" s_is_number f_is_number d_is_number
  g_is_number : mg "is_number" = some (.ref f_is_number)
  bd_is_number : Binds K d_is_number P_is_number []
  f_is_edge : Addr
  d_is_edge : FuncData
  F_is_edge : FnP K "is_edge" s_is_edge f_is_edge d_is_edge
  g_is_edge : mg "is_edge" = some (.ref f_is_edge)
  bd_is_edge : Binds K d_is_edge P_is_edge []
  f_is_graph : Addr
  d_is_graph : FuncData
  F_is_graph : FnP K "is_graph" s_is_graph f_is_graph d_is_graph
  g_is_graph : mg "is_graph" = some (.ref f_is_graph)
  bd_is_graph : Binds K d_is_graph P_is_graph []
  f_variables_of : Addr
  d_variables_of : FuncData
  F_variables_of : FnP K "variables_of" s_variables_of f_variables_of d_variables_of
  g_variables_of : mg "variables_of" = some (.ref f_variables_of)
  bd_variables_of : Binds K d_variables_of P_variables_of []
  f_scope_of : Addr
  d_scope_of : FuncData
  F_scope_of : FnP K "scope_of" s_scope_of f_scope_of d_scope_of
  g_scope_of : mg "scope_of" = some (.ref f_scope_of)
  bd_scope_of : Binds K d_scope_of P_scope_of []
  f_check_graph : Addr
  d_check_graph : FuncData
  F_check_graph : FnP K "check_graph" s_check_graph f_check_graph d_check_graph
  g_check_graph : mg "check_graph" = some (.ref f_check_graph)
  bd_check_graph : Binds K d_check_graph P_check_graph []
  f_is_node : Addr
  d_is_node : FuncData
  F_is_node : FnP K "is_node" s_is_node f_is_node d_is_node
  g_is_node : mg "is_node" = some (.ref f_is_node)
  bd_is_node : Binds K d_is_node P_is_node []
  f_neighbours : Addr
  d_neighbours : FuncData
  F_neighbours : FnP K "neighbours" s_neighbours f_neighbours d_neighbours
  g_neighbours : mg "neighbours" = some (.ref f_neighbours)
  bd_neighbours : Binds K d_neighbours P_neighbours []
  f_shared : Addr
  d_shared : FuncData
  F_shared : FnP K "shared" s_shared f_shared d_shared
  g_shared : mg "shared" = some (.ref f_shared)
  bd_shared : Binds K d_shared P_shared []
  f_hanging : Addr
  d_hanging : FuncData
  F_hanging : FnP K "hanging" s_hanging f_hanging d_hanging
  g_hanging : mg "hanging" = some (.ref f_hanging)
  bd_hanging : Binds K d_hanging P_hanging []
  f_having : Addr
  d_having : FuncData
  F_having : FnP K "having" s_having f_having d_having
  g_having : mg "having" = some (.ref f_having)
  bd_having : Binds K d_having P_having []
  f_has_cycle : Addr
  d_has_cycle : FuncData
  F_has_cycle : FnP K "has_cycle" s_has_cycle f_has_cycle d_has_cycle
  g_has_cycle : mg "has_cycle" = some (.ref f_has_cycle)
  bd_has_cycle : Binds K d_has_cycle P_has_cycle []
  f_split_variable : Addr
  d_split_variable : FuncData
  F_split_variable : FnP K "split_variable" s_split_variable f_split_variable d_split_variable
  g_split_variable : mg "split_variable" = some (.ref f_split_variable)
  bd_split_variable : Binds K d_split_variable P_split_variable []
  f_is_tree_like : Addr
  d_is_tree_like : FuncData
  F_is_tree_like : FnP K "is_tree_like" s_is_tree_like f_is_tree_like d_is_tree_like
  g_is_tree_like : mg "is_tree_like" = some (.ref f_is_tree_like)
  bd_is_tree_like : Binds K d_is_tree_like P_is_tree_like []
  f_is_junction_tree : Addr
  d_is_junction_tree : FuncData
  F_is_junction_tree : FnP K "is_junction_tree" s_is_junction_tree f_is_junction_tree d_is_junction_tree
  g_is_junction_tree : mg "is_junction_tree" = some (.ref f_is_junction_tree)
  bd_is_junction_tree : Binds K d_is_junction_tree P_is_junction_tree []
  f_are_nodes : Addr
  d_are_nodes : FuncData
  F_are_nodes : FnP K "are_nodes" s_are_nodes f_are_nodes d_are_nodes
  g_are_nodes : mg "are_nodes" = some (.ref f_are_nodes)
  bd_are_nodes : Binds K d_are_nodes P_are_nodes []
  f_is_order : Addr
  d_is_order : FuncData
  F_is_order : FnP K "is_order" s_is_order f_is_order d_is_order
  g_is_order : mg "is_order" = some (.ref f_is_order)
  bd_is_order : Binds K d_is_order P_is_order []
  f_accepts_order : Addr
  d_accepts_order : FuncData
  F_accepts_order : FnP K "accepts_order" s_accepts_order f_accepts_order d_accepts_order
  g_accepts_order : mg "accepts_order" = some (.ref f_accepts_order)
  bd_accepts_order : Binds K d_accepts_order P_accepts_order []
  f_l_stream : Addr
  d_l_stream : FuncData
  F_l_stream : FnP K "_law_stream" s_l_stream f_l_stream d_l_stream
  g_l_stream : mg "_law_stream" = some (.ref f_l_stream)
  bd_l_stream : Binds K d_l_stream P_l_stream []
  f_l_next : Addr
  d_l_next : FuncData
  F_l_next : FnP K "_law_next" s_l_next f_l_next d_l_next
  g_l_next : mg "_law_next" = some (.ref f_l_next)
  bd_l_next : Binds K d_l_next P_l_next []
  f_l_is_integer : Addr
  d_l_is_integer : FuncData
  F_l_is_integer : FnP K "_law_is_integer" s_l_is_integer f_l_is_integer d_l_is_integer
  g_l_is_integer : mg "_law_is_integer" = some (.ref f_l_is_integer)
  bd_l_is_integer : Binds K d_l_is_integer P_l_is_integer []
  f_l_equal : Addr
  d_l_equal : FuncData
  F_l_equal : FnP K "_law_equal" s_l_equal f_l_equal d_l_equal
  g_l_equal : mg "_law_equal" = some (.ref f_l_equal)
  bd_l_equal : Binds K d_l_equal P_l_equal []
  f_l_scope : Addr
  d_l_scope : FuncData
  F_l_scope : FnP K "_law_scope" s_l_scope f_l_scope d_l_scope
  g_l_scope : mg "_law_scope" = some (.ref f_l_scope)
  bd_l_scope : Binds K d_l_scope P_l_scope []
  f_l_any_graph : Addr
  d_l_any_graph : FuncData
  F_l_any_graph : FnP K "_law_any_graph" s_l_any_graph f_l_any_graph d_l_any_graph
  g_l_any_graph : mg "_law_any_graph" = some (.ref f_l_any_graph)
  bd_l_any_graph : Binds K d_l_any_graph P_l_any_graph []
  f_l_tree : Addr
  d_l_tree : FuncData
  F_l_tree : FnP K "_law_tree" s_l_tree f_l_tree d_l_tree
  g_l_tree : mg "_law_tree" = some (.ref f_l_tree)
  bd_l_tree : Binds K d_l_tree P_l_tree []
  f_l_some_graph : Addr
  d_l_some_graph : FuncData
  F_l_some_graph : FnP K "_law_some_graph" s_l_some_graph f_l_some_graph d_l_some_graph
  g_l_some_graph : mg "_law_some_graph" = some (.ref f_l_some_graph)
  bd_l_some_graph : Binds K d_l_some_graph P_l_some_graph []
  f_l_near : Addr
  d_l_near : FuncData
  F_l_near : FnP K "_law_near" s_l_near f_l_near d_l_near
  g_l_near : mg "_law_near" = some (.ref f_l_near)
  bd_l_near : Binds K d_l_near P_l_near []
  f_l_hanging : Addr
  d_l_hanging : FuncData
  F_l_hanging : FnP K "_law_hanging" s_l_hanging f_l_hanging d_l_hanging
  g_l_hanging : mg "_law_hanging" = some (.ref f_l_hanging)
  bd_l_hanging : Binds K d_l_hanging P_l_hanging []
  f_l_having : Addr
  d_l_having : FuncData
  F_l_having : FnP K "_law_having" s_l_having f_l_having d_l_having
  g_l_having : mg "_law_having" = some (.ref f_l_having)
  bd_l_having : Binds K d_l_having P_l_having []
  f_l_variables : Addr
  d_l_variables : FuncData
  F_l_variables : FnP K "_law_variables" s_l_variables f_l_variables d_l_variables
  g_l_variables : mg "_law_variables" = some (.ref f_l_variables)
  bd_l_variables : Binds K d_l_variables P_l_variables []
  f_l_shared : Addr
  d_l_shared : FuncData
  F_l_shared : FnP K "_law_shared" s_l_shared f_l_shared d_l_shared
  g_l_shared : mg "_law_shared" = some (.ref f_l_shared)
  bd_l_shared : Binds K d_l_shared P_l_shared []
  f_l_ways : Addr
  d_l_ways : FuncData
  F_l_ways : FnP K "_law_ways" s_l_ways f_l_ways d_l_ways
  g_l_ways : mg "_law_ways" = some (.ref f_l_ways)
  bd_l_ways : Binds K d_l_ways P_l_ways []
  f_l_cycles : Addr
  d_l_cycles : FuncData
  F_l_cycles : FnP K "_law_cycles" s_l_cycles f_l_cycles d_l_cycles
  g_l_cycles : mg "_law_cycles" = some (.ref f_l_cycles)
  bd_l_cycles : Binds K d_l_cycles P_l_cycles []
  f_l_is_junction : Addr
  d_l_is_junction : FuncData
  F_l_is_junction : FnP K "_law_is_junction" s_l_is_junction f_l_is_junction d_l_is_junction
  g_l_is_junction : mg "_law_is_junction" = some (.ref f_l_is_junction)
  bd_l_is_junction : Binds K d_l_is_junction P_l_is_junction []
  f_l_is_order : Addr
  d_l_is_order : FuncData
  F_l_is_order : FnP K "_law_is_order" s_l_is_order f_l_is_order d_l_is_order
  g_l_is_order : mg "_law_is_order" = some (.ref f_l_is_order)
  bd_l_is_order : Binds K d_l_is_order P_l_is_order []
  f_l_orders : Addr
  d_l_orders : FuncData
  F_l_orders : FnP K "_law_orders" s_l_orders f_l_orders d_l_orders
  g_l_orders : mg "_law_orders" = some (.ref f_l_orders)
  bd_l_orders : Binds K d_l_orders P_l_orders []
  t_MOST_VARIABLE : Tok
  c_MOST_VARIABLE : mg "MOST_VARIABLE" = some (.int 5 t_MOST_VARIABLE)
  t_WIDEST_SCOPE : Tok
  c_WIDEST_SCOPE : mg "WIDEST_SCOPE" = some (.int 3 t_WIDEST_SCOPE)
  t_MOST_NODES : Tok
  c_MOST_NODES : mg "MOST_NODES" = some (.int 5 t_MOST_NODES)
  b_len : mg "len" = none
  b_all : mg "all" = none
  b_sorted : mg "sorted" = none
  b_tuple : mg "tuple" = none
  b_list : mg "list" = none
  b_set : mg "set" = none
  b_abs : mg "abs" = none
  b_int : mg "int" = none
  b_isinstance : mg "isinstance" = none
  b_bool : mg "bool" = none
  b_range : mg "range" = none
  b_enumerate : mg "enumerate" = none
  b_str : mg "str" = none
/-! ### the head: facts by names -/
def D_is_whole : He.DefD := ⟨("is_whole", none), "is_whole", "is_whole", defArgs s_is_whole, defBody s_is_whole, defScope s_is_whole, [], []⟩
def D_is_climbing : He.DefD := ⟨("is_climbing", none), "is_climbing", "is_climbing", defArgs s_is_climbing, defBody s_is_climbing, defScope s_is_climbing, [], []⟩
def D_are_variables : He.DefD := ⟨("are_variables", none), "are_variables", "are_variables", defArgs s_are_variables, defBody s_are_variables, defScope s_are_variables, [], []⟩
def D_is_scope : He.DefD := ⟨("is_scope", none), "is_scope", "is_scope", defArgs s_is_scope, defBody s_is_scope, defScope s_is_scope, [], []⟩
def D_is_number : He.DefD := ⟨("is_number", none), "is_number", "is_number", defArgs s_is_number, defBody s_is_number, defScope s_is_number, [], []⟩
def D_is_edge : He.DefD := ⟨("is_edge", none), "is_edge", "is_edge", defArgs s_is_edge, defBody s_is_edge, defScope s_is_edge, [], []⟩
def D_is_graph : He.DefD := ⟨("is_graph", none), "is_graph", "is_graph", defArgs s_is_graph, defBody s_is_graph, defScope s_is_graph, [], []⟩
def D_variables_of : He.DefD := ⟨("variables_of", none), "variables_of", "variables_of", defArgs s_variables_of, defBody s_variables_of, defScope s_variables_of, [], []⟩
def D_scope_of : He.DefD := ⟨("scope_of", none), "scope_of", "scope_of", defArgs s_scope_of, defBody s_scope_of, defScope s_scope_of, [], []⟩
def D_check_graph : He.DefD := ⟨("check_graph", none), "check_graph", "check_graph", defArgs s_check_graph, defBody s_check_graph, defScope s_check_graph, [], []⟩
def D_is_node : He.DefD := ⟨("is_node", none), "is_node", "is_node", defArgs s_is_node, defBody s_is_node, defScope s_is_node, [], []⟩
def D_neighbours : He.DefD := ⟨("neighbours", none), "neighbours", "neighbours", defArgs s_neighbours, defBody s_neighbours, defScope s_neighbours, [], []⟩
def D_shared : He.DefD := ⟨("shared", none), "shared", "shared", defArgs s_shared, defBody s_shared, defScope s_shared, [], []⟩
def D_hanging : He.DefD := ⟨("hanging", none), "hanging", "hanging", defArgs s_hanging, defBody s_hanging, defScope s_hanging, [], []⟩
def D_having : He.DefD := ⟨("having", none), "having", "having", defArgs s_having, defBody s_having, defScope s_having, [], []⟩
def D_has_cycle : He.DefD := ⟨("has_cycle", none), "has_cycle", "has_cycle", defArgs s_has_cycle, defBody s_has_cycle, defScope s_has_cycle, [], []⟩
def D_split_variable : He.DefD := ⟨("split_variable", none), "split_variable", "split_variable", defArgs s_split_variable, defBody s_split_variable, defScope s_split_variable, [], []⟩
def D_is_tree_like : He.DefD := ⟨("is_tree_like", none), "is_tree_like", "is_tree_like", defArgs s_is_tree_like, defBody s_is_tree_like, defScope s_is_tree_like, [], []⟩
def D_is_junction_tree : He.DefD := ⟨("is_junction_tree", none), "is_junction_tree", "is_junction_tree", defArgs s_is_junction_tree, defBody s_is_junction_tree, defScope s_is_junction_tree, [], []⟩
def D_are_nodes : He.DefD := ⟨("are_nodes", none), "are_nodes", "are_nodes", defArgs s_are_nodes, defBody s_are_nodes, defScope s_are_nodes, [], []⟩
def D_is_order : He.DefD := ⟨("is_order", none), "is_order", "is_order", defArgs s_is_order, defBody s_is_order, defScope s_is_order, [], []⟩
def D_accepts_order : He.DefD := ⟨("accepts_order", none), "accepts_order", "accepts_order", defArgs s_accepts_order, defBody s_accepts_order, defScope s_accepts_order, [], []⟩
def D_l_stream : He.DefD := ⟨("_law_stream", none), "_law_stream", "_law_stream", defArgs s_l_stream, defBody s_l_stream, defScope s_l_stream, [], []⟩
def D_l_next : He.DefD := ⟨("_law_next", none), "_law_next", "_law_next", defArgs s_l_next, defBody s_l_next, defScope s_l_next, [], []⟩
def D_l_is_integer : He.DefD := ⟨("_law_is_integer", none), "_law_is_integer", "_law_is_integer", defArgs s_l_is_integer, defBody s_l_is_integer, defScope s_l_is_integer, [], []⟩
def D_l_equal : He.DefD := ⟨("_law_equal", none), "_law_equal", "_law_equal", defArgs s_l_equal, defBody s_l_equal, defScope s_l_equal, [], []⟩
def D_l_scope : He.DefD := ⟨("_law_scope", none), "_law_scope", "_law_scope", defArgs s_l_scope, defBody s_l_scope, defScope s_l_scope, [], []⟩
def D_l_any_graph : He.DefD := ⟨("_law_any_graph", none), "_law_any_graph", "_law_any_graph", defArgs s_l_any_graph, defBody s_l_any_graph, defScope s_l_any_graph, [], []⟩
def D_l_tree : He.DefD := ⟨("_law_tree", none), "_law_tree", "_law_tree", defArgs s_l_tree, defBody s_l_tree, defScope s_l_tree, [], []⟩
def D_l_some_graph : He.DefD := ⟨("_law_some_graph", none), "_law_some_graph", "_law_some_graph", defArgs s_l_some_graph, defBody s_l_some_graph, defScope s_l_some_graph, [], []⟩
def D_l_near : He.DefD := ⟨("_law_near", none), "_law_near", "_law_near", defArgs s_l_near, defBody s_l_near, defScope s_l_near, [], []⟩
def D_l_hanging : He.DefD := ⟨("_law_hanging", none), "_law_hanging", "_law_hanging", defArgs s_l_hanging, defBody s_l_hanging, defScope s_l_hanging, [], []⟩
def D_l_having : He.DefD := ⟨("_law_having", none), "_law_having", "_law_having", defArgs s_l_having, defBody s_l_having, defScope s_l_having, [], []⟩
def D_l_variables : He.DefD := ⟨("_law_variables", none), "_law_variables", "_law_variables", defArgs s_l_variables, defBody s_l_variables, defScope s_l_variables, [], []⟩
def D_l_shared : He.DefD := ⟨("_law_shared", none), "_law_shared", "_law_shared", defArgs s_l_shared, defBody s_l_shared, defScope s_l_shared, [], []⟩
def D_l_ways : He.DefD := ⟨("_law_ways", none), "_law_ways", "_law_ways", defArgs s_l_ways, defBody s_l_ways, defScope s_l_ways, [], []⟩
def D_l_cycles : He.DefD := ⟨("_law_cycles", none), "_law_cycles", "_law_cycles", defArgs s_l_cycles, defBody s_l_cycles, defScope s_l_cycles, [], []⟩
def D_l_is_junction : He.DefD := ⟨("_law_is_junction", none), "_law_is_junction", "_law_is_junction", defArgs s_l_is_junction, defBody s_l_is_junction, defScope s_l_is_junction, [], []⟩
def D_l_is_order : He.DefD := ⟨("_law_is_order", none), "_law_is_order", "_law_is_order", defArgs s_l_is_order, defBody s_l_is_order, defScope s_l_is_order, [], []⟩
def D_l_orders : He.DefD := ⟨("_law_orders", none), "_law_orders", "_law_orders", defArgs s_l_orders, defBody s_l_orders, defScope s_l_orders, [], []⟩
def D_law : He.DefD := ⟨("law", none), "law", "law", defArgs s_law, defBody s_law, defScope s_law, [], []⟩
def fn : List He.DefD := [D_is_whole, D_is_climbing, D_are_variables, D_is_scope, D_is_number, D_is_edge, D_is_graph, D_variables_of, D_scope_of, D_check_graph, D_is_node, D_neighbours, D_shared, D_hanging, D_having, D_has_cycle, D_split_variable, D_is_tree_like, D_is_junction_tree, D_are_nodes, D_is_order, D_accepts_order, D_l_stream, D_l_next, D_l_is_integer, D_l_equal, D_l_scope, D_l_any_graph, D_l_tree, D_l_some_graph, D_l_near, D_l_hanging, D_l_having, D_l_variables, D_l_shared, D_l_ways, D_l_cycles, D_l_is_junction, D_l_is_order, D_l_orders, D_law]
def fa1 : List He.Fa := [.glo "is_whole", .glo "is_climbing", .glo "are_variables", .glo "is_scope", .glo "is_number", .glo "is_edge", .glo "is_graph", .glo "variables_of", .glo "scope_of", .glo "check_graph", .glo "is_node", .glo "neighbours", .glo "shared", .glo "hanging", .glo "having", .glo "has_cycle", .glo "split_variable", .glo "is_tree_like", .glo "is_junction_tree", .glo "are_nodes", .glo "is_order", .glo "accepts_order", .glo "_law_stream", .glo "_law_next", .glo "_law_is_integer", .glo "_law_equal", .glo "_law_scope", .glo "_law_any_graph"]
def fa2 : List He.Fa := [.glo "_law_tree", .glo "_law_some_graph", .glo "_law_near", .glo "_law_hanging", .glo "_law_having", .glo "_law_variables", .glo "_law_shared", .glo "_law_ways", .glo "_law_cycles", .glo "_law_is_junction", .glo "_law_is_order", .glo "_law_orders", .glo "law", .int "MOST_VARIABLE" 5, .int "WIDEST_SCOPE" 3, .int "MOST_NODES" 5, .free "len", .free "all", .free "sorted", .free "tuple", .free "list", .free "set", .free "abs", .free "int", .free "isinstance", .free "bool", .free "range", .free "enumerate", .free "str"]
def fa : List He.Fa := fa1 ++ fa2
def names1 : List Str := ["TableError", "BadValue", "MOST_VARIABLE", "WIDEST_SCOPE", "is_whole", "is_climbing", "are_variables", "is_scope", "MOST_NODES", "is_number", "is_edge", "is_graph", "variables_of", "scope_of", "check_graph", "is_node", "neighbours", "shared", "hanging", "having", "has_cycle", "split_variable"]
def names2 : List Str := ["is_tree_like", "is_junction_tree", "are_nodes", "is_order", "accepts_order", "_law_stream", "_law_next", "_law_is_integer", "_law_equal", "_law_scope", "_law_any_graph", "_law_tree", "_law_some_graph", "_law_near", "_law_hanging", "_law_having", "_law_variables", "_law_shared", "_law_ways", "_law_cycles", "_law_is_junction", "_law_is_order", "_law_orders"]
def names : List Str := names1 ++ names2
end TT

set_option maxRecDepth 100000
set_option maxHeartbeats 4100000
/-! F1: what is a graph -/
namespace TT
open PySem PySem.Spec PyProof.Rows
open L2
open Dl
section
variable {P : Program} {w : World} {K : PySem.W.Frag} {mg : Str → Option Value} {base : Heap} {ρ : Rho} {t : TA} {te : TE} {E : XK}
theorem kb (a b : String) {r : Bool} (h : kitB a b = r := by decide +kernel) : kitB a b = r := h
theorem ki_ii : kitB "int" "int" = some true := by decide +kernel
theorem ki_ib : kitB "int" "bool" = some false := by decide +kernel
theorem ki_bi : kitB "bool" "int" = some true := by decide +kernel
theorem ki_bb : kitB "bool" "bool" = some true := by decide +kernel
theorem ki_ni : kitB "NoneType" "int" = some false := by decide +kernel
theorem ki_si : kitB "str" "int" = some false := by decide +kernel
theorem ki_tt : kitB "tuple" "tuple" = some true := by decide +kernel
theorem ki_nt : kitB "NoneType" "tuple" = some false := by decide +kernel
theorem ki_it : kitB "int" "tuple" = some false := by decide +kernel
theorem ki_bt : kitB "bool" "tuple" = some false := by decide +kernel
theorem ki_lt : kitB "list" "tuple" = some false := by decide +kernel
theorem ki_st : kitB "str" "tuple" = some false := by decide +kernel
theorem ev_isi {x : D} {n m : String} {b : Bool} (hx : EV te ρ x) (h : tyD x = some m) (hk : kitB m n = some b) : EV (tCB (rIsi K) (tCons te (tCons (tC (.ty n)) tNil))) ρ (B b) := ev_cb (el_cons hx (el_cons ev_c el_nil)) (cd_isi h hk)
theorem ev_all {α : Type} {xs : List α} {f : α → Bool} (h : EV te ρ (.l (xs.map fun x => B (f x)))) : EV (tCB (rAll K) (tCons te tNil)) ρ (B (xs.all f)) := by
  have e : (xs.map fun x => B (f x)) = (xs.map f).map B := by rw [List.map_map]; rfl
  rw [e] at h
  exact (ev_cb1 h cd_all).is (by rw [List.all_map]; rfl)
/-! ### is_whole, is_number: where they hold -/
abbrev sp3 : Sp := spP (fun i : Int × Int × Int => [I i.1, I i.2.1, I i.2.2]) (fun i => i.2.1 ≤ i.1 ∧ i.1 ≤ i.2.2) (fun _ d => d = B true)
theorem cl3 {i lo hi : Int} (h : lo ≤ i ∧ i ≤ hi) (ha : EL t ρ [I i, I lo, I hi]) : EV (tCall sp3 [] E t) ρ (B true) := ev_call (z := fun _ => B true) (i, lo, hi) h ha
theorem ok_is_whole (T : Txt K mg) : FnOk P w K mg base CX0 1 T.f_is_whole T.d_is_whole P_is_whole sp3 := by
  refine okP T.F_is_whole sc_is_whole (fun _ => rfl) (by decide) fun cdv A' outer s H E hr => ⟨_, (pss_one (ps_ret (pe_and (pe_callB (call_isiA (K := K)) (by rfl) T.b_isinstance bo_isinstance (pa_cons (pv 0) (pa_cons (pe_bltn (v := .ty "int") (by rfl) T.b_int bo_int rfl) pa_nil))) (pe_and (pe_not (pe_callB (call_isiA (K := K)) (by rfl) T.b_isinstance bo_isinstance (pa_cons (pv 0) (pa_cons (pe_bltn (v := .ty "bool") (by rfl) T.b_bool bo_bool rfl) pa_nil)))) (pe_one (pe_chain op_le op_le (pv 1) (pv 0) (pv 2))))))), fun ⟨i, lo, hi⟩ h => ?_⟩
  refine s_ret (EV.is (ev_and (ev_isi (ev_var rfl) rfl ki_ii) fun _ => ev_and (ev_not (ev_isi (ev_var rfl) rfl ki_ib)) fun _ => ev_chain (ev_var rfl) (ev_var rfl) rd_0 (fun _ => ev_var rfl) (fun _ => rd_0)) ?_) rfl
  rw [decide_eq_true h.1, decide_eq_true h.2]
  rfl
theorem ok_is_number (T : Txt K mg) : FnOk P w K mg base CX0 1 T.f_is_number T.d_is_number P_is_number sp3 := by
  refine okP T.F_is_number sc_is_number (fun _ => rfl) (by decide) fun cdv A' outer s H E hr => ⟨_, (pss_one (ps_ret (pe_and (pe_callB (call_isiA (K := K)) (by rfl) T.b_isinstance bo_isinstance (pa_cons (pv 0) (pa_cons (pe_bltn (v := .ty "int") (by rfl) T.b_int bo_int rfl) pa_nil))) (pe_and (pe_not (pe_callB (call_isiA (K := K)) (by rfl) T.b_isinstance bo_isinstance (pa_cons (pv 0) (pa_cons (pe_bltn (v := .ty "bool") (by rfl) T.b_bool bo_bool rfl) pa_nil)))) (pe_one (pe_chain op_le op_le (pv 1) (pv 0) (pv 2))))))), fun ⟨i, lo, hi⟩ h => ?_⟩
  refine s_ret (EV.is (ev_and (ev_isi (ev_var rfl) rfl ki_ii) fun _ => ev_and (ev_not (ev_isi (ev_var rfl) rfl ki_ib)) fun _ => ev_chain (ev_var rfl) (ev_var rfl) rd_0 (fun _ => ev_var rfl) (fun _ => rd_0)) ?_) rfl
  rw [decide_eq_true h.1, decide_eq_true h.2]
  rfl
/-! ### short words -/
variable {Φ : Oc → Prop} {u v1 : TS} {tt tu : TT} {b : Bool}
theorem q_no {t : TS} (h : EB tt ρ false) (k : ES u ρ Φ) : ES (tSeq (tIfS tt t tNext) u) ρ Φ := q_if h (fun e => Bool.noConfusion e) (fun _ => k)
theorem q_yes {t : TS} (h : EB tt ρ true) (k : ES (tSeq t u) ρ Φ) : ES (tSeq (tIfS tt t tNext) u) ρ Φ := q_if h (fun _ => k) (fun e => Bool.noConfusion e)
theorem s_no {t : TS} (h : EB tt ρ false) (k : ES u ρ Φ) : ES (tIfS tt t u) ρ Φ := s_if h (fun e => Bool.noConfusion e) (fun _ => k)
theorem or0 (h : EB tt ρ false) (k : EB tu ρ b) : EB (tOr tt tu) ρ b := (eb_or h fun _ => k).is rfl
theorem not1 (h : EB tt ρ true) : EB (tNot tt) ρ false := eb_not h
theorem tru1 {b : Bool} (h : EV te ρ (B b)) : EB (fun σ H Q => te σ H fun x H' => ∃ k, TruV K x H' k ∧ Q k H') ρ b := eb_tru h trivial
theorem isT {x : D} {n m : String} (hx : EV te ρ x) (h : tyD x = some m) (hk : kitB m n = some true) : EB (fun σ H Q => (tCB (rIsi K) (tCons te (tCons (tC (.ty n)) tNil))) σ H fun x H' => ∃ k, TruV K x H' k ∧ Q k H') ρ true := tru1 (ev_isi hx h hk)
theorem q_unp3 {i j k : Nat} {d1 d2 d3 : D} (h : EV te ρ (.t [d1, d2, d3])) (kk : ES u (((ρ.set i (.d d1)).set j (.d d2)).set k (.d d3)) Φ) : ES (tSeq (tAsg te (gTup K 3 (gCons (gName i) (gCons (gName j) (gCons (gName k) gNil))))) u) ρ Φ := fun c Z H σ Dn s q => h c Z H σ s _ fun d v H2 e g r => by
  subst e
  obtain ⟨a, ws, rfl, _, ha, y1, w1, rfl, r1, y2, w2, rfl, r2, y3, w3, rfl, r3, e4⟩ := r
  have e4 : w3 = [] := e4
  subst e4
  exact ⟨a, _, rfl, SqT.of ha, rfl, _, _, rfl, _, _, rfl, _, _, rfl, rfl, kk c Z H2 _ Dn ((((s.to g).setD i r1).setD j r2).setD k r3) (q.later g.m)⟩
theorem mem_rgL {lo n x : Int} : x ∈ rgL lo n ↔ lo ≤ x ∧ x < n := by
  unfold rgL
  rw [List.mem_map]
  constructor
  · rintro ⟨i, hi, rfl⟩
    rw [List.mem_range] at hi
    omega
  · intro h
    exact ⟨(x - lo).toNat, by rw [List.mem_range]; omega, by omega⟩
theorem rgL_len {lo n : Int} : (rgL lo n).length = (n - lo).toNat := by unfold rgL; simp
theorem zD_len (s : List Int) : (zD s).length = s.length := by unfold zD; simp
theorem at_map {α : Type} {f : α → D} {xs : List α} {x : Int} {y : α} (h0 : 0 ≤ x) (h : xs[x.toNat]? = some y) : atI (xs.map f) x = some (f y) := by
  have e : x = ((x.toNat : Nat) : Int) := by omega
  rw [e]
  exact atI_nat (by rw [List.getElem?_map, h]; rfl)
theorem at_zD {s : List Int} {x : Int} (h0 : 0 ≤ x) (h1 : x < s.length) : atI (zD s) x = some (I (s.getD x.toNat 0)) := by
  refine at_map (f := I) h0 ?_
  rw [List.getD_eq_getElem?_getD, List.getElem?_eq_getElem (by omega)] <;> rfl
theorem adj {s : List Int} (h : s.Pairwise (· < ·)) {x : Int} (h0 : 0 ≤ x) (h1 : x + 1 < s.length) : s.getD x.toNat 0 < s.getD (x + 1).toNat 0 := by
  have e : (x + 1).toNat = x.toNat + 1 := by omega
  rw [List.getD_eq_getElem?_getD, List.getD_eq_getElem?_getD, List.getElem?_eq_getElem (show x.toNat < s.length by omega), List.getElem?_eq_getElem (show (x + 1).toNat < s.length by omega)]
  exact List.pairwise_iff_getElem.mp h _ _ _ _ (by omega)
/-! ### graphs -/
structure Gr where
  vals : Int
  sc : List (List Int)
  es : List (Int × Int)
def gD (g : Gr) : D := .t [I g.vals, .t (g.sc.map fun s => .t (zD s)), .t (g.es.map pD)]
structure WFs (s : List Int) : Prop where
  up : s.Pairwise (· < ·)
  rg : ∀ v ∈ s, 0 ≤ v ∧ v ≤ 5
  few : s.length ≤ 3
structure WF (g : Gr) : Prop where
  vals : 2 ≤ g.vals ∧ g.vals ≤ 3
  n1 : 1 ≤ g.sc.length
  n5 : g.sc.length ≤ 5
  sc : ∀ s ∈ g.sc, WFs s
  es : ∀ e ∈ g.es, 0 ≤ e.1 ∧ e.1 < e.2 ∧ e.2 < g.sc.length
  up : g.es.Pairwise fun a b => HT.lexLt [a.1, a.2] [b.1, b.2] = true
  few : g.es.length ≤ 30
abbrev spS1 : Sp := spP (fun s : List Int => [.t (zD s)]) WFs (fun _ d => d = B true)
theorem clS1 {s : List Int} (h : WFs s) (ha : EL t ρ [.t (zD s)]) : EV (tCall spS1 [] E t) ρ (B true) := ev_call (z := fun _ => B true) s h ha
theorem all_true {α : Type} {xs : List α} : xs.all (fun _ => true) = true := by simp
theorem ok_is_climbing (T : Txt K mg) : FnOk P w K mg base CX0 1 T.f_is_climbing T.d_is_climbing P_is_climbing spS1 := by
  refine okP T.F_is_climbing sc_is_climbing (fun _ => rfl) (by decide) fun cdv A' outer s H E hr => ⟨_, (pss_one (ps_ret (pe_callB (cr_allA (K := K) rfl) (by rfl) T.b_all bo_all (pa_cons (pe_lc (own := [("at", 1)]) (by rfl) sc_is_climbing.nd (pi_range1 (by rfl) T.b_range (pa_cons (pe_op op_sub (pe_callB (call_lenA (K := K)) (by rfl) T.b_len bo_len (pa_cons (pv 0) pa_nil)) pe_int) pa_nil)) (blkOk_by (own := [("at", 1)]) (N := N_is_climbing) (sc := defScope s_is_climbing) (by decide +kernel)) (fun _ _ _ _ _ => (pg_name (i := 1) sc_is_climbing.nd rfl (Or.inl rfl))) (fun _ _ _ _ _ => pts_nil) (fun _ _ _ _ _ => (pe_cmpR (op_ltA (K := K) hr.units0) (pe_ix (ix_any (K := K)) (pv 0) (pv 1) (fun _ _ => rfl)) (pe_ix (ix_any (K := K)) (pv 0) (pe_op (op_addA (K := K)) (pv 1) pe_int) (fun _ _ => rfl)) (nomark _)))) pa_nil)))), fun s h => ?_⟩
  have hf := h.few
  have hl := zD_len s
  refine s_ret (EV.is (ev_all (f := fun _ => true) (ev_lc0 (src_rng1 (el_cons (ev_op (ev_cb1 (ev_var rfl) cd_lenT) ev_c rd_0) el_nil) (by omega)) (fun _ => B true) (fun x hx => ?_) (by rw [rgL_len]; omega))) (congrArg B all_true)) rfl
  have hx' := mem_rgL.mp hx
  refine EV.is (ev_op (ev_op (ev_var rfl) (ev_var rfl) (rd_ixT (at_zD (s := s) hx'.1 (by omega)))) (ev_op (ev_var rfl) (ev_op (ev_var rfl) ev_c rd_addI) (rd_ixT (at_zD (s := s) (by omega) (by omega)))) rd_ltI) ?_
  rw [decide_eq_true (adj h.up hx'.1 (by omega))]
theorem ok_are_variables (T : Txt K mg) : FnOk P w K mg base CX0 2 T.f_are_variables T.d_are_variables P_are_variables spS1 := by
  refine okP T.F_are_variables sc_are_variables (fun _ => rfl) (by decide) fun cdv A' outer s H E hr => ⟨_, (pss_cons (ps_if (PW.pt (pw_or (pt_not (pt_truth (pe_callB (call_isiA (K := K)) (by rfl) T.b_isinstance bo_isinstance (pa_cons (pv 0) (pa_cons (pe_bltn (v := .ty "tuple") (by rfl) T.b_tuple bo_tuple rfl) pa_nil))) (by intro _; rfl))) (pw_or1 (pt_not (pt_truth (pe_callB (cr_allA (K := K) rfl) (by rfl) T.b_all bo_all (pa_cons (pe_lc (own := [("one", 1)]) (by rfl) sc_are_variables.nd (pi_tup (pv 0)) (blkOk_by (own := [("one", 1)]) (N := N_are_variables) (sc := defScope s_are_variables) (by decide +kernel)) (fun _ _ _ _ _ => (pg_name (i := 1) sc_are_variables.nd rfl (Or.inl rfl))) (fun _ _ _ _ _ => pts_nil) (fun _ _ _ _ _ => (pe_call (ok_is_whole T) (hr.mono (by decide)) rfl T.g_is_whole T.F_is_whole.kp T.bd_is_whole .nil pass0 (pa_cons (pv 1) (pa_cons pe_int (pa_cons (pe_glob (v := .int 5) rfl T.c_MOST_VARIABLE ⟨_, rfl⟩) pa_nil)))))) pa_nil)) (by intro _; rfl))))))
      (pss_one (ps_ret pe_bl))
      pss_nil)
    (pss_one (ps_ret (pe_call (ok_is_climbing T) (hr.mono (by decide)) rfl T.g_is_climbing T.F_is_climbing.kp T.bd_is_climbing .nil pass0 (pa_cons (pv 0) pa_nil))))), fun s h => ?_⟩
  have hf := h.few
  refine q_no (or0 (not1 (isT (ev_var rfl) rfl ki_tt)) (not1 (tru1 (EV.is (ev_all (f := fun _ => true) (ev_lc0 (src_tup (f := I) (xs := s) (ev_var rfl)) (fun _ => B true) (fun x hx => cl3 (h.rg x hx) (el_cons (ev_var rfl) (el_cons ev_c (el_cons ev_c el_nil)))) (by omega))) (congrArg B all_true))))) ?_
  exact s_ret (clS1 h (el_cons (ev_var rfl) el_nil)) rfl
theorem ok_is_scope (T : Txt K mg) : FnOk P w K mg base CX0 3 T.f_is_scope T.d_is_scope P_is_scope spS1 := by
  refine okP T.F_is_scope sc_is_scope (fun _ => rfl) (by decide) fun cdv A' outer s H E hr => ⟨_, (pss_one (ps_ret (pe_and (pe_call (ok_are_variables T) (hr.mono (by decide)) rfl T.g_are_variables T.F_are_variables.kp T.bd_are_variables .nil pass0 (pa_cons (pv 0) pa_nil)) (pe_one (pe_cmpR op_le (pe_callB (call_lenA (K := K)) (by rfl) T.b_len bo_len (pa_cons (pv 0) pa_nil)) (pe_glob (v := .int 3) rfl T.c_WIDEST_SCOPE ⟨_, rfl⟩) (nomark _)))))), fun s h => ?_⟩
  have hf := h.few
  have hl := zD_len s
  refine s_ret (EV.is (ev_and (clS1 h (el_cons (ev_var rfl) el_nil)) fun _ => ev_op (ev_cb1 (ev_var rfl) cd_lenT) ev_c rd_0) ?_) rfl
  rw [decide_eq_true (show (((zD s).length : Nat) : Int) ≤ 3 by omega)]
  rfl
abbrev spE1 : Sp := spP (fun i : (Int × Int) × Int => [pD i.1, I i.2]) (fun i => 0 ≤ i.1.1 ∧ i.1.1 < i.1.2 ∧ i.1.2 < i.2) (fun _ d => d = B true)
theorem clE1 {e : Int × Int} {n : Int} (h : 0 ≤ e.1 ∧ e.1 < e.2 ∧ e.2 < n) (ha : EL t ρ [pD e, I n]) : EV (tCall spE1 [] E t) ρ (B true) := ev_call (z := fun _ => B true) (e, n) h ha
theorem ok_is_edge (T : Txt K mg) : FnOk P w K mg base CX0 2 T.f_is_edge T.d_is_edge P_is_edge spE1 := by
  refine okP T.F_is_edge sc_is_edge (fun _ => rfl) (by decide) fun cdv A' outer s H E hr => ⟨_, (pss_cons (ps_if (PW.pt (pw_or (pt_not (pt_truth (pe_callB (call_isiA (K := K)) (by rfl) T.b_isinstance bo_isinstance (pa_cons (pv 0) (pa_cons (pe_bltn (v := .ty "tuple") (by rfl) T.b_tuple bo_tuple rfl) pa_nil))) (by intro _; rfl))) (pw_or (pt_cmpR (op_neA (K := K) hr.units) (pe_callB (call_lenA (K := K)) (by rfl) T.b_len bo_len (pa_cons (pv 0) pa_nil)) pe_int (nomark _)) (pw_or1 (pt_not (pt_truth (pe_callB (cr_allA (K := K) rfl) (by rfl) T.b_all bo_all (pa_cons (pe_lc (own := [("one", 2)]) (by rfl) sc_is_edge.nd (pi_tup (pv 0)) (blkOk_by (own := [("one", 2)]) (N := N_is_edge) (sc := defScope s_is_edge) (by decide +kernel)) (fun _ _ _ _ _ => (pg_name (i := 2) sc_is_edge.nd rfl (Or.inl rfl))) (fun _ _ _ _ _ => pts_nil) (fun _ _ _ _ _ => (pe_call (ok_is_number T) (hr.mono (by decide)) rfl T.g_is_number T.F_is_number.kp T.bd_is_number .nil pass0 (pa_cons (pv 2) (pa_cons pe_int (pa_cons (pe_op op_sub (pv 1) pe_int) pa_nil)))))) pa_nil)) (by intro _; rfl)))))))
      (pss_one (ps_ret pe_bl))
      pss_nil)
    (pss_one (ps_ret (pe_cmpR (op_ltA (K := K) hr.units0) (pe_ix (ix_any (K := K)) (pv 0) pe_int (fun _ _ => rfl)) (pe_ix (ix_any (K := K)) (pv 0) pe_int (fun _ _ => rfl)) (nomark _))))), fun ⟨⟨a, b⟩, n⟩ ⟨h0, h1, h2⟩ => ?_⟩
  have h0 : 0 ≤ a := h0
  have h1 : a < b := h1
  have h2 : b < n := h2
  refine q_no (or0 (not1 (isT (ev_var rfl) rfl ki_tt)) (or0 (eb_test (ev_op (ev_cb1 (ev_var (d := .t [I a, I b]) rfl) cd_lenT) ev_c rd_neI)) (not1 (tru1 (EV.is (ev_all (f := fun _ => true) (ev_lc0 (src_tup (f := I) (xs := [a, b]) (ev_var rfl)) (fun _ => B true) (fun x hx => cl3 ?_ (el_cons (ev_var rfl) (el_cons ev_c (el_cons (ev_op (ev_var rfl) ev_c rd_0) el_nil)))) (by show 2 ≤ 40000; decide))) (congrArg B all_true)))))) ?_
  · have hx' : x = a ∨ x = b := by simpa using hx
    constructor <;> omega
  · refine s_ret (EV.is (ev_op (ev_op (ev_var (d := .t [I a, I b]) rfl) ev_c (rd_ixT rfl)) (ev_op (ev_var (d := .t [I a, I b]) rfl) ev_c (rd_ixT rfl)) rd_ltI) ?_) rfl
    rw [decide_eq_true h1]
/-- a def that looks at a graph alone and is content -/
abbrev spG1 (z : D) : Sp := spP (fun g : Gr => [gD g]) WF (fun _ d => d = z)
theorem clG1 {z : D} {g : Gr} (h : WF g) (ha : EL t ρ [gD g]) : EV (tCall (spG1 z) [] E t) ρ z := ev_call (z := fun _ => z) g h ha
theorem ok_is_graph (T : Txt K mg) : FnOk P w K mg base CX0 4 T.f_is_graph T.d_is_graph P_is_graph (spG1 (B true)) := by
  refine okP T.F_is_graph sc_is_graph (fun _ => rfl) (by decide) fun cdv A' outer s H E hr => ⟨_, (pss_cons (ps_if (PW.pt (pw_or (pt_not (pt_truth (pe_callB (call_isiA (K := K)) (by rfl) T.b_isinstance bo_isinstance (pa_cons (pv 0) (pa_cons (pe_bltn (v := .ty "tuple") (by rfl) T.b_tuple bo_tuple rfl) pa_nil))) (by intro _; rfl))) (pw_or (pt_cmpR (op_neA (K := K) hr.units) (pe_callB (call_lenA (K := K)) (by rfl) T.b_len bo_len (pa_cons (pv 0) pa_nil)) pe_int (nomark _)) (pw_or1 (pt_not (pt_truth (pe_call (ok_is_number T) (hr.mono (by decide)) rfl T.g_is_number T.F_is_number.kp T.bd_is_number .nil pass0 (pa_cons (pe_ix (ix_any (K := K)) (pv 0) pe_int (fun _ _ => rfl)) (pa_cons pe_int (pa_cons pe_int pa_nil)))) (by intro _; rfl)))))))
      (pss_one (ps_ret pe_bl))
      pss_nil)
    (pss_cons (ps_asg (pv 0) (pg_tupA (K := K) rfl (pgs_cons (pg_name (i := 1) sc_is_graph.nd rfl (Or.inl rfl)) (pgs_cons (pg_name (i := 2) sc_is_graph.nd rfl (Or.inr rfl)) (pgs_cons (pg_name (i := 3) sc_is_graph.nd rfl (Or.inr rfl)) pgs_nil)))))
    (pss_cons (ps_if (PW.pt (pw_or (pt_not (pt_truth (pe_callB (call_isiA (K := K)) (by rfl) T.b_isinstance bo_isinstance (pa_cons (pv 2) (pa_cons (pe_bltn (v := .ty "tuple") (by rfl) T.b_tuple bo_tuple rfl) pa_nil))) (by intro _; rfl))) (pw_or1 (pt_not (pt_chain op_le op_le pe_int (pe_callB (call_lenA (K := K)) (by rfl) T.b_len bo_len (pa_cons (pv 2) pa_nil)) (pe_glob (v := .int 5) rfl T.c_MOST_NODES ⟨_, rfl⟩))))))
      (pss_one (ps_ret pe_bl))
      pss_nil)
    (pss_cons (ps_if (pt_not (pt_truth (pe_callB (cr_allA (K := K) rfl) (by rfl) T.b_all bo_all (pa_cons (pe_lc (own := [("one", 4)]) (by rfl) sc_is_graph.nd (pi_tup (pv 2)) (blkOk_by (own := [("one", 4)]) (N := N_is_graph) (sc := defScope s_is_graph) (by decide +kernel)) (fun _ _ _ _ _ => (pg_name (i := 4) sc_is_graph.nd rfl (Or.inl rfl))) (fun _ _ _ _ _ => pts_nil) (fun _ _ _ _ _ => (pe_call (ok_is_scope T) (hr.mono (by decide)) rfl T.g_is_scope T.F_is_scope.kp T.bd_is_scope .nil pass0 (pa_cons (pv 4) pa_nil)))) pa_nil)) (by intro _; rfl)))
      (pss_one (ps_ret pe_bl))
      pss_nil)
    (pss_cons (ps_if (PW.pt (pw_or (pt_not (pt_truth (pe_callB (call_isiA (K := K)) (by rfl) T.b_isinstance bo_isinstance (pa_cons (pv 3) (pa_cons (pe_bltn (v := .ty "tuple") (by rfl) T.b_tuple bo_tuple rfl) pa_nil))) (by intro _; rfl))) (pw_or1 (pt_not (pt_truth (pe_callB (cr_allA (K := K) rfl) (by rfl) T.b_all bo_all (pa_cons (pe_lc (own := [("edge", 5)]) (by rfl) sc_is_graph.nd (pi_tup (pv 3)) (blkOk_by (own := [("edge", 5)]) (N := N_is_graph) (sc := defScope s_is_graph) (by decide +kernel)) (fun _ _ _ _ _ => (pg_name (i := 5) sc_is_graph.nd rfl (Or.inl rfl))) (fun _ _ _ _ _ => pts_nil) (fun _ _ _ _ _ => (pe_call (ok_is_edge T) (hr.mono (by decide)) rfl T.g_is_edge T.F_is_edge.kp T.bd_is_edge .nil pass0 (pa_cons (pv 5) (pa_cons (pe_callB (call_lenA (K := K)) (by rfl) T.b_len bo_len (pa_cons (pv 2) pa_nil)) pa_nil))))) pa_nil)) (by intro _; rfl))))))
      (pss_one (ps_ret pe_bl))
      pss_nil)
    (pss_one (ps_ret (pe_callB (cr_allA (K := K) rfl) (by rfl) T.b_all bo_all (pa_cons (pe_lc (own := [("at", 6)]) (by rfl) sc_is_graph.nd (pi_range1 (by rfl) T.b_range (pa_cons (pe_op op_sub (pe_callB (call_lenA (K := K)) (by rfl) T.b_len bo_len (pa_cons (pv 3) pa_nil)) pe_int) pa_nil)) (blkOk_by (own := [("at", 6)]) (N := N_is_graph) (sc := defScope s_is_graph) (by decide +kernel)) (fun _ _ _ _ _ => (pg_name (i := 6) sc_is_graph.nd rfl (Or.inl rfl))) (fun _ _ _ _ _ => pts_nil) (fun _ _ _ _ _ => (pe_cmpR (op_ltA (K := K) hr.units0) (pe_ix (ix_any (K := K)) (pv 3) (pv 6) (fun _ _ => rfl)) (pe_ix (ix_any (K := K)) (pv 3) (pe_op (op_addA (K := K)) (pv 6) pe_int) (fun _ _ => rfl)) (nomark _)))) pa_nil))))))))), fun g h => ?_⟩
  have h1 := h.n1
  have h5 := h.n5
  have hn : ((g.sc.map fun s => D.t (zD s)).length : Int) = g.sc.length := by rw [List.length_map]
  have he : ((g.es.map pD).length : Int) = g.es.length := by rw [List.length_map]
  have hf := h.few
  refine q_no (or0 (not1 (isT (ev_var rfl) rfl ki_tt)) (or0 (eb_test (ev_op (ev_cb1 (ev_var (d := .t [I g.vals, .t (g.sc.map fun s => .t (zD s)), .t (g.es.map pD)]) rfl) cd_lenT) ev_c rd_neI))
    (not1 (tru1 (cl3 h.vals (el_cons (ev_op (ev_var (d := .t [I g.vals, .t (g.sc.map fun s => .t (zD s)), .t (g.es.map pD)]) rfl) ev_c (rd_ixT rfl)) (el_cons ev_c (el_cons ev_c el_nil)))))))) ?_
  refine q_unp3 (ev_var rfl) ?_
  refine q_no (or0 (not1 (isT (ev_var rfl) rfl ki_tt)) (not1 (eb_test (EV.is (ev_chain ev_c (ev_cb1 (ev_var rfl) cd_lenT) rd_0 (fun _ => ev_c) fun _ => rd_0) ?_)))) ?_
  · rw [decide_eq_true (show (1 : Int) ≤ (((g.sc.map fun s => D.t (zD s)).length : Nat) : Int) by omega), decide_eq_true (show (((g.sc.map fun s => D.t (zD s)).length : Nat) : Int) ≤ 5 by omega)]
    rfl
  refine q_no (not1 (tru1 (EV.is (ev_all (f := fun _ => true) (ev_lc0 (src_tup (f := fun s => D.t (zD s)) (xs := g.sc) (ev_var rfl)) (fun _ => B true) (fun x hx => clS1 (h.sc x hx) (el_cons (ev_var rfl) el_nil)) (by omega))) (congrArg B all_true)))) ?_
  refine q_no (or0 (not1 (isT (ev_var rfl) rfl ki_tt)) (not1 (tru1 (EV.is (ev_all (f := fun _ => true) (ev_lc0 (src_tup (f := pD) (xs := g.es) (ev_var rfl)) (fun _ => B true) (fun x hx => clE1 (n := (((g.sc.map fun s => D.t (zD s)).length : Nat) : Int)) (by rw [hn]; exact h.es x hx) (el_cons (ev_var rfl) (el_cons (ev_cb1 (ev_var rfl) cd_lenT) el_nil))) (by omega))) (congrArg B all_true))))) ?_
  refine s_ret (EV.is (ev_all (f := fun _ => true) (ev_lc0 (src_rng1 (el_cons (ev_op (ev_cb1 (ev_var rfl) cd_lenT) ev_c rd_0) el_nil) (by omega)) (fun _ => B true) (fun x hx => ?_) (by rw [rgL_len]; omega))) (congrArg B all_true)) rfl
  have hx' := mem_rgL.mp hx
  have i1 : x.toNat < g.es.length := by omega
  have i2 : (x + 1).toNat < g.es.length := by omega
  have e1 : g.es[x.toNat]? = some g.es[x.toNat] := List.getElem?_eq_getElem i1
  have e2 : g.es[(x + 1).toNat]? = some g.es[(x + 1).toNat] := List.getElem?_eq_getElem i2
  have up := List.pairwise_iff_getElem.mp h.up _ _ i1 i2 (by omega)
  refine EV.is (ev_op (ev_op (ev_var rfl) (ev_var rfl) (rd_ixT (at_map (f := pD) hx'.1 e1))) (ev_op (ev_var rfl) (ev_op (ev_var rfl) ev_c rd_addI) (rd_ixT (at_map (f := pD) (by omega) e2))) (rd_ltT (a := [g.es[x.toNat].1, g.es[x.toNat].2]) (b := [g.es[(x + 1).toNat].1, g.es[(x + 1).toNat].2]))) ?_
  rw [up]
theorem ok_check_graph (T : Txt K mg) : FnOk P w K mg base CX0 5 T.f_check_graph T.d_check_graph P_check_graph (spG1 (.v .non)) := by
  refine okP T.F_check_graph sc_check_graph (fun _ => rfl) (by decide) fun cdv A' outer s H E hr => ⟨_, (pss_one (ps_if (pt_not (pt_truth (pe_call (ok_is_graph T) (hr.mono (by decide)) rfl T.g_is_graph T.F_is_graph.kp T.bd_is_graph .nil pass0 (pa_cons (pv 0) pa_nil)) (by intro _; rfl)))
      (pss_one ps_never)
      pss_nil)), fun g h => ?_⟩
  exact s_no (not1 (tru1 (clG1 h (el_cons (ev_var rfl) el_nil)))) (es_next rfl)
end
end TT

set_option maxRecDepth 100000
set_option maxHeartbeats 4100000
/-! Mi: what the defs compute, in plain Lean -/
namespace TT
open PySem PySem.Spec PyProof.Rows
open L2
open Dl
def nbrs (es : List (Int × Int)) (x : Int) : List Int := srt ((es.filter fun e => decide (e.1 = x)).map (fun e => e.2) ++ (es.filter fun e => decide (e.2 = x)).map (fun e => e.1))
def sco (g : Gr) (i : Int) : List Int := g.sc.getD i.toNat []
def shr (g : Gr) (a b : Int) : List Int := (sco g a).filter fun v => decide (v ∈ sco g b)
def nds (g : Gr) : List Int := rgL 0 g.sc.length
def hav (g : Gr) (v : Int) : List Int := (nds g).filter fun i => decide (v ∈ sco g i)
def vrs (g : Gr) : List Int := sset g.sc.flatten
/-! the program's hanging -/
def hgW (es : List (Int × Int)) (am : List Int) : Nat → List Int → Nat → Option (List Int)
  | 0, fd, k => if k < fd.length then none else some fd
  | n + 1, fd, k => if k < fd.length then hgW es am n (fd ++ ((nbrs es (fd.getD k 0)).filter fun o => decide (o ∈ am) && !decide (o ∈ fd))) (k + 1) else some fd
def hang (es : List (Int × Int)) (x : Int) (am : List Int) : Option (List Int) := (hgW es am 12 [x] 0).map srt
def hcW (es : List (Int × Int)) : Nat → List Int → Int → Option Int
  | 0, l, c => if l.isEmpty then some c else none
  | n + 1, l, c => if l.isEmpty then some c else match hang es (l.getD 0 0) l with
    | none => none
    | some h => hcW es n (l.filter fun x => !decide (x ∈ h)) (c + 1)
def hasC (n : Int) (es : List (Int × Int)) : Option Bool := (hcW es 6 (rgL 0 n) 0).map fun c => decide (n - es.length < c)
/-- the nodes S hang together -/
def conn (es : List (Int × Int)) (S : List Int) : Bool := decide (hang es (S.getD 0 0) S = some S)
def treeP (g : Gr) : Bool := decide (hasC g.sc.length g.es = some false) && conn g.es (nds g) && (vrs g).all fun v => conn g.es (hav g v)
/-! the law's -/
def lhI (am : List Int) (f : List Int) (o : Int) : List Int := if decide (o ∈ am) && !decide (o ∈ f) then f ++ [o] else f
def lhS (es : List (Int × Int)) (am : List Int) (f : List Int) (k : Int) : List Int := if k < f.length then (nbrs es (f.getD k.toNat 0)).foldl (lhI am) f else f
def lhang (es : List (Int × Int)) (x : Int) (am : List Int) : List Int := srt ((rgL 0 am.length).foldl (lhS es am) [x])
def lst (w : List Int) : Int := w.getD (w.length - 1) 0
def wyT (es : List (Int × Int)) (o : Int) (s : List (List Int) × List (List Int)) (k : Nat) : List (List Int) × List (List Int) :=
  let way := s.2.getD k []
  (if lst way = o then s.1 ++ [way] else s.1, s.2 ++ ((nbrs es (lst way)).filter fun x => !decide (x ∈ way)).map fun x => way ++ [x])
def wyW (es : List (Int × Int)) (o : Int) : Nat → Nat → List (List Int) × List (List Int) → List (List Int)
  | 0, _, s => s.1
  | n + 1, k, s => if k < s.2.length then wyW es o n (k + 1) (wyT es o s k) else s.1
def ways (es : List (Int × Int)) (a o : Int) : List (List Int) := wyW es o 1000 0 ([], [[a]])
def cycs (es : List (Int × Int)) : List (List Int) := es.foldl (fun f e => f ++ (ways es e.1 e.2).filter fun w => decide (2 < (w.length : Int))) []
def lconn (es : List (Int × Int)) (S : List Int) : Bool := decide (lhang es (S.getD 0 0) S = S)
def treeL (g : Gr) : Bool := (cycs g.es).isEmpty && lconn g.es (nds g) && (vrs g).all fun v => lconn g.es (hav g v)
/-! orders -/
def nearB (es : List (Int × Int)) (o : List Int) (k : Int) : List Int := (nbrs es (o.getD k.toNat 0)).filter fun x => decide (x ∈ o.take k.toNat)
/-- at place k the order is good -/
def okAt (g : Gr) (o : List Int) (k : Int) : Bool := decide (((nearB g.es o k).length : Int) = 1) && (o.take k.toNat).all fun x => (shr g (o.getD k.toNat 0) x).all fun v => decide (v ∈ sco g ((nearB g.es o k).getD 0 0))
def ordL (g : Gr) (o : List Int) : Bool := decide (srt o = nds g) && (rgL 1 o.length).all fun k => okAt g o k
def ordsS (fd : List (List Int)) (x : Int) : List (List Int) := fd.flatMap fun o => (rgL 0 (o.length + 1)).map fun p => o.take p.toNat ++ [x] ++ o.drop p.toNat
def ords (n : Int) : List (List Int) := (rgL 0 n).foldl ordsS [[]]
end TT

set_option maxRecDepth 100000
set_option maxHeartbeats 4100000
/-! F2: neighbours, shared variables, who has a variable, nodes -/
namespace TT
open PySem PySem.Spec PyProof.Rows
open L2
open Dl
open Evl (Ex)
section
variable {P : Program} {w : World} {K : PySem.W.Frag} {mg : Str → Option Value} {base : Heap} {ρ : Rho} {t : TA} {te tx : TE} {E : XK}
abbrev scD (s : List Int) : D := .t (zD s)
theorem ev_g1 {g : Gr} (h : EV te ρ (gD g)) : EV (tOp (rIx K) te (tC (.int 1))) ρ (.t (g.sc.map scD)) := ev_op h ev_c (rd_ixT rfl)
theorem ev_g2 {g : Gr} (h : EV te ρ (gD g)) : EV (tOp (rIx K) te (tC (.int 2))) ρ (.t (g.es.map pD)) := ev_op h ev_c (rd_ixT rfl)
theorem ev_g12 {g : Gr} {x : Int} (h : EV te ρ (gD g)) (hx : EV tx ρ (I x)) (h0 : 0 ≤ x ∧ x < g.sc.length) : EV (tOp (rIx K) (tOp (rIx K) te (tC (.int 1))) tx) ρ (.t (zD (sco g x))) :=
  ev_op (ev_g1 h) hx (rd_ixT (at_map (f := scD) h0.1 (by
    unfold sco
    rw [List.getD_eq_getElem?_getD, List.getElem?_eq_getElem (show x.toNat < g.sc.length by omega)] <;> rfl)))
theorem sco_mem {g : Gr} {x : Int} (h0 : 0 ≤ x ∧ x < g.sc.length) : sco g x ∈ g.sc := by
  unfold sco
  rw [List.getD_eq_getElem?_getD, List.getElem?_eq_getElem (show x.toNat < g.sc.length by omega)]
  exact List.getElem_mem _
theorem zD_map {α : Type} (f : α → Int) (xs : List α) : (xs.map fun x => I (f x)) = zD (xs.map f) := by
  unfold zD
  rw [List.map_map]
  rfl
theorem zD_app (a b : List Int) : zD a ++ zD b = zD (a ++ b) := by
  unfold zD
  rw [List.map_append]
/-! ### neighbours -/
abbrev spNb : Sp := spP (fun i : Gr × Int => [gD i.1, I i.2]) (fun i => WF i.1) (fun i d => d = .t (zD (nbrs i.1.es i.2)))
theorem clNb {g : Gr} {x : Int} (h : WF g) (ha : EL t ρ [gD g, I x]) : EV (tCall spNb [] E t) ρ (.t (zD (nbrs g.es x))) := ev_call (z := fun i : Gr × Int => .t (zD (nbrs i.1.es i.2))) (g, x) h ha
abbrev spNbL : Sp := spP (fun i : Gr × Int => [gD i.1, I i.2]) (fun i => WF i.1) (fun i d => d = .l (zD (nbrs i.1.es i.2)))
theorem clNbL {g : Gr} {x : Int} (h : WF g) (ha : EL t ρ [gD g, I x]) : EV (tCall spNbL [] E t) ρ (.l (zD (nbrs g.es x))) := ev_call (z := fun i : Gr × Int => .l (zD (nbrs i.1.es i.2))) (g, x) h ha
theorem nb_eq (es : List (Int × Int)) (x : Int) : ((es.filter fun e => decide (e.1 = x)).map fun e => I e.2) ++ ((es.filter fun e => decide (e.2 = x)).map fun e => I e.1) = zD ((es.filter fun e => decide (e.1 = x)).map (fun e => e.2) ++ (es.filter fun e => decide (e.2 = x)).map (fun e => e.1)) := by
  rw [zD_map, zD_map, zD_app]
theorem filt_len {α : Type} (p : α → Bool) (xs : List α) : (xs.filter p).length ≤ xs.length := List.length_filter_le p xs
theorem ok_neighbours (T : Txt K mg) : FnOk P w K mg base CX0 1 T.f_neighbours T.d_neighbours P_neighbours spNb := by
  refine okP T.F_neighbours sc_neighbours (fun _ => rfl) (by decide) fun cdv A' outer s H E hr => ⟨_, (pss_cons (ps_set (i := 2) sc_neighbours.nd rfl (Or.inl rfl) (pe_op (op_addA (K := K)) (pe_lc (own := [("one", 3), ("other", 4)]) (by rfl) sc_neighbours.nd (pi_tup (pe_ix (ix_any (K := K)) (pv 0) pe_int (fun _ _ => rfl))) (blkOk_by (own := [("one", 3), ("other", 4)]) (N := N_neighbours) (sc := defScope s_neighbours) (by decide +kernel)) (fun _ _ _ _ _ => (pg_tupA (K := K) (n := 2) rfl (pgs_cons (pg_name (i := 3) sc_neighbours.nd rfl (Or.inl rfl)) (pgs_cons (pg_name (i := 4) sc_neighbours.nd rfl (Or.inl rfl)) pgs_nil)))) (fun _ _ _ _ _ => pts_one (pt_cmpR op_eq (pv 3) (pv 1) (nomark _))) (fun _ _ _ _ _ => (pv 4))) (pe_lc (own := [("one", 3), ("other", 4)]) (by rfl) sc_neighbours.nd (pi_tup (pe_ix (ix_any (K := K)) (pv 0) pe_int (fun _ _ => rfl))) (blkOk_by (own := [("one", 3), ("other", 4)]) (N := N_neighbours) (sc := defScope s_neighbours) (by decide +kernel)) (fun _ _ _ _ _ => (pg_tupA (K := K) (n := 2) rfl (pgs_cons (pg_name (i := 3) sc_neighbours.nd rfl (Or.inl rfl)) (pgs_cons (pg_name (i := 4) sc_neighbours.nd rfl (Or.inl rfl)) pgs_nil)))) (fun _ _ _ _ _ => pts_one (pt_cmpR op_eq (pv 4) (pv 1) (nomark _))) (fun _ _ _ _ _ => (pv 3)))))
    (pss_one (ps_ret (pe_callTy (call_tupA (K := K)) (by rfl) T.b_tuple bo_tuple (pa_cons (pe_callB (cr_sortA (K := K) (w := w) rfl) (by rfl) T.b_sorted bo_sorted (pa_cons (pv 2) pa_nil)) pa_nil))))), fun ⟨g, x⟩ h => ?_⟩
  have h : WF g := h
  have hf := h.few
  refine q_asg (EV.is (ev_op
    (ev_lc (src_pairs (f := fun e => I e.1) (f2 := fun e => I e.2) (xs := g.es) (ev_g2 (g := g) (ev_var rfl))) (fun e => decide (e.1 = x)) (fun e => I e.2) (fun e he => eb_test (ev_op (ev_var rfl) (ev_var rfl) rd_eqI)) (fun e he _ => ev_var rfl) (by omega))
    (ev_lc (src_pairs (f := fun e => I e.1) (f2 := fun e => I e.2) (xs := g.es) (ev_g2 (g := g) (ev_var rfl))) (fun e => decide (e.2 = x)) (fun e => I e.1) (fun e he => eb_test (ev_op (ev_var rfl) (ev_var rfl) rd_eqI)) (fun e he _ => ev_var rfl) (by omega))
    (rd_addL (by
      have h1 := filt_len (fun e => decide (e.1 = x)) g.es
      have h2 := filt_len (fun e => decide (e.2 = x)) g.es
      rw [List.length_map, List.length_map]
      omega))) (congrArg D.l (nb_eq g.es x))) ?_
  exact s_ret (ev_cb1 (ev_cb1 (ev_var rfl) cd_sortL) cd_tupL) rfl
theorem ok_l_near (T : Txt K mg) : FnOk P w K mg base CX0 1 T.f_l_near T.d_l_near P_l_near spNbL := by
  refine okP T.F_l_near sc_l_near (fun _ => rfl) (by decide) fun cdv A' outer s H E hr => ⟨_, (pss_cons (ps_setLc (i := 2) (own := [("_law_one", 3), ("_law_other", 4)]) (by rfl) sc_l_near.nd rfl rfl (sw_true rfl rfl rfl (by decide +kernel)) (pi_tup (pe_ix (ix_any (K := K)) (pv 0) pe_int (fun _ _ => rfl))) (blkOk_by (own := [("_law_one", 3), ("_law_other", 4)]) (N := N_l_near) (sc := defScope s_l_near) (by decide +kernel)) (fun _ _ _ _ _ => (pg_tupA (K := K) (n := 2) rfl (pgs_cons (pg_name (i := 3) sc_l_near.nd rfl (Or.inl rfl)) (pgs_cons (pg_name (i := 4) sc_l_near.nd rfl (Or.inl rfl)) pgs_nil)))) (fun _ _ _ _ _ => pts_one (pt_cmpR op_eq (pv 3) (pv 1) (nomark _))) (fun _ _ _ _ _ => (pv 4)))
    (pss_one (ps_ret (pe_callB (cr_sortA (K := K) (w := w) rfl) (by rfl) T.b_sorted bo_sorted (pa_cons (pe_op (op_addA (K := K)) (pv 2) (pe_lc (own := [("_law_one", 3), ("_law_other", 4)]) (by rfl) sc_l_near.nd (pi_tup (pe_ix (ix_any (K := K)) (pv 0) pe_int (fun _ _ => rfl))) (blkOk_by (own := [("_law_one", 3), ("_law_other", 4)]) (N := N_l_near) (sc := defScope s_l_near) (by decide +kernel)) (fun _ _ _ _ _ => (pg_tupA (K := K) (n := 2) rfl (pgs_cons (pg_name (i := 3) sc_l_near.nd rfl (Or.inl rfl)) (pgs_cons (pg_name (i := 4) sc_l_near.nd rfl (Or.inl rfl)) pgs_nil)))) (fun _ _ _ _ _ => pts_one (pt_cmpR op_eq (pv 4) (pv 1) (nomark _))) (fun _ _ _ _ _ => (pv 3)))) pa_nil))))), fun ⟨g, x⟩ h => ?_⟩
  have h : WF g := h
  have hf := h.few
  refine q_asg (ev_lc (src_pairs (f := fun e => I e.1) (f2 := fun e => I e.2) (xs := g.es) (ev_g2 (g := g) (ev_var rfl))) (fun e => decide (e.1 = x)) (fun e => I e.2) (fun e he => eb_test (ev_op (ev_var rfl) (ev_var rfl) rd_eqI)) (fun e he _ => ev_var rfl) (by omega)) ?_
  refine s_ret (ev_cb1 (EV.is (ev_op (ev_var rfl)
    (ev_lc (src_pairs (f := fun e => I e.1) (f2 := fun e => I e.2) (xs := g.es) (ev_g2 (g := g) (ev_var rfl))) (fun e => decide (e.2 = x)) (fun e => I e.1) (fun e he => eb_test (ev_op (ev_var rfl) (ev_var rfl) rd_eqI)) (fun e he _ => ev_var rfl) (by omega))
    (rd_addL (by
      have h1 := filt_len (fun e => decide (e.1 = x)) g.es
      have h2 := filt_len (fun e => decide (e.2 = x)) g.es
      rw [List.length_map, List.length_map]
      omega))) (congrArg D.l (nb_eq g.es x))) cd_sortL) rfl
/-! ### shared variables -/
abbrev okSh (i : Gr × Int × Int) : Prop := WF i.1 ∧ (0 ≤ i.2.1 ∧ i.2.1 < i.1.sc.length) ∧ (0 ≤ i.2.2 ∧ i.2.2 < i.1.sc.length)
abbrev spSh : Sp := spP (fun i : Gr × Int × Int => [gD i.1, I i.2.1, I i.2.2]) okSh (fun i d => d = .t (zD (shr i.1 i.2.1 i.2.2)))
theorem clSh {g : Gr} {x y : Int} (h : okSh (g, x, y)) (ha : EL t ρ [gD g, I x, I y]) : EV (tCall spSh [] E t) ρ (.t (zD (shr g x y))) := ev_call (z := fun i : Gr × Int × Int => .t (zD (shr i.1 i.2.1 i.2.2))) (g, x, y) h ha
theorem ok_shared (T : Txt K mg) : FnOk P w K mg base CX0 1 T.f_shared T.d_shared P_shared spSh := by
  refine okP T.F_shared sc_shared (fun _ => rfl) (by decide) fun cdv A' outer s H E hr => ⟨_, (pss_one (ps_ret (pe_callTy (call_tupA (K := K)) (by rfl) T.b_tuple bo_tuple (pa_cons (pe_lc (own := [("variable", 3)]) (by rfl) sc_shared.nd (pi_tup (pe_ix (ix_any (K := K)) (pe_ix (ix_any (K := K)) (pv 0) pe_int (fun _ _ => rfl)) (pv 1) (fun _ _ => rfl))) (blkOk_by (own := [("variable", 3)]) (N := N_shared) (sc := defScope s_shared) (by decide +kernel)) (fun _ _ _ _ _ => (pg_name (i := 3) sc_shared.nd rfl (Or.inl rfl))) (fun _ _ _ _ _ => pts_one (pt_cmpR (op_inA (K := K)) (pv 3) (pe_ix (ix_any (K := K)) (pe_ix (ix_any (K := K)) (pv 0) pe_int (fun _ _ => rfl)) (pv 2) (fun _ _ => rfl)) (by rfl))) (fun _ _ _ _ _ => (pv 3))) pa_nil)))), fun ⟨g, x, y⟩ ⟨(h : WF g), (hx : 0 ≤ x ∧ x < g.sc.length), (hy : 0 ≤ y ∧ y < g.sc.length)⟩ => ?_⟩
  have hs := (h.sc _ (sco_mem hx)).few
  exact s_ret (ev_cb1 (EV.is (ev_lc (src_tup (f := I) (xs := sco g x) (ev_g12 (ev_var rfl) (ev_var rfl) hx)) (fun v => decide (v ∈ sco g y)) I (fun v hv => eb_test (ev_op (ev_var rfl) (ev_g12 (ev_var rfl) (ev_var rfl) hy) rd_inT)) (fun v hv _ => ev_var rfl) (by omega)) rfl) cd_tupL) rfl
theorem ok_l_shared (T : Txt K mg) : FnOk P w K mg base CX0 1 T.f_l_shared T.d_l_shared P_l_shared spSh := by
  refine okP T.F_l_shared sc_l_shared (fun _ => rfl) (by decide) fun cdv A' outer s H E hr => ⟨_, (pss_one (ps_ret (pe_callTy (call_tupA (K := K)) (by rfl) T.b_tuple bo_tuple (pa_cons (pe_lc (own := [("_law_variable", 3)]) (by rfl) sc_l_shared.nd (pi_tup (pe_ix (ix_any (K := K)) (pe_ix (ix_any (K := K)) (pv 0) pe_int (fun _ _ => rfl)) (pv 1) (fun _ _ => rfl))) (blkOk_by (own := [("_law_variable", 3)]) (N := N_l_shared) (sc := defScope s_l_shared) (by decide +kernel)) (fun _ _ _ _ _ => (pg_name (i := 3) sc_l_shared.nd rfl (Or.inl rfl))) (fun _ _ _ _ _ => pts_one (pt_cmpR (op_inA (K := K)) (pv 3) (pe_ix (ix_any (K := K)) (pe_ix (ix_any (K := K)) (pv 0) pe_int (fun _ _ => rfl)) (pv 2) (fun _ _ => rfl)) (by rfl))) (fun _ _ _ _ _ => (pv 3))) pa_nil)))), fun ⟨g, x, y⟩ ⟨(h : WF g), (hx : 0 ≤ x ∧ x < g.sc.length), (hy : 0 ≤ y ∧ y < g.sc.length)⟩ => ?_⟩
  have hs := (h.sc _ (sco_mem hx)).few
  exact s_ret (ev_cb1 (EV.is (ev_lc (src_tup (f := I) (xs := sco g x) (ev_g12 (ev_var rfl) (ev_var rfl) hx)) (fun v => decide (v ∈ sco g y)) I (fun v hv => eb_test (ev_op (ev_var rfl) (ev_g12 (ev_var rfl) (ev_var rfl) hy) rd_inT)) (fun v hv _ => ev_var rfl) (by omega)) rfl) cd_tupL) rfl
/-! ### enumerate -/
theorem src_enum {α : Type} {xs : List α} {f : α → D} {d0 : α} {j j2 : Nat} (h : EV te ρ (.t (xs.map f))) : Src (iEnumT K (tCons te tNil)) (gTup K 2 (gCons (gName j) (gCons (gName j2) gNil))) [j, j2] ρ (rgL 0 xs.length) (bind2 j j2 I fun i => f (xs.getD i.toNat d0)) := fun c Z H σ s R k => h c Z H σ s _ fun d v H1 e g r => by
  subst e
  obtain ⟨a, vs, rfl, n, h1, h2⟩ := r
  have hl : vs.length = xs.length := by rw [h2.len, List.length_map]
  have hr : (rgL 0 (xs.length : Int)).length = xs.length := by rw [rgL_len]; omega
  refine ⟨a, vs, rfl, SqT.of h1, k _ H1 g fun Z2 H2 m => ?_⟩
  obtain ⟨n2, e2⟩ := m a _ n h1
  refine ⟨fun i hi => ⟨vs, vs[i]'(by omega), SqT.of e2, by simp [show i < vs.length by omega]⟩, ⟨vs, SqT.of e2, by omega⟩, fun i v H3 x hx y c2 σ2 ρ2 s2 Q q => ?_⟩
  obtain ⟨T, z, rfl, hT, rfl, hz⟩ := y
  have hi : i < xs.length := by rw [← hr]; exact (List.getElem?_eq_some_iff.mp hx).1
  have ex := rgL_get hx
  have ex2 : x = (i : Int) := by omega
  subst ex2
  obtain ⟨u, hu, ru⟩ := Reps.map_get h2 (List.getElem?_eq_getElem hi)
  have e3 := hz vs (SqT.of e2)
  rw [hu] at e3
  cases e3
  have e : Ex H2 (upd H2 T (.tup [.int (i : Nat), z])) := Ex.new hT
  have ed : f (xs.getD (i : Int).toNat d0) = f xs[i] := by
    rw [Int.toNat_natCast, List.getD_eq_getElem?_getD, List.getElem?_eq_getElem hi] <;> rfl
  refine ⟨T, _, rfl, SqT.of upd_same, rfl, _, _, rfl, _, _, rfl, rfl, q _ _ e ?_ (by rw [List.length_set, List.length_set]) fun k hk => by
    rw [List.getElem?_set_ne (by simpa using fun z => hk (by simp [z])), List.getElem?_set_ne (by simpa using fun z => hk (by simp [z]))]⟩
  have s3 := (s2.ext e).setD j (d := I (i : Int)) (v := .int (i : Nat)) rfl
  have s4 := s3.setD j2 (d := f xs[i]) (v := z) (Rep.move (m.trans (Lt.ex e)) _ _ ru)
  have e5 : (fun i : Int => f (xs.getD i.toNat d0)) (i : Int) = f xs[i] := ed
  unfold bind2
  rw [e5]
  exact s4
/-! ### who has a variable -/
abbrev spHv : Sp := spP (fun i : Gr × Int => [gD i.1, I i.2]) (fun i => WF i.1) (fun i d => d = .t (zD (hav i.1 i.2)))
theorem clHv {g : Gr} {x : Int} (h : WF g) (ha : EL t ρ [gD g, I x]) : EV (tCall spHv [] E t) ρ (.t (zD (hav g x))) := ev_call (z := fun i : Gr × Int => .t (zD (hav i.1 i.2))) (g, x) h ha
theorem ok_having (T : Txt K mg) : FnOk P w K mg base CX0 1 T.f_having T.d_having P_having spHv := by
  refine okP T.F_having sc_having (fun _ => rfl) (by decide) fun cdv A' outer s H E hr => ⟨_, (pss_one (ps_ret (pe_callTy (call_tupA (K := K)) (by rfl) T.b_tuple bo_tuple (pa_cons (pe_lc (own := [("node", 2), ("scope", 3)]) (by rfl) sc_having.nd (pi_enumT (by rfl) T.b_enumerate (pa_cons (pe_ix (ix_any (K := K)) (pv 0) pe_int (fun _ _ => rfl)) pa_nil)) (blkOk_by (own := [("node", 2), ("scope", 3)]) (N := N_having) (sc := defScope s_having) (by decide +kernel)) (fun _ _ _ _ _ => (pg_tupA (K := K) (n := 2) rfl (pgs_cons (pg_name (i := 2) sc_having.nd rfl (Or.inl rfl)) (pgs_cons (pg_name (i := 3) sc_having.nd rfl (Or.inl rfl)) pgs_nil)))) (fun _ _ _ _ _ => pts_one (pt_cmpR (op_inA (K := K)) (pv 1) (pv 3) (by rfl))) (fun _ _ _ _ _ => (pv 2))) pa_nil)))), fun ⟨g, x⟩ h => ?_⟩
  have h : WF g := h
  have h5 := h.n5
  exact s_ret (ev_cb1 (EV.is (ev_lc (src_enum (f := scD) (d0 := []) (xs := g.sc) (ev_g1 (g := g) (ev_var rfl))) (fun i => decide (x ∈ sco g i)) I (fun v hv => eb_test (ev_op (ev_var rfl) (ev_var (d := .t (zD (sco g v))) rfl) rd_inT)) (fun v hv _ => ev_var rfl) (by rw [rgL_len]; omega)) rfl) cd_tupL) rfl
theorem ok_l_having (T : Txt K mg) : FnOk P w K mg base CX0 1 T.f_l_having T.d_l_having P_l_having spHv := by
  refine okP T.F_l_having sc_l_having (fun _ => rfl) (by decide) fun cdv A' outer s H E hr => ⟨_, (pss_one (ps_ret (pe_callTy (call_tupA (K := K)) (by rfl) T.b_tuple bo_tuple (pa_cons (pe_lc (own := [("_law_node", 2)]) (by rfl) sc_l_having.nd (pi_range1 (by rfl) T.b_range (pa_cons (pe_callB (call_lenA (K := K)) (by rfl) T.b_len bo_len (pa_cons (pe_ix (ix_any (K := K)) (pv 0) pe_int (fun _ _ => rfl)) pa_nil)) pa_nil)) (blkOk_by (own := [("_law_node", 2)]) (N := N_l_having) (sc := defScope s_l_having) (by decide +kernel)) (fun _ _ _ _ _ => (pg_name (i := 2) sc_l_having.nd rfl (Or.inl rfl))) (fun _ _ _ _ _ => pts_one (pt_cmpR (op_inA (K := K)) (pv 1) (pe_ix (ix_any (K := K)) (pe_ix (ix_any (K := K)) (pv 0) pe_int (fun _ _ => rfl)) (pv 2) (fun _ _ => rfl)) (by rfl))) (fun _ _ _ _ _ => (pv 2))) pa_nil)))), fun ⟨g, x⟩ h => ?_⟩
  have h : WF g := h
  have h5 := h.n5
  refine s_ret (ev_cb1 (EV.is (ev_lc (src_rng1 (n := g.sc.length) (el_cons (EV.is (ev_cb1 (ev_g1 (g := g) (ev_var rfl)) cd_lenT) (by rw [List.length_map])) el_nil) (by omega)) (fun i => decide (x ∈ sco g i)) I (fun v hv => ?_) (fun v hv _ => ev_var rfl) (by rw [rgL_len]; omega)) rfl) cd_tupL) rfl
  have hv' := mem_rgL.mp hv
  exact eb_test (ev_op (ev_var rfl) (ev_g12 (ev_var rfl) (ev_var rfl) hv') rd_inT)
end
end TT

set_option maxRecDepth 100000
set_option maxHeartbeats 4100000
/-! F2b: variables of a graph, nodes -/
namespace TT
open PySem PySem.Spec PyProof.Rows
open L2
open Dl
open Evl (Ex)
/-! ### plain Lean -/
theorem insK_mem {k x : Int} {ks : List Int} : x ∈ insK k ks ↔ x = k ∨ x ∈ ks := by
  unfold insK
  split
  · rename_i h
    constructor
    · exact .inr
    · rintro (e | e)
      · rw [e]; exact h
      · exact e
  · rw [List.mem_append, List.mem_singleton]
    exact Or.comm
theorem insK_nodup {k : Int} {ks : List Int} (h : ks.Nodup) : (insK k ks).Nodup := by
  unfold insK
  split
  · exact h
  · rename_i n
    rw [List.nodup_append]
    refine ⟨h, by simp, fun a ha b hb e => ?_⟩
    rw [List.mem_singleton] at hb
    rw [e, hb] at ha
    exact n ha
theorem fold_mem {x : Int} : ∀ (ns ks : List Int), x ∈ ns.foldl (fun ks k => insK k ks) ks ↔ x ∈ ks ∨ x ∈ ns
  | [], ks => by simp
  | n :: ns, ks => by
    rw [List.foldl_cons, fold_mem ns, insK_mem, List.mem_cons]
    constructor
    · rintro ((e | e) | e)
      · exact .inr (.inl e)
      · exact .inl e
      · exact .inr (.inr e)
    · rintro (e | e | e)
      · exact .inl (.inr e)
      · exact .inl (.inl e)
      · exact .inr e
theorem fold_nodup : ∀ (ns ks : List Int), ks.Nodup → (ns.foldl (fun ks k => insK k ks) ks).Nodup
  | [], _, h => h
  | _ :: ns, _, h => fold_nodup ns _ (insK_nodup h)
theorem dkL_mem {x : Int} {ns : List Int} : x ∈ dkL ns ↔ x ∈ ns := by
  unfold dkL
  rw [fold_mem]
  simp
theorem srt_dkL (ns : List Int) : srt (dkL ns) = sset ns := by
  have p : (dkL ns).Perm (dd ns) := (List.perm_ext_iff_of_nodup (fold_nodup ns [] List.nodup_nil) (dd_nodup ns)).mpr fun k => (dkL_mem (x := k) (ns := ns)).trans dd_mem.symm
  exact srt_is ((srt_perm _).trans p) (srt_pw _)
theorem nds_sco (g : Gr) : (nds g).map (sco g) = g.sc := by
  apply List.ext_getElem?
  intro i
  rw [List.getElem?_map]
  by_cases hi : i < g.sc.length
  · have h1 : (nds g)[i]? = some ((0 : Int) + i) := by
      unfold nds rgL
      rw [List.getElem?_map, List.getElem?_eq_getElem (by simp; omega)]
      simp
    rw [h1]
    show some (sco g (0 + (i : Int))) = g.sc[i]?
    unfold sco
    rw [show ((0 : Int) + i).toNat = i by omega, List.getD_eq_getElem?_getD, List.getElem?_eq_getElem hi]
    rfl
  · rw [List.getElem?_eq_none (show g.sc.length ≤ i by omega), List.getElem?_eq_none (by unfold nds; rw [rgL_len]; omega)]
    rfl
theorem flat_len {xs : List (List Int)} {m : Nat} (h : ∀ s ∈ xs, s.length ≤ m) : xs.flatten.length ≤ xs.length * m := by
  induction xs with
  | nil => simp
  | cons x xs ih =>
    have h1 := h x (List.mem_cons_self ..)
    have h2 := ih fun s hs => h s (List.mem_cons_of_mem _ hs)
    rw [List.flatten_cons, List.length_append, List.length_cons, Nat.succ_mul]
    omega
theorem WF.flat {g : Gr} (h : WF g) : g.sc.flatten.length ≤ 15 := by
  have h1 := flat_len (xs := g.sc) (m := 3) fun s hs => (h.sc s hs).few
  have h5 := h.n5
  omega
theorem fold_flat {α : Type} (f : α → Int → α) (xs : List (List Int)) : ∀ a : α, xs.foldl (fun a s => s.foldl f a) a = xs.flatten.foldl f a := by
  induction xs with
  | nil => intro a; rfl
  | cons x xs ih =>
    intro a
    rw [List.foldl_cons, ih, List.flatten_cons, List.foldl_append]
theorem fold_len (ns ks : List Int) : (ns.foldl (fun ks k => insK k ks) ks).length ≤ ks.length + ns.length := dkL_len ns ks
section
variable {P : Program} {w : World} {K : PySem.W.Frag} {mg : Str → Option Value} {base : Heap} {ρ : Rho} {t : TA} {te tx : TE} {E : XK}
/-! ### the variables of a graph -/
abbrev spSO : Sp := spP (fun g : Gr => [gD g, .l (zD (nds g))]) WF (fun g d => d = .t (zD (vrs g)))
theorem clSO {g : Gr} (h : WF g) (ha : EL t ρ [gD g, .l (zD (nds g))]) : EV (tCall spSO [] E t) ρ (.t (zD (vrs g))) := ev_call (z := fun g : Gr => .t (zD (vrs g))) g h ha
theorem nds_mem {g : Gr} {x : Int} : x ∈ nds g ↔ 0 ≤ x ∧ x < g.sc.length := mem_rgL
theorem ok_scope_of (T : Txt K mg) : FnOk P w K mg base CX0 1 T.f_scope_of T.d_scope_of P_scope_of spSO := by
  refine okP T.F_scope_of sc_scope_of (fun _ => rfl) (by decide) fun cdv A' outer s H E hr => ⟨_, (pss_cons (ps_set (i := 2) sc_scope_of.nd rfl (Or.inl rfl) pe_dnewK)
    (pss_cons (ps_for PassesOwn.never rfl (pi_list (pv 1)) (pg_name (i := 3) sc_scope_of.nd rfl (Or.inl rfl))
      (pss_one (ps_for PassesOwn.never rfl (pi_tup (pe_ix (ix_any (K := K)) (pe_ix (ix_any (K := K)) (pv 0) pe_int (fun _ _ => rfl)) (pv 3) (fun _ _ => rfl))) (pg_name (i := 4) sc_scope_of.nd rfl (Or.inl rfl))
        (pss_one (ps_dput (hu_of hr) (pv 2) (pv 4) pe_bl rfl)))))
    (pss_one (ps_ret (pe_callTy (call_tupA (K := K)) (by rfl) T.b_tuple bo_tuple (pa_cons (pe_callB (cr_sortA (K := K) (w := w) rfl) (by rfl) T.b_sorted bo_sorted (pa_cons (pv 2) pa_nil)) pa_nil)))))), fun g h => ?_⟩
  have h5 := h.n5
  have hfl := h.flat
  have en : (nds g).length = g.sc.length := by unfold nds; rw [rgL_len]; omega
  refine q_dnew ?_
  let R : List Int → Rho := fun ks => [.d (gD g), .d (.l (zD (nds g))), .o (.dk ks), .un, .un]
  have key : ∀ i, (((nds g).take i).foldl (fun ks x => (sco g x).foldl (fun ks k => insK k ks) ks) []).length ≤ 15 := fun i => by
    have e : ((nds g).take i).foldl (fun ks x => (sco g x).foldl (fun ks k => insK k ks) ks) [] = (((nds g).take i).map (sco g)).flatten.foldl (fun ks k => insK k ks) ([] : List Int) := by
      rw [← fold_flat, List.foldl_map]
    rw [e, List.map_take, nds_sco]
    have h1 := fold_len (g.sc.take i).flatten []
    have h2 := flat_len (xs := g.sc.take i) (m := 3) fun s hs => (h.sc s (List.mem_of_mem_take hs)).few
    have h3 : (g.sc.take i).length ≤ 5 := by rw [List.length_take]; omega
    simp only [List.length_nil] at h1
    omega
  refine es_seq (Ψ := fun o => o = .nx (R (dkL g.sc.flatten))) (es_forF (src_list (f := I) (xs := nds g) (ev_var rfl)) R (fun ks x => (sco g x).foldl (fun ks k => insK k ks) ks) [] Wkn.refl (fun i x hx => ?_) ?_) ?_
  · have hx' := nds_mem.mp (List.mem_of_getElem? hx)
    have hk := key i
    have hs := (h.sc _ (sco_mem hx')).few
    generalize ((nds g).take i).foldl (fun ks x => (sco g x).foldl (fun ks k => insK k ks) ks) [] = k0 at hk
    let R2 : List Int → Rho := fun ks => [.d (gD g), .d (.l (zD (nds g))), .o (.dk ks), .d (I x), .un]
    refine es_forF (src_tup (f := I) (xs := sco g x) (ev_g12 (g := g) (x := x) (ev_var rfl) (ev_var rfl) hx')) R2 (fun ks k => insK k ks) k0 Wkn.refl (fun j v hv => ?_) ?_
    · have h1 := fold_len ((sco g x).take j) k0
      have h2 : ((sco g x).take j).length ≤ 3 := by rw [List.length_take]; omega
      refine es_dput (k := v) rfl (ev_var rfl) (by omega) ?_
      refine ⟨rfl, fun a z hz => ?_⟩
      match a, hz with
      | 0, hz => exact .inr hz
      | 1, hz => exact .inr hz
      | 2, hz => exact .inr hz
      | 3, hz => exact .inr hz
      | 4, hz => exact .inl (Option.some.inj hz).symm
    · refine ⟨rfl, fun a z hz => ?_⟩
      match a, hz with
      | 0, hz => exact .inr hz
      | 1, hz => exact .inr hz
      | 2, hz => exact .inr hz
      | 3, hz => exact .inl (Option.some.inj hz).symm
      | 4, hz => exact .inr hz
  · rw [show (nds g).foldl (fun ks x => (sco g x).foldl (fun ks k => insK k ks) ks) [] = dkL g.sc.flatten by
      unfold dkL
      rw [← fold_flat, ← nds_sco g, List.foldl_map]]
  · intro o ho
    subst ho
    refine es_retS (P := fun d => d = .t (zD (vrs g))) (EV.is (ev_cb1 (ev_sortdk (i := 2) rfl (by have := dkL_len g.sc.flatten []; simp only [List.length_nil] at this; unfold dkL; omega)) cd_tupL) (by rw [srt_dkL]; rfl)) fun d e => e
abbrev spV1 : Sp := spP (fun g : Gr => [gD g]) WF (fun g d => d = .t (zD (vrs g)))
theorem clV1 {g : Gr} (h : WF g) (ha : EL t ρ [gD g]) : EV (tCall spV1 [] E t) ρ (.t (zD (vrs g))) := ev_call (z := fun g : Gr => .t (zD (vrs g))) g h ha
theorem ev_lenG {g : Gr} (h : EV te ρ (gD g)) : EV (tCB (rLenA K) (tCons (tOp (rIx K) te (tC (.int 1))) tNil)) ρ (I g.sc.length) := EV.is (ev_cb1 (ev_g1 h) cd_lenT) (by rw [List.length_map])
theorem ok_variables_of (T : Txt K mg) : FnOk P w K mg base CX0 2 T.f_variables_of T.d_variables_of P_variables_of spV1 := by
  refine okP T.F_variables_of sc_variables_of (fun _ => rfl) (by decide) fun cdv A' outer s H E hr => ⟨_, (pss_one (ps_ret (pe_call (ok_scope_of T) (hr.mono (by decide)) rfl T.g_scope_of T.F_scope_of.kp T.bd_scope_of .nil pass0 (pa_cons (pv 0) (pa_cons (pe_listRg rfl rfl T.b_list (prg_1 rfl T.b_range (pe_callB (call_lenA (K := K)) (by rfl) T.b_len bo_len (pa_cons (pe_ix (ix_any (K := K)) (pv 0) pe_int (fun _ _ => rfl)) pa_nil)))) pa_nil))))), fun g h => ?_⟩
  have h5 := h.n5
  exact s_ret (clSO h (el_cons (ev_var rfl) (el_cons (ev_lstRg (ev_lenG (ev_var rfl)) (by omega)) el_nil))) rfl
abbrev spVL : Sp := spP (fun g : Gr => [gD g]) WF (fun g d => d = .l (zD (vrs g)))
theorem clVL {g : Gr} (h : WF g) (ha : EL t ρ [gD g]) : EV (tCall spVL [] E t) ρ (.l (zD (vrs g))) := ev_call (z := fun g : Gr => .l (zD (vrs g))) g h ha
theorem wkn1 {a b c d d' : Sl} (h : d' = .un) : Wkn [a, b, d] [a, b, d'] := ⟨rfl, fun i x hx => by
  match i, hx with
  | 0, hx => exact .inr hx
  | 1, hx => exact .inr hx
  | 2, hx => exact .inl ((Option.some.inj hx).symm.trans h)⟩
theorem ok_l_variables (T : Txt K mg) : FnOk P w K mg base CX0 1 T.f_l_variables T.d_l_variables P_l_variables spVL := by
  refine okP T.F_l_variables sc_l_variables (fun _ => rfl) (by decide) fun cdv A' outer s H E hr => ⟨_, (pss_cons (ps_set (i := 1) sc_l_variables.nd rfl (Or.inl rfl) (pe_lst pa_nil))
    (pss_cons (ps_for PassesOwn.never rfl (pi_tup (pe_ix (ix_any (K := K)) (pv 0) pe_int (fun _ _ => rfl))) (pg_name (i := 2) sc_l_variables.nd rfl (Or.inl rfl))
      (pss_one (ps_set (i := 1) sc_l_variables.nd rfl (Or.inl rfl) (pe_op (op_addA (K := K)) (pv 1) (pe_callTy (call_lstA (K := K)) (by rfl) T.b_list bo_list (pa_cons (pv 2) pa_nil))))))
    (pss_one (ps_ret (pe_callB (cr_sortA (K := K) (w := w) rfl) (by rfl) T.b_sorted bo_sorted (pa_cons (pe_callTy (cr_setA (K := K) (w := w) rfl) (by rfl) T.b_set bo_set (pa_cons (pv 1) pa_nil)) pa_nil)))))), fun g h => ?_⟩
  have h5 := h.n5
  have hfl := h.flat
  refine q_asg (d := .l (zD [])) (ev_lst el_nil) ?_
  let R : List Int → Rho := fun fd => [.d (gD g), .d (.l (zD fd)), .un]
  have key : ∀ i, (g.sc.take i).foldl (fun fd s => fd ++ s) [] = (g.sc.take i).flatten := fun i => by
    have := List.foldl_append_eq_append (l := g.sc.take i) (f := id) (l' := ([] : List Int))
    simpa using this
  refine es_seq (Ψ := fun o => o = .nx (R g.sc.flatten)) (es_forF (src_tup (f := scD) (xs := g.sc) (ev_g1 (g := g) (ev_var rfl))) R (fun fd s => fd ++ s) [] Wkn.refl (fun i s hx => ?_) ?_) ?_
  · rw [key]
    have hs := (h.sc _ (List.mem_of_getElem? hx)).few
    have h2 := flat_len (xs := g.sc.take i) (m := 3) fun s hs => (h.sc s (List.mem_of_mem_take hs)).few
    have h3 : (g.sc.take i).length ≤ 5 := by rw [List.length_take]; omega
    generalize (g.sc.take i).flatten = fd at h2
    refine es_asg (P := fun d => d = .l (zD (fd ++ s))) (EV.is (ev_op (ev_var rfl) (ev_cb1 (ev_var (d := .t (zD s)) rfl) cd_lstT) (rd_addL (by rw [zD_len, zD_len]; omega))) (congrArg D.l (zD_app fd s))) fun d e => ?_
    subst e
    exact wkn1 (c := .un) rfl
  · have := key g.sc.length
    rw [List.take_length] at this
    rw [this]
  · intro o ho
    subst ho
    exact s_ret (ev_sortset (ev_var rfl) (by omega)) rfl
/-! ### nodes -/
def isN (n : Int) : V → Bool
  | .int i => decide (0 ≤ i) && decide (i < n)
  | _ => false
abbrev spIN : Sp := spP (fun i : V × Gr => [.v i.1, gD i.2]) (fun i => flatV i.1 = true ∧ WF i.2) (fun i d => d = B (isN i.2.sc.length i.1))
theorem clIN {x : V} {g : Gr} (hx : flatV x = true) (h : WF g) (ha : EL t ρ [.v x, gD g]) : EV (tCall spIN [] E t) ρ (B (isN g.sc.length x)) := ev_call (z := fun i : V × Gr => B (isN i.2.sc.length i.1)) (x, g) ⟨hx, h⟩ ha
theorem ok_is_node (T : Txt K mg) : FnOk P w K mg base CX0 1 T.f_is_node T.d_is_node P_is_node spIN := by
  refine okP T.F_is_node sc_is_node (fun _ => rfl) (by decide) fun cdv A' outer s H E hr => ⟨_, (pss_one (ps_ret (pe_and (pe_callB (call_isiA (K := K)) (by rfl) T.b_isinstance bo_isinstance (pa_cons (pv 0) (pa_cons (pe_bltn (v := .ty "int") (by rfl) T.b_int bo_int rfl) pa_nil))) (pe_and (pe_not (pe_callB (call_isiA (K := K)) (by rfl) T.b_isinstance bo_isinstance (pa_cons (pv 0) (pa_cons (pe_bltn (v := .ty "bool") (by rfl) T.b_bool bo_bool rfl) pa_nil)))) (pe_one (pe_chain op_le (op_ltA (K := K) hr.units0) pe_int (pv 0) (pe_callB (call_lenA (K := K)) (by rfl) T.b_len bo_len (pa_cons (pe_ix (ix_any (K := K)) (pv 1) pe_int (fun _ _ => rfl)) pa_nil)))))))), fun ⟨x, g⟩ ⟨(hx : flatV x = true), (h : WF g)⟩ => ?_⟩
  cases x with
  | non => exact s_ret (EV.is (ev_and (b' := false) (ev_isi (ev_var rfl) rfl ki_ni) fun e => Bool.noConfusion e) rfl) rfl
  | str z => exact s_ret (EV.is (ev_and (b' := false) (ev_isi (ev_var rfl) rfl ki_si) fun e => Bool.noConfusion e) rfl) rfl
  | bl z => exact s_ret (EV.is (ev_and (ev_isi (ev_var rfl) rfl ki_bi) fun _ => ev_and (b' := false) (ev_not (ev_isi (ev_var rfl) rfl ki_bb)) fun e => Bool.noConfusion e) rfl) rfl
  | int i => exact s_ret (EV.is (ev_and (ev_isi (ev_var rfl) rfl ki_ii) fun _ => ev_and (ev_not (ev_isi (ev_var rfl) rfl ki_ib)) fun _ => ev_chain ev_c (ev_var rfl) rd_0 (fun _ => ev_lenG (ev_var rfl)) (fun _ => rd_ltI)) rfl) rfl
  | byt _ => cases hx
  | flt _ => cases hx
  | ref _ => cases hx
  | ty _ => cases hx
/-- a value that may be an order: flat, a list, a tuple of flat items -/
inductive VD where
  | f (x : V) | l (xs : List V) | t (xs : List V)
def VD.d : VD → D
  | .f x => .v x
  | .l xs => .l (flats xs)
  | .t xs => .t (flats xs)
def VD.ok : VD → Prop
  | .f x => flatV x = true
  | .l xs => xs.length ≤ 100
  | .t xs => (∀ x ∈ xs, flatV x = true) ∧ xs.length ≤ 100
def toI : V → Int
  | .int i => i
  | _ => 0
def areN (n : Int) : VD → Bool
  | .t xs => !xs.isEmpty && xs.all (isN n) && decide ((dkL (xs.map toI)).length = xs.length)
  | _ => false
theorem isN_int {n : Int} {x : V} (h : isN n x = true) : ∃ i : Int, x = .int i ∧ 0 ≤ i ∧ i < n := by
  cases x <;> first | cases h | skip
  rename_i i
  have h' : (decide (0 ≤ i) && decide (i < n)) = true := h
  simp at h'
  exact ⟨i, rfl, h'.1, h'.2⟩
theorem all_ints {n : Int} {xs : List V} (h : xs.all (isN n) = true) : xs = (xs.map toI).map V.int := by
  rw [List.map_map]
  have e : ∀ x ∈ xs, (V.int ∘ toI) x = id x := fun x hx => by
    obtain ⟨i, rfl, _⟩ := isN_int (List.all_eq_true.mp h x hx)
    rfl
  exact ((List.map_congr_left e).trans (List.map_id xs)).symm
abbrev spAN : Sp := spP (fun i : VD × Gr => [i.1.d, gD i.2]) (fun i => i.1.ok ∧ WF i.2) (fun i d => d = B (areN i.2.sc.length i.1))
theorem clAN {x : VD} {g : Gr} (hx : x.ok) (h : WF g) (ha : EL t ρ [x.d, gD g]) : EV (tCall spAN [] E t) ρ (B (areN g.sc.length x)) := ev_call (z := fun i : VD × Gr => B (areN i.2.sc.length i.1)) (x, g) ⟨hx, h⟩ ha
theorem not0 {tt : TT} (h : EB tt ρ false) : EB (tNot tt) ρ true := eb_not h
theorem or1 {tt tu : TT} (h : EB tt ρ true) : EB (tOr tt tu) ρ true := (eb_or (b' := true) h fun e => Bool.noConfusion e).is rfl
theorem isF {x : D} {n m : String} (hx : EV te ρ x) (h : tyD x = some m) (hk : kitB m n = some false) : EB (fun σ H Q => (tCB (rIsi K) (tCons te (tCons (tC (.ty n)) tNil))) σ H fun x H' => ∃ k, TruV K x H' k ∧ Q k H') ρ false := tru1 (ev_isi hx h hk)
theorem ok_are_nodes (T : Txt K mg) : FnOk P w K mg base CX0 2 T.f_are_nodes T.d_are_nodes P_are_nodes spAN := by
  refine okP T.F_are_nodes sc_are_nodes (fun _ => rfl) (by decide) fun cdv A' outer s H E hr => ⟨_, (pss_cons (ps_if (PW.pt (pw_or (pt_not (pt_truth (pe_callB (call_isiA (K := K)) (by rfl) T.b_isinstance bo_isinstance (pa_cons (pv 0) (pa_cons (pe_bltn (v := .ty "tuple") (by rfl) T.b_tuple bo_tuple rfl) pa_nil))) (by intro _; rfl))) (pw_or (pt_cmpR op_eq (pe_callB (call_lenA (K := K)) (by rfl) T.b_len bo_len (pa_cons (pv 0) pa_nil)) pe_int (nomark _)) (pw_or1 (pt_not (pt_truth (pe_callB (cr_allA (K := K) rfl) (by rfl) T.b_all bo_all (pa_cons (pe_lc (own := [("node", 2)]) (by rfl) sc_are_nodes.nd (pi_tup (pv 0)) (blkOk_by (own := [("node", 2)]) (N := N_are_nodes) (sc := defScope s_are_nodes) (by decide +kernel)) (fun _ _ _ _ _ => (pg_name (i := 2) sc_are_nodes.nd rfl (Or.inl rfl))) (fun _ _ _ _ _ => pts_nil) (fun _ _ _ _ _ => (pe_call (ok_is_node T) (hr.mono (by decide)) rfl T.g_is_node T.F_is_node.kp T.bd_is_node .nil pass0 (pa_cons (pv 2) (pa_cons (pv 1) pa_nil))))) pa_nil)) (by intro _; rfl)))))))
      (pss_one (ps_ret pe_bl))
      pss_nil)
    (pss_one (ps_ret (pe_cmpR op_eq (pe_callB (call_lenA (K := K)) (by rfl) T.b_len bo_len (pa_cons (pe_dc (own := [("node", 2)]) (by rfl) sc_are_nodes.nd (pi_tup (pv 0)) (blkOk_by (own := [("node", 2)]) (N := N_are_nodes) (sc := defScope s_are_nodes) (by decide +kernel)) (fun _ _ _ _ _ => (pg_name (i := 2) sc_are_nodes.nd rfl (Or.inl rfl))) (fun _ _ _ _ _ => pts_nil) (fun _ _ _ _ _ => (pv 2)) (fun _ _ _ _ _ => pe_bl)) pa_nil)) (pe_callB (call_lenA (K := K)) (by rfl) T.b_len bo_len (pa_cons (pv 0) pa_nil)) (nomark _))))), fun ⟨x, g⟩ ⟨(hx : x.ok), (h : WF g)⟩ => ?_⟩
  cases x with
  | f x =>
    refine q_yes (or1 (not0 ?_)) (q_ret (s_ret ev_c rfl))
    cases x with
    | non => exact isF (ev_var (d := .v .non) rfl) rfl ki_nt
    | bl z => exact isF (ev_var (d := .v (.bl z)) rfl) rfl ki_bt
    | int z => exact isF (ev_var (d := .v (.int z)) rfl) rfl ki_it
    | str z => exact isF (ev_var (d := .v (.str z)) rfl) rfl ki_st
    | byt _ => cases hx
    | flt _ => cases hx
    | ref _ => cases hx
    | ty _ => cases hx
  | l xs => exact q_yes (or1 (not0 (isF (ev_var (d := .l (flats xs)) rfl) rfl ki_lt))) (q_ret (s_ret ev_c rfl))
  | t xs =>
    obtain ⟨hf, hl⟩ := hx
    have el : (flats xs).length = xs.length := by unfold flats; rw [List.length_map]
    have v1 : ∀ {ρ : Rho}, ρ[0]? = some (.d (VD.d (.t xs))) → EV (tVar 0) ρ (.t (flats xs)) := fun h => ev_var h
    have e1 : EB (tTest (tOp rEq (tCB (rLenA K) (tCons (tVar 0) tNil)) (tC (.int 0)))) (ini N_are_nodes [VD.d (.t xs), gD g]) (decide ((xs.length : Int) = 0)) := eb_test (EV.is (ev_op (ev_cb1 (v1 rfl) cd_lenT) ev_c rd_eqI) (by rw [el]))
    refine q_ifr (EB.is (b' := xs.isEmpty || !(xs.all (isN g.sc.length))) (or0 (not1 (isT (v1 rfl) rfl ki_tt)) (eb_or e1 fun _ => eb_not (tru1 (ev_all (f := isN g.sc.length) (ev_lc0 (src_tup (f := D.v) (xs := xs) (v1 rfl)) (fun x => B (isN g.sc.length x)) (fun x hx => clIN (hf x hx) h (el_cons (ev_var rfl) (el_cons (ev_var rfl) el_nil))) (by omega)))))) ?_) (fun hb => ?_) (fun hb => ?_)
    · cases xs with
      | nil => rfl
      | cons a as =>
        rw [decide_eq_false (by simp; omega)]
        rfl
    · refine s_ret (EV.is ev_c ?_) rfl
      show B false = B (!xs.isEmpty && xs.all (isN g.sc.length) && decide ((dkL (xs.map toI)).length = xs.length))
      cases h1 : xs.isEmpty with
      | true => rfl
      | false =>
        rw [h1] at hb
        have h2 : xs.all (isN g.sc.length) = false := by simpa using hb
        rw [h2]
        rfl
    · have h1 : xs.isEmpty = false := by
        cases h1 : xs.isEmpty with
        | true => rw [h1] at hb; cases hb
        | false => rfl
      have h2 : xs.all (isN g.sc.length) = true := by
        rw [h1] at hb
        simpa using hb
      have ez : flats xs = zD (xs.map toI) := by rw [zD_flats, ← all_ints h2]
      refine s_ret (EV.is (ev_op (ev_lenDc (src_tup (f := I) (xs := xs.map toI) (EV.is (v1 rfl) (congrArg D.t ez))) (by show 2 < 3; decide) (by rw [List.length_map]; omega)) (ev_cb1 (v1 rfl) cd_lenT) rd_eqI) ?_) rfl
      show B (decide (((dkL (xs.map toI)).length : Int) = ((flats xs).length : Int))) = B (!xs.isEmpty && xs.all (isN g.sc.length) && decide ((dkL (xs.map toI)).length = xs.length))
      rw [h1, h2, el]
      have e : decide (((dkL (xs.map toI)).length : Int) = (xs.length : Int)) = decide ((dkL (xs.map toI)).length = xs.length) := decide_eq_decide.mpr (by omega)
      rw [e]
      rfl
end
end TT

set_option maxRecDepth 100000
set_option maxHeartbeats 4100000
/-! F3: the program's junction trees -/
namespace TT
open PySem PySem.Spec PyProof.Rows
open L2
open Dl
open Evl (Ex)
theorem nbrs_len {es : List (Int × Int)} {x : Int} (h : es.length ≤ 30) : (nbrs es x).length ≤ 60 := by
  unfold nbrs
  rw [srt_len, List.length_append, List.length_map, List.length_map]
  have h1 := List.length_filter_le (fun e : Int × Int => decide (e.1 = x)) es
  have h2 := List.length_filter_le (fun e : Int × Int => decide (e.2 = x)) es
  omega
theorem zD_filt {p : Int → Bool} {xs : List Int} : (xs.filter p).map I = zD (xs.filter p) := rfl
section
variable {P : Program} {w : World} {K : PySem.W.Frag} {mg : Str → Option Value} {base : Heap} {ρ : Rho} {t : TA} {te tx : TE} {E : XK} {Φ : Oc → Prop} {u : TS}
theorem q_drop {R : D → Prop} (h : EE te ρ R) (k : ES u ρ Φ) : ES (tSeq (tDrop te) u) ρ Φ := fun c Z H σ Dn s q => h c Z H σ s _ fun d v H2 _ g _ => k c Z H2 σ Dn (s.to g) (q.later g.m)
/-! ### hanging -/
abbrev okHg (i : Gr × Int × List Int × D × List Int) : Prop := WF i.1 ∧ (i.2.2.2.1 = .t (zD i.2.2.1) ∨ i.2.2.2.1 = .l (zD i.2.2.1)) ∧ hang i.1.es i.2.1 i.2.2.1 = some i.2.2.2.2
abbrev spHg : Sp := spP (fun i : Gr × Int × List Int × D × List Int => [gD i.1, I i.2.1, i.2.2.2.1]) okHg (fun i d => d = .t (zD i.2.2.2.2))
theorem clHgT {g : Gr} {x : Int} {am r : List Int} (h : WF g) (e : hang g.es x am = some r) (ha : EL t ρ [gD g, I x, .t (zD am)]) : EV (tCall spHg [] E t) ρ (.t (zD r)) := ev_call (z := fun i : Gr × Int × List Int × D × List Int => .t (zD i.2.2.2.2)) (g, x, am, .t (zD am), r) ⟨h, .inl rfl, e⟩ ha
theorem clHgL {g : Gr} {x : Int} {am r : List Int} (h : WF g) (e : hang g.es x am = some r) (ha : EL t ρ [gD g, I x, .l (zD am)]) : EV (tCall spHg [] E t) ρ (.t (zD r)) := ev_call (z := fun i : Gr × Int × List Int × D × List Int => .t (zD i.2.2.2.2)) (g, x, am, .l (zD am), r) ⟨h, .inr rfl, e⟩ ha
theorem ok_hanging (T : Txt K mg) : FnOk P w K mg base CX0 2 T.f_hanging T.d_hanging P_hanging spHg := by
  refine okP T.F_hanging sc_hanging (fun _ => rfl) (by decide) fun cdv A' outer s H E hr => ⟨_, (pss_cons (ps_set (i := 3) sc_hanging.nd rfl (Or.inr rfl) (pe_lst (pa_cons (pv 1) pa_nil)))
    (pss_cons (ps_set (i := 4) sc_hanging.nd rfl (Or.inl rfl) pe_int)
    (pss_cons (ps_while PassesOwn.never (pt_cmpR (op_ltA (K := K) hr.units0) (pv 4) (pe_callB (call_lenA (K := K)) (by rfl) T.b_len bo_len (pa_cons (pv 3) pa_nil)) (nomark _))
      (pss_cons (ps_expr (pe_bm PySem.F.plainAttrs_list PySem.F.slot_list_extend PySem.F.type_list_extend mt_extend (pv 3) (pa_cons (pe_lc (own := [("other", 5)]) (by rfl) sc_hanging.nd (pi_tup (pe_call (ok_neighbours T) (hr.mono (by decide)) rfl T.g_neighbours T.F_neighbours.kp T.bd_neighbours .nil pass0 (pa_cons (pv 0) (pa_cons (pe_ix (ix_any (K := K)) (pv 3) (pv 4) (fun _ _ => rfl)) pa_nil)))) (blkOk_by (own := [("other", 5)]) (N := N_hanging) (sc := defScope s_hanging) (by decide +kernel)) (fun _ _ _ _ _ => (pg_name (i := 5) sc_hanging.nd rfl (Or.inl rfl))) (fun _ _ _ _ _ => pts_one (PW.pt (pw_and (pt_cmpR (op_inA (K := K)) (pv 5) (pv 2) (by rfl)) (pw_and1 (pt_cmpR (op_niA (K := K)) (pv 5) (pv 3) (by rfl)))))) (fun _ _ _ _ _ => (pv 5))) pa_nil)))
      (pss_one (ps_set (i := 4) sc_hanging.nd rfl (Or.inl rfl) (pe_op (op_addA (K := K)) (pv 4) pe_int)))))
    (pss_one (ps_ret (pe_callTy (call_tupA (K := K)) (by rfl) T.b_tuple bo_tuple (pa_cons (pe_callB (cr_sortA (K := K) (w := w) rfl) (by rfl) T.b_sorted bo_sorted (pa_cons (pv 3) pa_nil)) pa_nil))))))), fun ⟨g, x, am, ad, r⟩ ⟨h, had, he⟩ => ?_⟩
  have h : WF g := h
  have had : ad = .t (zD am) ∨ ad = .l (zD am) := had
  have he : (hgW g.es am 12 [x] 0).map srt = some r := he
  obtain ⟨r0, he0, er⟩ := Option.map_eq_some_iff.mp he
  have rdam : ∀ o : Int, RD (rIn K false) (I o) ad (B (decide (o ∈ am))) := fun o => by
    rcases had with e | e
    · rw [e]; exact rd_inT
    · rw [e]; exact rd_inL
  refine q_own (A := fun ds => ds = [I x]) (ef_lst (el_cons (ev_var rfl) el_nil) fun ds e => by rw [e]; show 1 ≤ 100000; decide) fun ds e => ?_
  subst e
  refine q_asg ev_c ?_
  let R : List Int × Nat → Rho := fun s => [.d (gD g), .d (I x), .d ad, .o (.ls (zD s.1)), .d (I (s.2 : Nat)), .un]
  refine es_seq (Ψ := fun o => ∃ k, o = .nx (R (r0, k))) (es_while R (fun n s => n ≤ 12 ∧ s.1.length ≤ 1 + 60 * (12 - n) ∧ hgW g.es am n s.1 s.2 = some r0) 12 ([x], 0) ⟨Nat.le_refl _, by show 1 ≤ 1 + 60 * (12 - 12); decide, he0⟩ Wkn.refl fun n s ⟨hn, hl, hI⟩ => ?_) ?_
  · obtain ⟨fd, k⟩ := s
    have hl : fd.length ≤ 1 + 60 * (12 - n) := hl
    have hI : hgW g.es am n fd k = some r0 := hI
    have el := zD_len fd
    refine ⟨decide (k < fd.length), ET.weak (eb_test (EV.is (ev_op (ev_var rfl) (ev_cb1 (ev_var (d := .l (zD fd)) rfl) cd_lenL) rd_ltI) (by rw [el]; exact congrArg B (decide_eq_decide.mpr (by omega))))), fun hb => ?_, fun hb => ?_⟩
    · have hk : k < fd.length := of_decide_eq_true hb
      cases n with
      | zero =>
        unfold hgW at hI
        rw [if_pos hk] at hI
        cases hI
      | succ n =>
        unfold hgW at hI
        rw [if_pos hk] at hI
        have hnb := nbrs_len (x := fd.getD k 0) h.few
        have hfl := List.length_filter_le (fun o => decide (o ∈ am) && !decide (o ∈ fd)) (nbrs g.es (fd.getD k 0))
        refine es_seq (Ψ := fun o => o = .nx [.d (gD g), .d (I x), .d ad, .o (.ls (zD (fd ++ (nbrs g.es (fd.getD k 0)).filter fun o => decide (o ∈ am) && !decide (o ∈ fd)))), .d (I (k : Nat)), .un]) (es_ext (ds := zD fd) (xs := ((nbrs g.es (fd.getD k 0)).filter fun o => decide (o ∈ am) && !decide (o ∈ fd)).map V.int) rfl (EV.is (ev_lc (src_tup (f := I) (xs := nbrs g.es (fd.getD k 0)) (clNb h (el_cons (ev_var rfl) (el_cons (ev_op (ev_var (d := .l (zD fd)) rfl) (ev_var rfl) (rd_ixL (at_zD (x := (k : Int)) (by omega) (by omega)))) el_nil)))) (fun o => decide (o ∈ am) && !decide (o ∈ fd)) I (fun o ho => eb_and (eb_test (ev_op (ev_var rfl) (ev_var rfl) (rdam o))) fun _ => eb_test (ev_op (ev_var rfl) (ev_var (d := .l (zD fd)) rfl) rd_niL)) (fun o ho _ => ev_var rfl) (by omega)) ?_) (by rw [el, List.length_map]; omega) ?_) fun o ho => ?_
        · rw [← zD_flats, zD_filt]
        · rw [← zD_flats, zD_app]; rfl
        · subst ho
          refine es_asg (P := fun d => d = I ((k + 1 : Nat) : Int)) (EV.is (ev_op (ev_var rfl) ev_c rd_addI) (by show I _ = I _; congr 1)) fun d e => ?_
          subst e
          refine ⟨n, (fd ++ (nbrs g.es (fd.getD k 0)).filter fun o => decide (o ∈ am) && !decide (o ∈ fd), k + 1), Nat.lt_succ_self _, ⟨by omega, ?_, hI⟩, Wkn.refl⟩
          show (fd ++ _).length ≤ _
          rw [List.length_append]
          omega
    · have hk : ¬ k < fd.length := of_decide_eq_false hb
      have e : fd = r0 := by
        cases n with
        | zero =>
          unfold hgW at hI
          rw [if_neg hk] at hI
          exact Option.some.inj hI
        | succ n =>
          unfold hgW at hI
          rw [if_neg hk] at hI
          exact Option.some.inj hI
      exact ⟨k, by rw [e]⟩
  · rintro o ⟨k, rfl⟩
    refine s_ret (EV.is (ev_cb1 (ev_cb1 (ev_var (d := .l (zD r0)) rfl) cd_sortL) cd_tupL) ?_) rfl
    show D.t (zD (srt r0)) = D.t (zD r)
    rw [er]
/-! ### has_cycle -/
abbrev okHc (i : Gr × Bool) : Prop := WF i.1 ∧ hasC i.1.sc.length i.1.es = some i.2
abbrev spHc : Sp := spP (fun i : Gr × Bool => [gD i.1]) okHc (fun i d => d = B i.2)
theorem clHc {g : Gr} {b : Bool} (h : okHc (g, b)) (ha : EL t ρ [gD g]) : EV (tCall spHc [] E t) ρ (B b) := ev_call (z := fun i : Gr × Bool => B i.2) (g, b) h ha
theorem ok_has_cycle (T : Txt K mg) : FnOk P w K mg base CX0 3 T.f_has_cycle T.d_has_cycle P_has_cycle spHc := by
  refine okP T.F_has_cycle sc_has_cycle (fun _ => rfl) (by decide) fun cdv A' outer s H E hr => ⟨_, (pss_cons (ps_set (i := 1) sc_has_cycle.nd rfl (Or.inr rfl) (pe_listRg rfl rfl T.b_list (prg_1 rfl T.b_range (pe_callB (call_lenA (K := K)) (by rfl) T.b_len bo_len (pa_cons (pe_ix (ix_any (K := K)) (pv 0) pe_int (fun _ _ => rfl)) pa_nil)))))
    (pss_cons (ps_set (i := 2) sc_has_cycle.nd rfl (Or.inl rfl) pe_int)
    (pss_cons (ps_while PassesOwn.never (pt_truth (pv 1) (by intro _; rfl))
      (pss_cons (ps_set (i := 1) sc_has_cycle.nd rfl (Or.inr rfl) (pe_lc (own := [("node", 3)]) (by rfl) sc_has_cycle.nd (pi_list (pv 1)) (blkOk_by (own := [("node", 3)]) (N := N_has_cycle) (sc := defScope s_has_cycle) (by decide +kernel)) (fun _ _ _ _ _ => (pg_name (i := 3) sc_has_cycle.nd rfl (Or.inl rfl))) (fun _ _ _ _ _ => pts_one (pt_cmpR (op_niA (K := K)) (pv 3) (pe_call (ok_hanging T) (hr.mono (by decide)) rfl T.g_hanging T.F_hanging.kp T.bd_hanging .nil pass0 (pa_cons (pv 0) (pa_cons (pe_ix (ix_any (K := K)) (pv 1) pe_int (fun _ _ => rfl)) (pa_cons (pv 1) pa_nil)))) (by rfl))) (fun _ _ _ _ _ => (pv 3))))
      (pss_one (ps_set (i := 2) sc_has_cycle.nd rfl (Or.inl rfl) (pe_op (op_addA (K := K)) (pv 2) pe_int)))))
    (pss_one (ps_ret (pe_cmpR (op_ltA (K := K) hr.units0) (pe_op op_sub (pe_callB (call_lenA (K := K)) (by rfl) T.b_len bo_len (pa_cons (pe_ix (ix_any (K := K)) (pv 0) pe_int (fun _ _ => rfl)) pa_nil)) (pe_callB (call_lenA (K := K)) (by rfl) T.b_len bo_len (pa_cons (pe_ix (ix_any (K := K)) (pv 0) pe_int (fun _ _ => rfl)) pa_nil))) (pv 2) (nomark _))))))), fun ⟨g, b⟩ ⟨h, hc⟩ => ?_⟩
  have h : WF g := h
  have h5 := h.n5
  have hc : (hcW g.es 6 (rgL 0 g.sc.length) 0).map (fun c => decide (((g.sc.length : Nat) : Int) - (g.es.length : Int) < c)) = some b := hc
  obtain ⟨c0, hc0, eb⟩ := Option.map_eq_some_iff.mp hc
  refine q_asg (ev_lstRg (ev_lenG (g := g) (ev_var rfl)) (by omega)) ?_
  refine q_asg ev_c ?_
  let R : List Int × Int → Rho := fun s => [.d (gD g), .d (.l (zD s.1)), .d (I s.2), .un]
  refine es_seq (Ψ := fun o => ∃ l, o = .nx (R (l, c0))) (es_while R (fun n s => s.1.length ≤ 5 ∧ hcW g.es n s.1 s.2 = some c0) 6 (rgL 0 g.sc.length, 0) ⟨by show (rgL 0 _).length ≤ 5; rw [rgL_len]; omega, hc0⟩ Wkn.refl fun n s ⟨hl, hI⟩ => ?_) ?_
  · obtain ⟨l, c⟩ := s
    have hl : l.length ≤ 5 := hl
    have hI : hcW g.es n l c = some c0 := hI
    have ee : (zD l).isEmpty = l.isEmpty := by cases l <;> rfl
    refine ⟨!l.isEmpty, EB.is (eb_tru (ev_var (d := .l (zD l)) rfl) trivial) (by show (!(zD l).isEmpty) = _; rw [ee]), fun hb => ?_, fun hb => ?_⟩
    · have hk : l.isEmpty = false := by simpa using hb
      cases n with
      | zero =>
        unfold hcW at hI
        rw [hk] at hI
        cases hI
      | succ n =>
        unfold hcW at hI
        rw [hk] at hI
        have hI : (match hang g.es (l.getD 0 0) l with | none => none | some h => hcW g.es n (l.filter fun x => !decide (x ∈ h)) (c + 1)) = some c0 := hI
        cases hh : hang g.es (l.getD 0 0) l with
        | none => rw [hh] at hI; cases hI
        | some r =>
          rw [hh] at hI
          have hI : hcW g.es n (l.filter fun x => !decide (x ∈ r)) (c + 1) = some c0 := hI
          have hpos : 0 < l.length := by cases l with
            | nil => cases hk
            | cons _ _ => exact Nat.succ_pos _
          refine q_asg (EV.is (ev_lc (src_list (f := I) (xs := l) (ev_var rfl)) (fun x => !decide (x ∈ r)) I (fun x hx => eb_test (ev_op (ev_var rfl) (clHgL h hh (el_cons (ev_var rfl) (el_cons (ev_op (ev_var (d := .l (zD l)) rfl) ev_c (rd_ixL (at_zD (x := 0) (by omega) (by omega)))) (el_cons (ev_var rfl) el_nil)))) rd_niT)) (fun x hx _ => ev_var rfl) (by omega)) (congrArg D.l zD_filt)) ?_
          refine es_asg (P := fun d => d = I (c + 1)) (EV.is (ev_op (ev_var rfl) ev_c rd_addI) rfl) fun d e => ?_
          subst e
          refine ⟨n, (l.filter fun x => !decide (x ∈ r), c + 1), Nat.lt_succ_self _, ⟨?_, hI⟩, Wkn.refl⟩
          have := List.length_filter_le (fun x => !decide (x ∈ r)) l
          show (l.filter _).length ≤ 5
          omega
    · have hk : l.isEmpty = true := by simpa using hb
      have e : c = c0 := by
        cases n with
        | zero =>
          unfold hcW at hI
          rw [hk] at hI
          exact Option.some.inj hI
        | succ n =>
          unfold hcW at hI
          rw [hk] at hI
          exact Option.some.inj hI
      exact ⟨l, by rw [e]⟩
  · rintro o ⟨l, rfl⟩
    refine s_ret (EV.is (ev_op (ev_op (ev_lenG (g := g) (ev_var rfl)) (EV.is (ev_cb1 (ev_g2 (g := g) (ev_var rfl)) cd_lenT) (by rw [List.length_map])) rd_0) (ev_var rfl) rd_ltI) (congrArg B eb)) rfl
/-! ### split_variable -/
theorem hav_pos {g : Gr} {v : Int} (hv : v ∈ vrs g) : 0 < (hav g v).length := by
  have hv : v ∈ g.sc.flatten := sset_mem.mp hv
  obtain ⟨s, hs, hvs⟩ := List.mem_flatten.mp hv
  rw [← nds_sco g] at hs
  obtain ⟨i, hi, rfl⟩ := List.mem_map.mp hs
  exact List.length_pos_of_mem (List.mem_filter.mpr ⟨hi, decide_eq_true hvs⟩)
abbrev okSv (g : Gr) : Prop := WF g ∧ ∀ v ∈ vrs g, ∃ r, hang g.es ((hav g v).getD 0 0) (hav g v) = some r
abbrev spSv : Sp := spP (fun g : Gr => [gD g]) okSv (fun g d => isNonD d = (vrs g).all fun v => conn g.es (hav g v))
theorem conn_of {es : List (Int × Int)} {S r : List Int} (h : hang es (S.getD 0 0) S = some r) : conn es S = decide (r = S) := by
  unfold conn
  rw [h]
  exact decide_eq_decide.mpr ⟨fun e => Option.some.inj e, fun e => by rw [e]⟩
theorem vrs_len {g : Gr} (h : WF g) : (vrs g).length ≤ 15 := by
  have h1 := h.flat
  unfold vrs sset
  rw [srt_len]
  have h2 : ∀ xs : List Int, (dd xs).length ≤ xs.length := fun xs => by
    induction xs with
    | nil => exact Nat.le_refl _
    | cons x xs ih =>
      unfold dd
      split
      · rw [List.length_cons]; omega
      · rw [List.length_cons, List.length_cons]; omega
  have := h2 g.sc.flatten
  omega
theorem ok_split_variable (T : Txt K mg) : FnOk P w K mg base CX0 3 T.f_split_variable T.d_split_variable P_split_variable spSv := by
  refine okP T.F_split_variable sc_split_variable (fun _ => rfl) (by decide) fun cdv A' outer s H E hr => ⟨_, (pss_cons (ps_for PassesOwn.never rfl (pi_tup (pe_call (ok_variables_of T) (hr.mono (by decide)) rfl T.g_variables_of T.F_variables_of.kp T.bd_variables_of .nil pass0 (pa_cons (pv 0) pa_nil))) (pg_name (i := 1) sc_split_variable.nd rfl (Or.inl rfl))
      (pss_cons (ps_set (i := 2) sc_split_variable.nd rfl (Or.inl rfl) (pe_call (ok_having T) (hr.mono (by decide)) rfl T.g_having T.F_having.kp T.bd_having .nil pass0 (pa_cons (pv 0) (pa_cons (pv 1) pa_nil))))
      (pss_one (ps_if (pt_cmpR (op_neA (K := K) hr.units) (pe_call (ok_hanging T) (hr.mono (by decide)) rfl T.g_hanging T.F_hanging.kp T.bd_hanging .nil pass0 (pa_cons (pv 0) (pa_cons (pe_ix (ix_any (K := K)) (pv 2) pe_int (fun _ _ => rfl)) (pa_cons (pv 2) pa_nil)))) (pv 2) (nomark _))
        (pss_one (ps_ret (pv 1)))
        pss_nil))))
    (pss_one (ps_ret pe_non))), fun g ⟨h, hv⟩ => ?_⟩
  let f : Int → Option D := fun v => if conn g.es (hav g v) = true then none else some (I v)
  let R0 : Rho := [.d (gD g), .un, .un]
  refine es_seq (Ψ := fun o => (o = .nx R0 ∧ (vrs g).findSome? f = none) ∨ ∃ d, o = .rt d ∧ (vrs g).findSome? f = some d) (es_forS (src_tup (f := I) (xs := vrs g) (clV1 h (el_cons (ev_var rfl) el_nil))) R0 f Wkn.refl (fun v hvv => ?_) (fun e => .inl ⟨rfl, e⟩) (fun d e => .inr ⟨d, rfl, e⟩)) ?_
  · obtain ⟨r, hr2⟩ := hv v hvv
    have hpos := hav_pos hvv
    have ec := conn_of hr2
    refine q_asg (clHv h (el_cons (ev_var rfl) (el_cons (ev_var rfl) el_nil))) ?_
    refine s_if (b := !decide (r = hav g v)) (eb_test (ev_op (clHgT h hr2 (el_cons (ev_var rfl) (el_cons (ev_op (ev_var (d := .t (zD (hav g v))) rfl) ev_c (rd_ixT (at_zD (x := 0) (by omega) (by omega)))) (el_cons (ev_var rfl) el_nil)))) (ev_var rfl) rd_neT)) (fun hb => ?_) (fun hb => ?_)
    · refine s_ret (ev_var rfl) ?_
      show f v = some (I v)
      have e : conn g.es (hav g v) = false := by rw [ec]; simpa using hb
      show (if conn g.es (hav g v) = true then none else some (I v)) = some (I v)
      rw [e]
      rfl
    · refine es_next ⟨?_, ?_⟩
      · have e : conn g.es (hav g v) = true := by rw [ec]; simpa using hb
        show (if conn g.es (hav g v) = true then none else some (I v)) = none
        rw [e]
        rfl
      · exact ⟨rfl, fun a z hz => by
          match a, hz with
          | 0, hz => exact .inr hz
          | 1, hz => exact .inl (Option.some.inj hz).symm
          | 2, hz => exact .inl (Option.some.inj hz).symm⟩
  · rintro o (⟨rfl, e⟩ | ⟨d, rfl, e⟩)
    · refine s_ret (d := .v .non) ev_c ?_
      show isNonD (.v .non) = (vrs g).all fun v => conn g.es (hav g v)
      have e2 : ((vrs g).all fun v => conn g.es (hav g v)) = true := List.all_eq_true.mpr fun v hvv => by
        have h1 := List.findSome?_eq_none_iff.mp e v hvv
        cases hc : conn g.es (hav g v) with
        | true => rfl
        | false =>
          have h2 : (if conn g.es (hav g v) = true then none else some (I v)) = none := h1
          rw [hc] at h2
          cases h2
      rw [e2]
      rfl
    · show isNonD d = (vrs g).all fun v => conn g.es (hav g v)
      obtain ⟨v, hvv, hfv⟩ := List.exists_of_findSome?_eq_some e
      have hfv : (if conn g.es (hav g v) = true then none else some (I v)) = some d := hfv
      cases hc : conn g.es (hav g v) with
      | true => rw [hc] at hfv; cases hfv
      | false =>
        rw [hc] at hfv
        cases hfv
        have e2 : ((vrs g).all fun v => conn g.es (hav g v)) = false := by
          rw [Bool.eq_false_iff]
          intro h1
          rw [List.all_eq_true.mp h1 v hvv] at hc
          cases hc
        rw [e2]
        rfl
/-! ### junction trees -/
abbrev okT (g : Gr) : Prop := WF g ∧ (∃ b, hasC g.sc.length g.es = some b) ∧ (∃ r, hang g.es 0 (nds g) = some r) ∧ ∀ v ∈ vrs g, ∃ r, hang g.es ((hav g v).getD 0 0) (hav g v) = some r
abbrev spT : Sp := spP (fun g : Gr => [gD g]) okT (fun g d => d = B (treeP g))
theorem clT {g : Gr} (h : okT g) (ha : EL t ρ [gD g]) : EV (tCall spT [] E t) ρ (B (treeP g)) := ev_call (z := fun g : Gr => B (treeP g)) g h ha
theorem nds_0 {g : Gr} (h : WF g) : (nds g).getD 0 0 = 0 := by
  have h1 := h.n1
  unfold nds rgL
  rw [List.getD_eq_getElem?_getD, List.getElem?_map, List.getElem?_eq_getElem (by simp; omega)]
  simp
theorem ok_is_tree_like (T : Txt K mg) : FnOk P w K mg base CX0 4 T.f_is_tree_like T.d_is_tree_like P_is_tree_like spT := by
  refine okP T.F_is_tree_like sc_is_tree_like (fun _ => rfl) (by decide) fun cdv A' outer s H E hr => ⟨_, (pss_cons (ps_set (i := 1) sc_is_tree_like.nd rfl (Or.inl rfl) (pe_tupRg rfl rfl T.b_tuple (prg_1 rfl T.b_range (pe_callB (call_lenA (K := K)) (by rfl) T.b_len bo_len (pa_cons (pe_ix (ix_any (K := K)) (pv 0) pe_int (fun _ _ => rfl)) pa_nil)))))
    (pss_cons (ps_if (PW.pt (pw_or (pt_truth (pe_call (ok_has_cycle T) (hr.mono (by decide)) rfl T.g_has_cycle T.F_has_cycle.kp T.bd_has_cycle .nil pass0 (pa_cons (pv 0) pa_nil)) (by intro _; rfl)) (pw_or1 (pt_cmpR (op_neA (K := K) hr.units) (pe_call (ok_hanging T) (hr.mono (by decide)) rfl T.g_hanging T.F_hanging.kp T.bd_hanging .nil pass0 (pa_cons (pv 0) (pa_cons pe_int (pa_cons (pv 1) pa_nil)))) (pv 1) (nomark _)))))
      (pss_one (ps_ret pe_bl))
      pss_nil)
    (pss_one (ps_ret (pe_cmpR op_isN (pe_call (ok_split_variable T) (hr.mono (by decide)) rfl T.g_split_variable T.F_split_variable.kp T.bd_split_variable .nil pass0 (pa_cons (pv 0) pa_nil)) pe_non (nomark _)))))), fun g ⟨h, ⟨b, hb⟩, ⟨r, hr2⟩, hv⟩ => ?_⟩
  have h5 := h.n5
  have ec : conn g.es (nds g) = decide (r = nds g) := conn_of (by rw [nds_0 h]; exact hr2)
  refine q_asg (ev_tupRg (ev_lenG (g := g) (ev_var rfl)) (by omega)) ?_
  refine q_ifr (eb_or (tru1 (clHc ⟨h, hb⟩ (el_cons (ev_var rfl) el_nil))) fun _ => eb_test (ev_op (clHgT h hr2 (el_cons (ev_var rfl) (el_cons ev_c (el_cons (ev_var rfl) el_nil)))) (ev_var (d := .t (zD (nds g))) rfl) rd_neT)) (fun hx => ?_) (fun hx => ?_)
  · refine s_ret ev_c ?_
    show B false = B (treeP g)
    unfold treeP
    rw [ec, hb]
    cases b with
    | true => rfl
    | false =>
      have hx : (!decide (r = nds g)) = true := hx
      have e : decide (r = nds g) = false := by simpa using hx
      rw [e]
      simp
  · have hb0 : b = false := by cases b with
      | true => cases hx
      | false => rfl
    subst hb0
    have e : decide (r = nds g) = true := by
      have hx : (!decide (r = nds g)) = false := hx
      simpa using hx
    refine es_ret (P := fun d => d = B (treeP g)) (ee_op (P := fun d => isNonD d = (vrs g).all fun v => conn g.es (hav g v)) (P' := fun d => d = .v .non) (ee_call (O := fun g d => isNonD d = (vrs g).all fun v => conn g.es (hav g v)) g ⟨h, hv⟩ (el_cons (ev_var rfl) el_nil)) ev_c fun d d2 hd e2 => ⟨B (isNonD d), ?_, by rw [e2]; exact rd_isN⟩) fun d hd => hd
    unfold treeP
    rw [hd, ec, hb, e]
    simp
theorem ok_is_junction_tree (T : Txt K mg) : FnOk P w K mg base CX0 6 T.f_is_junction_tree T.d_is_junction_tree P_is_junction_tree spT := by
  refine okP T.F_is_junction_tree sc_is_junction_tree (fun _ => rfl) (by decide) fun cdv A' outer s H E hr => ⟨_, (pss_cons (ps_expr (pe_call (ok_check_graph T) (hr.mono (by decide)) rfl T.g_check_graph T.F_check_graph.kp T.bd_check_graph .nil pass0 (pa_cons (pv 0) pa_nil)))
    (pss_one (ps_ret (pe_call (ok_is_tree_like T) (hr.mono (by decide)) rfl T.g_is_tree_like T.F_is_tree_like.kp T.bd_is_tree_like .nil pass0 (pa_cons (pv 0) pa_nil))))), fun g h => ?_⟩
  refine q_drop (clG1 (z := .v .non) h.1 (el_cons (ev_var rfl) el_nil)) ?_
  exact s_ret (clT h (el_cons (ev_var rfl) el_nil)) rfl
end
end TT

set_option maxRecDepth 100000
set_option maxHeartbeats 4100000
/-! F4: the law's hanging, ways, cycles, junction trees -/
namespace TT
open PySem PySem.Spec PyProof.Rows
open L2
open Dl
open Evl (Ex)
theorem wN : Wkn [] [] := Wkn.refl
theorem wS {a b : Rho} {x : Sl} (h : Wkn a b) : Wkn (x :: a) (x :: b) := ⟨congrArg (· + 1) h.1, fun i z hz => by
  cases i with
  | zero => exact .inr hz
  | succ i => exact h.2 i z hz⟩
theorem wU {a b : Rho} {x : Sl} (h : Wkn a b) : Wkn (x :: a) (.un :: b) := ⟨congrArg (· + 1) h.1, fun i z hz => by
  cases i with
  | zero => exact .inl (Option.some.inj hz).symm
  | succ i => exact h.2 i z hz⟩
theorem lhI_len {am f : List Int} {o : Int} : (lhI am f o).length ≤ f.length + 1 := by
  unfold lhI
  split
  · rw [List.length_append]; exact Nat.le_refl _
  · omega
theorem lhI_fold {am : List Int} (xs : List Int) : ∀ f : List Int, (xs.foldl (lhI am) f).length ≤ f.length + xs.length := by
  induction xs with
  | nil => intro f; exact Nat.le_refl _
  | cons x xs ih =>
    intro f
    have h1 := ih (lhI am f x)
    have h2 := lhI_len (am := am) (f := f) (o := x)
    rw [List.foldl_cons, List.length_cons]
    omega
theorem lhS_len {es : List (Int × Int)} {am f : List Int} {k : Int} (h : es.length ≤ 30) : (lhS es am f k).length ≤ f.length + 60 := by
  unfold lhS
  split
  · have h1 := lhI_fold (am := am) (nbrs es (f.getD k.toNat 0)) f
    have h2 := nbrs_len (x := f.getD k.toNat 0) h
    omega
  · omega
theorem lhS_fold {es : List (Int × Int)} {am : List Int} (h : es.length ≤ 30) (xs : List Int) : ∀ f : List Int, (xs.foldl (lhS es am) f).length ≤ f.length + 60 * xs.length := by
  induction xs with
  | nil => intro f; exact Nat.le_refl _
  | cons x xs ih =>
    intro f
    have h1 := ih (lhS es am f x)
    have h2 := lhS_len (am := am) (f := f) (k := x) h
    rw [List.foldl_cons, List.length_cons]
    omega
theorem zD_1 (f : List Int) (o : Int) : zD f ++ [I o] = zD (f ++ [o]) := zD_app f [o]
section
variable {P : Program} {w : World} {K : PySem.W.Frag} {mg : Str → Option Value} {base : Heap} {ρ : Rho} {t : TA} {te tx : TE} {E : XK} {Φ : Oc → Prop} {u : TS}
/-! ### hanging -/
abbrev spHL : Sp := spP (fun i : Gr × Int × List Int => [gD i.1, I i.2.1, .t (zD i.2.2)]) (fun i => WF i.1 ∧ i.2.2.length ≤ 5) (fun i d => d = .t (zD (lhang i.1.es i.2.1 i.2.2)))
theorem clHL {g : Gr} {x : Int} {am : List Int} (h : WF g) (h2 : am.length ≤ 5) (ha : EL t ρ [gD g, I x, .t (zD am)]) : EV (tCall spHL [] E t) ρ (.t (zD (lhang g.es x am))) := ev_call (z := fun i : Gr × Int × List Int => .t (zD (lhang i.1.es i.2.1 i.2.2))) (g, x, am) ⟨h, h2⟩ ha
theorem ok_l_hanging (T : Txt K mg) : FnOk P w K mg base CX0 2 T.f_l_hanging T.d_l_hanging P_l_hanging spHL := by
  refine okP T.F_l_hanging sc_l_hanging (fun _ => rfl) (by decide) fun cdv A' outer s H E hr => ⟨_, (pss_cons (ps_set (i := 3) sc_l_hanging.nd rfl (Or.inl rfl) (pe_lst (pa_cons (pv 1) pa_nil)))
    (pss_cons (ps_for PassesOwn.never rfl (pi_range1 (by rfl) T.b_range (pa_cons (pe_callB (call_lenA (K := K)) (by rfl) T.b_len bo_len (pa_cons (pv 2) pa_nil)) pa_nil)) (pg_name (i := 4) sc_l_hanging.nd rfl (Or.inl rfl))
      (pss_one (ps_if (pt_cmpR (op_ltA (K := K) hr.units0) (pv 4) (pe_callB (call_lenA (K := K)) (by rfl) T.b_len bo_len (pa_cons (pv 3) pa_nil)) (nomark _))
        (pss_one (ps_for PassesOwn.never rfl (pi_list (pe_call (ok_l_near T) (hr.mono (by decide)) rfl T.g_l_near T.F_l_near.kp T.bd_l_near .nil pass0 (pa_cons (pv 0) (pa_cons (pe_ix (ix_any (K := K)) (pv 3) (pv 4) (fun _ _ => rfl)) pa_nil)))) (pg_name (i := 5) sc_l_hanging.nd rfl (Or.inl rfl))
          (pss_one (ps_if (PW.pt (pw_and (pt_cmpR (op_inA (K := K)) (pv 5) (pv 2) (by rfl)) (pw_and1 (pt_cmpR (op_niA (K := K)) (pv 5) (pv 3) (by rfl)))))
            (pss_one (ps_expr (pe_bm PySem.F.plainAttrs_list PySem.F.slot_list_append PySem.F.type_list_append mt_append (pv 3) (pa_cons (pv 5) pa_nil))))
            pss_nil))))
        pss_nil)))
    (pss_one (ps_ret (pe_callTy (call_tupA (K := K)) (by rfl) T.b_tuple bo_tuple (pa_cons (pe_callB (cr_sortA (K := K) (w := w) rfl) (by rfl) T.b_sorted bo_sorted (pa_cons (pv 3) pa_nil)) pa_nil)))))), fun ⟨g, x, am⟩ ⟨h, h5⟩ => ?_⟩
  have h : WF g := h
  have h5 : am.length ≤ 5 := h5
  have hf := h.few
  refine q_own (A := fun ds => ds = [I x]) (ef_lst (el_cons (ev_var rfl) el_nil) fun ds e => by rw [e]; show 1 ≤ 100000; decide) fun ds e => ?_
  subst e
  let R : List Int → Rho := fun f => [.d (gD g), .d (I x), .d (.t (zD am)), .o (.ls (zD f)), .un, .un]
  have hrl : (rgL 0 (am.length : Int)).length = am.length := by rw [rgL_len]; omega
  refine es_seq (Ψ := fun o => o = .nx (R ((rgL 0 am.length).foldl (lhS g.es am) [x]))) (es_forF (src_rng1 (n := am.length) (el_cons (EV.is (ev_cb1 (ev_var (d := .t (zD am)) rfl) cd_lenT) (by rw [zD_len])) el_nil) (by omega)) R (lhS g.es am) [x] Wkn.refl (fun i k hk => ?_) rfl) ?_
  · have hkm := mem_rgL.mp (List.mem_of_getElem? hk)
    have hl := lhS_fold (am := am) hf ((rgL 0 (am.length : Int)).take i) [x]
    have hl2 : ((rgL 0 (am.length : Int)).take i).length ≤ 5 := by rw [List.length_take, hrl]; omega
    have hl3 : [x].length = 1 := rfl
    generalize ((rgL 0 (am.length : Int)).take i).foldl (lhS g.es am) [x] = f at hl
    have el := zD_len f
    refine s_if (b := decide (k < f.length)) (ET.weak (eb_test (EV.is (ev_op (ev_var rfl) (ev_cb1 (ev_var (d := .l (zD f)) rfl) cd_lenL) rd_ltI) (by rw [el])))) (fun hb => ?_) (fun hb => ?_)
    · have hk2 : k < f.length := of_decide_eq_true hb
      have hnb := nbrs_len (x := f.getD k.toNat 0) hf
      let R2 : List Int → Rho := fun f => [.d (gD g), .d (I x), .d (.t (zD am)), .o (.ls (zD f)), .d (I k), .un]
      refine es_forF (src_list (f := I) (xs := nbrs g.es (f.getD k.toNat 0)) (clNbL h (el_cons (ev_var rfl) (el_cons (ev_ixO (i := 3) (ds := zD f) rfl (ev_var rfl) (at_zD hkm.1 hk2)) el_nil)))) R2 (lhI am) f Wkn.refl (fun j o ho => ?_) ?_
      · have hl4 := lhI_fold (am := am) ((nbrs g.es (f.getD k.toNat 0)).take j) f
        have hl5 : ((nbrs g.es (f.getD k.toNat 0)).take j).length ≤ 60 := by rw [List.length_take]; omega
        generalize ((nbrs g.es (f.getD k.toNat 0)).take j).foldl (lhI am) f = f2 at hl4
        have el2 := zD_len f2
        refine s_if (b := decide (o ∈ am) && !decide (o ∈ f2)) (ET.weak (eb_and (eb_test (ev_op (ev_var rfl) (ev_var (d := .t (zD am)) rfl) rd_inT)) fun _ => eb_test (ev_op (ev_var rfl) (ev_var (d := .l (zD f2)) rfl) rd_niL))) (fun hc => ?_) (fun hc => ?_)
        · have e : lhI am f2 o = f2 ++ [o] := by unfold lhI; rw [hc]; rfl
          refine es_app (P := fun d => d = I o) (ds := zD f2) rfl (ev_var rfl) (by omega) fun d hd => ?_
          subst hd
          show Wkn [.d (gD g), .d (I x), .d (.t (zD am)), .o (.ls (zD f2 ++ [I o])), .d (I k), .d (I o)] (R2 (lhI am f2 o))
          rw [e, zD_1]
          exact wS (wS (wS (wS (wS (wU wN)))))
        · have e : lhI am f2 o = f2 := by unfold lhI; rw [hc]; rfl
          refine es_next ?_
          show Wkn _ (R2 (lhI am f2 o))
          rw [e]
          exact wS (wS (wS (wS (wS (wU wN)))))
      · have e : lhS g.es am f k = (nbrs g.es (f.getD k.toNat 0)).foldl (lhI am) f := by unfold lhS; rw [if_pos hk2]
        show Wkn _ (R (lhS g.es am f k))
        rw [e]
        exact wS (wS (wS (wS (wU (wU wN)))))
    · have e : lhS g.es am f k = f := by unfold lhS; rw [if_neg (of_decide_eq_false hb)]
      refine es_next ?_
      show Wkn _ (R (lhS g.es am f k))
      rw [e]
      exact wS (wS (wS (wS (wU (wU wN)))))
  · rintro o rfl
    exact s_ret (ev_cb1 (ev_cb1 (ev_var (d := .l (zD _)) rfl) cd_sortL) cd_tupL) rfl
/-! ### ways -/
theorem at_last {w : List Int} (h : w ≠ []) : atI (zD w) (-1) = some (I (lst w)) := by
  have hp : 0 < w.length := List.length_pos_iff.mpr h
  have el := zD_len w
  unfold atI ixN
  rw [if_neg (by decide), if_pos (by rw [el]; omega)]
  show (zD w)[((zD w).length + -1 : Int).toNat]? = _
  rw [el, show ((w.length : Int) + -1).toNat = w.length - 1 by omega]
  unfold zD lst
  rw [List.getElem?_map, List.getD_eq_getElem?_getD, List.getElem?_eq_getElem (by omega)]
  rfl
theorem ud_neg {i : Int} : UD (rU fun i => .int (-i)) (I i) (I (-i)) := fun Z H vx _ rx Q k => ⟨i, rx, k _ H (fun _ _ h => h) rfl⟩
theorem wyW_len {es : List (Int × Int)} {o : Int} : ∀ (n k : Nat) (s : List (List Int) × List (List Int)), (wyW es o n k s).length ≤ s.1.length + n
  | 0, k, s => by unfold wyW; omega
  | n + 1, k, s => by
    unfold wyW
    split
    · have h := wyW_len (es := es) (o := o) n (k + 1) (wyT es o s k)
      have h2 : (wyT es o s k).1.length ≤ s.1.length + 1 := by
        unfold wyT
        dsimp only
        split
        · rw [List.length_append]; exact Nat.le_refl _
        · omega
      omega
    · omega
theorem ways_len {es : List (Int × Int)} {a o : Int} : (ways es a o).length ≤ 1000 := by
  have h : (ways es a o).length ≤ ([] : List (List Int)).length + 1000 := wyW_len (es := es) (o := o) 1000 0 ([], [[a]])
  exact Nat.le_trans h (by decide)
abbrev spWy : Sp := spP (fun i : Gr × Int × Int => [gD i.1, I i.2.1, I i.2.2]) (fun i => WF i.1) (fun i d => d = .l ((ways i.1.es i.2.1 i.2.2).map scD))
theorem clWy {g : Gr} {x y : Int} (h : WF g) (ha : EL t ρ [gD g, I x, I y]) : EV (tCall spWy [] E t) ρ (.l ((ways g.es x y).map scD)) := ev_call (z := fun i : Gr × Int × Int => .l ((ways i.1.es i.2.1 i.2.2).map scD)) (g, x, y) h ha
theorem ok_l_ways (T : Txt K mg) : FnOk P w K mg base CX0 2 T.f_l_ways T.d_l_ways P_l_ways spWy := by
  refine okP T.F_l_ways sc_l_ways (fun _ => rfl) (by decide) fun cdv A' outer s H E hr => ⟨_, (pss_cons (ps_set (i := 3) sc_l_ways.nd rfl (Or.inl rfl) (pe_lst pa_nil))
    (pss_cons (ps_set (i := 4) sc_l_ways.nd rfl (Or.inl rfl) (pe_lst (pa_cons (pe_tup (pa_cons (pv 1) pa_nil)) pa_nil)))
    (pss_cons (ps_for PassesOwn.never rfl (pi_range1 (by rfl) T.b_range (pa_cons pe_int pa_nil)) (pg_name (i := 5) sc_l_ways.nd rfl (Or.inl rfl))
      (pss_cons (ps_if (pt_cmpR op_ge (pv 5) (pe_callB (call_lenA (K := K)) (by rfl) T.b_len bo_len (pa_cons (pv 4) pa_nil)) (nomark _))
        (pss_one ps_break)
        pss_nil)
      (pss_cons (ps_set (i := 6) sc_l_ways.nd rfl (Or.inr rfl) (pe_ix (ix_any (K := K)) (pv 4) (pv 5) (fun _ _ => rfl)))
      (pss_cons (ps_if (pt_cmpR op_eq (pe_ix (ix_any (K := K)) (pv 6) (pe_un un_neg pe_int) (fun _ _ => rfl)) (pv 2) (nomark _))
        (pss_one (ps_expr (pe_bm PySem.F.plainAttrs_list PySem.F.slot_list_append PySem.F.type_list_append mt_append (pv 3) (pa_cons (pv 6) pa_nil))))
        pss_nil)
      (pss_one (ps_set (i := 4) sc_l_ways.nd rfl (Or.inl rfl) (pe_op (op_addA (K := K)) (pv 4) (pe_lc (own := [("_law_node", 7)]) (by rfl) sc_l_ways.nd (pi_list (pe_call (ok_l_near T) (hr.mono (by decide)) rfl T.g_l_near T.F_l_near.kp T.bd_l_near .nil pass0 (pa_cons (pv 0) (pa_cons (pe_ix (ix_any (K := K)) (pv 6) (pe_un un_neg pe_int) (fun _ _ => rfl)) pa_nil)))) (blkOk_by (own := [("_law_node", 7)]) (N := N_l_ways) (sc := defScope s_l_ways) (by decide +kernel)) (fun _ _ _ _ _ => (pg_name (i := 7) sc_l_ways.nd rfl (Or.inl rfl))) (fun _ _ _ _ _ => pts_one (pt_cmpR (op_niA (K := K)) (pv 7) (pv 6) (by rfl))) (fun _ _ _ _ _ => (pe_op (op_addA (K := K)) (pv 6) (pe_tup (pa_cons (pv 7) pa_nil))))))))))))
    (pss_one (ps_ret (pv 3)))))), fun ⟨g, a, o⟩ h => ?_⟩
  have h : WF g := h
  have hf := h.few
  refine q_own (A := fun ds => ds = []) (ef_lst el_nil fun ds e => by rw [e]; show 0 ≤ 100000; decide) fun ds e => ?_
  subst e
  refine q_asg (d := .l ([[a]].map scD)) (ev_lst (el_cons (ev_tup (el_cons (ev_var rfl) el_nil) (by show 1 ≤ 100000; decide)) el_nil) (by show 1 ≤ 100000; decide)) ?_
  let R : List (List Int) × List (List Int) → Rho := fun s => [.d (gD g), .d (I a), .d (I o), .o (.ls (s.1.map scD)), .d (.l (s.2.map scD)), .un, .un, .un]
  let Inv : Nat → List (List Int) × List (List Int) → Prop := fun i s => wyW g.es o (1000 - i) i s = ways g.es a o ∧ i ≤ 1000 ∧ s.1.length ≤ i ∧ s.2.length ≤ 1 + 60 * i ∧ ∀ w ∈ s.2, w ≠ [] ∧ w.length ≤ i + 1
  refine es_seq (Ψ := fun oc => ∃ x4 x5, oc = .nx [.d (gD g), .d (I a), .d (I o), .o (.ls ((ways g.es a o).map scD)), x4, x5, .un, .un]) (es_for (src_rng1 (n := 1000) (el_cons ev_c el_nil) (by omega)) R Inv ⟨([], [[a]]), ⟨rfl, Nat.zero_le _, Nat.le_refl _, Nat.le_refl _, fun w hw => ?_⟩, Wkn.refl⟩ (fun i k s hk hI => ?_) fun s hI => ?_) ?_
  · have e : w = [a] := by simpa using hw
    rw [e]
    exact ⟨by simp, Nat.le_refl _⟩
  · obtain ⟨fd, row⟩ := s
    obtain ⟨h1, h2, h3, h4, h6⟩ := hI
    have h3 : fd.length ≤ i := h3
    have h4 : row.length ≤ 1 + 60 * i := h4
    have h6 : ∀ w ∈ row, w ≠ [] ∧ w.length ≤ i + 1 := h6
    have ek := rgL_get hk
    have ek : k = (i : Int) := by omega
    subst ek
    have hi : i < 1000 := by
      have := mem_rgL.mp (List.mem_of_getElem? hk)
      omega
    obtain ⟨n, hn⟩ : ∃ n, 1000 - i = n + 1 := ⟨999 - i, by omega⟩
    have h1 : wyW g.es o (1000 - i) i (fd, row) = ways g.es a o := h1
    rw [hn] at h1
    unfold wyW at h1
    have elr : (row.map scD).length = row.length := List.length_map ..
    refine q_if (b := decide ((row.length : Int) ≤ (i : Int))) (eb_test (EV.is (ev_op (ev_var rfl) (ev_cb1 (ev_var (d := .l (row.map scD)) rfl) cd_lenL) rd_0) (by rw [elr]))) (fun hb => ?_) (fun hb => ?_)
    · have hb2 := of_decide_eq_true hb
      rw [if_neg (show ¬ i < (fd, row).2.length by show ¬ i < row.length; omega)] at h1
      have h1 : fd = ways g.es a o := h1
      refine es_seq (Ψ := fun oc => oc = .bk [.d (gD g), .d (I a), .d (I o), .o (.ls (fd.map scD)), .d (.l (row.map scD)), .d (I i), .un, .un]) (es_break rfl) fun oc e => ?_
      subst e
      exact ⟨_, _, by rw [h1]⟩
    · have hb2 := of_decide_eq_false hb
      have hlt : i < row.length := by omega
      rw [if_pos (show i < (fd, row).2.length by show i < row.length; omega)] at h1
      have hw : row[i]? = some (row.getD i []) := by
        rw [List.getD_eq_getElem?_getD, List.getElem?_eq_getElem hlt] <;> rfl
      obtain ⟨hw0, hw1⟩ := h6 _ (List.mem_of_getElem? hw)
      generalize ew : row.getD i [] = w at *
      have ewt : wyT g.es o (fd, row) i = (if lst w = o then fd ++ [w] else fd, row ++ ((nbrs g.es (lst w)).filter fun x => !decide (x ∈ w)).map fun x => w ++ [x]) := by
        unfold wyT
        dsimp only
        rw [ew]
      rw [ewt] at h1
      have hnb := nbrs_len (x := lst w) hf
      have hfl := List.length_filter_le (fun x => !decide (x ∈ w)) (nbrs g.es (lst w))
      refine q_next ?_
      refine q_asg (d := scD w) (ev_op (ev_var rfl) (ev_var rfl) (rd_ixL (at_map (f := scD) (by omega) hw))) ?_
      have elast : ∀ {ρ : Rho}, ρ[6]? = some (.d (scD w)) → EV (tOp (rIx K) (tVar 6) (tUn (rU fun i => .int (-i)) (tC (.int 1)))) ρ (I (lst w)) := fun hρ => ev_op (ev_var hρ) (ev_un ev_c ud_neg) (rd_ixT (at_last hw0))
      refine es_seq (Ψ := fun oc => oc = .nx [.d (gD g), .d (I a), .d (I o), .o (.ls ((if lst w = o then fd ++ [w] else fd).map scD)), .d (.l (row.map scD)), .d (I i), .d (scD w), .un]) ?_ fun oc e => ?_
      · refine s_if (b := decide (lst w = o)) (eb_test (ev_op (elast rfl) (ev_var rfl) rd_eqI)) (fun hc => ?_) (fun hc => ?_)
        · have hc := of_decide_eq_true hc
          refine es_app (P := fun d => d = scD w) (ds := fd.map scD) rfl (ev_var rfl) (by rw [List.length_map]; omega) fun d hd => ?_
          subst hd
          rw [if_pos hc, List.map_append]
          rfl
        · have hc := of_decide_eq_false hc
          refine es_next ?_
          rw [if_neg hc]
          rfl
      · subst e
        refine es_asg (P := fun d => d = .l ((row ++ ((nbrs g.es (lst w)).filter fun x => !decide (x ∈ w)).map fun x => w ++ [x]).map scD)) (EV.is (ev_op (ev_var rfl) (ev_lc (src_list (f := I) (xs := nbrs g.es (lst w)) (clNbL h (el_cons (ev_var rfl) (el_cons (elast rfl) el_nil)))) (fun x => !decide (x ∈ w)) (fun x => scD (w ++ [x])) (fun x hx => eb_test (ev_op (ev_var rfl) (ev_var (d := scD w) rfl) rd_niT)) (fun x hx _ => EV.is (ev_op (ev_var (d := scD w) rfl) (ev_tup (el_cons (ev_var rfl) el_nil) (by show 1 ≤ 100000; decide)) (rd_addT (by rw [zD_len]; show _ + 1 ≤ _; omega))) (congrArg D.t (zD_1 w x))) (by omega)) (rd_addL (by rw [List.length_map, List.length_map]; omega))) (by rw [List.map_append, List.map_map]; rfl)) fun d hd => ?_
        subst hd
        refine ⟨(if lst w = o then fd ++ [w] else fd, row ++ ((nbrs g.es (lst w)).filter fun x => !decide (x ∈ w)).map fun x => w ++ [x]), ⟨?_, by omega, ?_, ?_, fun v hv => ?_⟩, wS (wS (wS (wS (wS (wU (wU (wU wN)))))))⟩
        · rw [show 1000 - (i + 1) = n by omega]
          exact h1
        · show (if lst w = o then fd ++ [w] else fd).length ≤ i + 1
          split
          · rw [List.length_append, List.length_singleton]; omega
          · omega
        · show (row ++ _).length ≤ _
          rw [List.length_append, List.length_map]
          omega
        · rcases List.mem_append.mp hv with hv | hv
          · obtain ⟨g1, g2⟩ := h6 v hv
            exact ⟨g1, by omega⟩
          · obtain ⟨x, _, rfl⟩ := List.mem_map.mp hv
            exact ⟨by simp, by rw [List.length_append, List.length_singleton]; omega⟩
  · obtain ⟨h1, _⟩ := hI
    have e : (rgL 0 1000).length = 1000 := by rw [rgL_len]; rfl
    rw [e] at h1
    have h1 : s.1 = ways g.es a o := h1
    exact ⟨_, _, by rw [← h1]⟩
  · rintro oc ⟨x4, x5, rfl⟩
    exact s_ret (ev_var rfl) rfl
/-! ### cycles -/
def cyS (es : List (Int × Int)) (f : List (List Int)) (e : Int × Int) : List (List Int) := f ++ (ways es e.1 e.2).filter fun w => decide (2 < (w.length : Int))
theorem cyS_fold {es : List (Int × Int)} (xs : List (Int × Int)) : ∀ f : List (List Int), (xs.foldl (cyS es) f).length ≤ f.length + 1000 * xs.length := by
  induction xs with
  | nil => intro f; exact Nat.le_refl _
  | cons x xs ih =>
    intro f
    have h1 := ih (cyS es f x)
    have h2 := ways_len (es := es) (a := x.1) (o := x.2)
    have h3 := List.length_filter_le (fun w : List Int => decide (2 < (w.length : Int))) (ways es x.1 x.2)
    have h4 : (cyS es f x).length ≤ f.length + 1000 := by unfold cyS; rw [List.length_append]; omega
    rw [List.foldl_cons, List.length_cons]
    omega
abbrev spCy : Sp := spP (fun g : Gr => [gD g]) WF (fun g d => d = .l ((cycs g.es).map scD))
theorem clCy {g : Gr} (h : WF g) (ha : EL t ρ [gD g]) : EV (tCall spCy [] E t) ρ (.l ((cycs g.es).map scD)) := ev_call (z := fun g : Gr => .l ((cycs g.es).map scD)) g h ha
theorem ok_l_cycles (T : Txt K mg) : FnOk P w K mg base CX0 3 T.f_l_cycles T.d_l_cycles P_l_cycles spCy := by
  refine okP T.F_l_cycles sc_l_cycles (fun _ => rfl) (by decide) fun cdv A' outer s H E hr => ⟨_, (pss_cons (ps_set (i := 1) sc_l_cycles.nd rfl (Or.inl rfl) (pe_lst pa_nil))
    (pss_cons (ps_for PassesOwn.never rfl (pi_tup (pe_ix (ix_any (K := K)) (pv 0) pe_int (fun _ _ => rfl))) (pg_tupA (K := K) (n := 2) rfl (pgs_cons (pg_name (i := 2) sc_l_cycles.nd rfl (Or.inl rfl)) (pgs_cons (pg_name (i := 3) sc_l_cycles.nd rfl (Or.inl rfl)) pgs_nil)))
      (pss_one (ps_set (i := 1) sc_l_cycles.nd rfl (Or.inl rfl) (pe_op (op_addA (K := K)) (pv 1) (pe_lc (own := [("_law_way", 4)]) (by rfl) sc_l_cycles.nd (pi_list (pe_call (ok_l_ways T) (hr.mono (by decide)) rfl T.g_l_ways T.F_l_ways.kp T.bd_l_ways .nil pass0 (pa_cons (pv 0) (pa_cons (pv 2) (pa_cons (pv 3) pa_nil))))) (blkOk_by (own := [("_law_way", 4)]) (N := N_l_cycles) (sc := defScope s_l_cycles) (by decide +kernel)) (fun _ _ _ _ _ => (pg_name (i := 4) sc_l_cycles.nd rfl (Or.inl rfl))) (fun _ _ _ _ _ => pts_one (pt_cmpR op_gt (pe_callB (call_lenA (K := K)) (by rfl) T.b_len bo_len (pa_cons (pv 4) pa_nil)) pe_int (nomark _))) (fun _ _ _ _ _ => (pv 4)))))))
    (pss_one (ps_ret (pv 1))))), fun g h => ?_⟩
  have hf := h.few
  refine q_asg (d := .l (([] : List (List Int)).map scD)) (ev_lst el_nil) ?_
  let R : List (List Int) → Rho := fun f => [.d (gD g), .d (.l (f.map scD)), .un, .un, .un]
  refine es_seq (Ψ := fun o => o = .nx (R (cycs g.es))) (es_forF (src_pairs (f := fun e => I e.1) (f2 := fun e => I e.2) (xs := g.es) (ev_g2 (g := g) (ev_var rfl))) R (cyS g.es) [] Wkn.refl (fun i e he => ?_) rfl) ?_
  · have hl := cyS_fold (es := g.es) (g.es.take i) []
    have hl2 : (g.es.take i).length ≤ 30 := by rw [List.length_take]; omega
    have hl3 : ([] : List (List Int)).length = 0 := rfl
    generalize (g.es.take i).foldl (cyS g.es) [] = f at hl
    have hw := ways_len (es := g.es) (a := e.1) (o := e.2)
    have h3 := List.length_filter_le (fun w : List Int => decide (2 < (w.length : Int))) (ways g.es e.1 e.2)
    refine es_asg (P := fun d => d = .l ((cyS g.es f e).map scD)) (EV.is (ev_op (ev_var rfl) (ev_lc (src_list (f := scD) (xs := ways g.es e.1 e.2) (clWy h (el_cons (ev_var rfl) (el_cons (ev_var rfl) (el_cons (ev_var rfl) el_nil))))) (fun w => decide (2 < (w.length : Int))) scD (fun w hw => eb_test (EV.is (ev_op (ev_cb1 (ev_var (d := scD w) rfl) cd_lenT) ev_c rd_0) (by rw [zD_len]))) (fun w hw _ => ev_var rfl) (by omega)) (rd_addL (by rw [List.length_map, List.length_map]; omega))) (by unfold cyS; rw [List.map_append])) fun d hd => ?_
    subst hd
    exact wS (wS (wU (wU (wS wN))))
  · rintro o rfl
    exact s_ret (ev_var rfl) rfl
/-! ### junction trees -/
theorem hav_len {g : Gr} (h : WF g) (v : Int) : (hav g v).length ≤ 5 := by
  have h1 := List.length_filter_le (fun i => decide (v ∈ sco g i)) (nds g)
  have h2 : (nds g).length = g.sc.length := by unfold nds; rw [rgL_len]; omega
  have h5 := h.n5
  unfold hav
  omega
theorem nds_len {g : Gr} : (nds g).length = g.sc.length := by unfold nds; rw [rgL_len]; omega
abbrev spJL : Sp := spP (fun g : Gr => [gD g]) WF (fun g d => d = B (treeL g))
theorem clJL {g : Gr} (h : WF g) (ha : EL t ρ [gD g]) : EV (tCall spJL [] E t) ρ (B (treeL g)) := ev_call (z := fun g : Gr => B (treeL g)) g h ha
theorem ok_l_is_junction (T : Txt K mg) : FnOk P w K mg base CX0 4 T.f_l_is_junction T.d_l_is_junction P_l_is_junction spJL := by
  refine okP T.F_l_is_junction sc_l_is_junction (fun _ => rfl) (by decide) fun cdv A' outer s H E hr => ⟨_, (pss_cons (ps_if (pt_truth (pe_call (ok_l_cycles T) (hr.mono (by decide)) rfl T.g_l_cycles T.F_l_cycles.kp T.bd_l_cycles .nil pass0 (pa_cons (pv 0) pa_nil)) (by intro _; rfl))
      (pss_one (ps_ret pe_bl))
      pss_nil)
    (pss_cons (ps_set (i := 1) sc_l_is_junction.nd rfl (Or.inl rfl) (pe_tupRg rfl rfl T.b_tuple (prg_1 rfl T.b_range (pe_callB (call_lenA (K := K)) (by rfl) T.b_len bo_len (pa_cons (pe_ix (ix_any (K := K)) (pv 0) pe_int (fun _ _ => rfl)) pa_nil)))))
    (pss_cons (ps_if (pt_cmpR (op_neA (K := K) hr.units) (pe_call (ok_l_hanging T) (hr.mono (by decide)) rfl T.g_l_hanging T.F_l_hanging.kp T.bd_l_hanging .nil pass0 (pa_cons (pv 0) (pa_cons pe_int (pa_cons (pv 1) pa_nil)))) (pv 1) (nomark _))
      (pss_one (ps_ret pe_bl))
      pss_nil)
    (pss_cons (ps_for PassesOwn.never rfl (pi_list (pe_call (ok_l_variables T) (hr.mono (by decide)) rfl T.g_l_variables T.F_l_variables.kp T.bd_l_variables .nil pass0 (pa_cons (pv 0) pa_nil))) (pg_name (i := 2) sc_l_is_junction.nd rfl (Or.inl rfl))
      (pss_cons (ps_set (i := 3) sc_l_is_junction.nd rfl (Or.inl rfl) (pe_call (ok_l_having T) (hr.mono (by decide)) rfl T.g_l_having T.F_l_having.kp T.bd_l_having .nil pass0 (pa_cons (pv 0) (pa_cons (pv 2) pa_nil))))
      (pss_one (ps_if (pt_cmpR (op_neA (K := K) hr.units) (pe_call (ok_l_hanging T) (hr.mono (by decide)) rfl T.g_l_hanging T.F_l_hanging.kp T.bd_l_hanging .nil pass0 (pa_cons (pv 0) (pa_cons (pe_ix (ix_any (K := K)) (pv 3) pe_int (fun _ _ => rfl)) (pa_cons (pv 3) pa_nil)))) (pv 3) (nomark _))
        (pss_one (ps_ret pe_bl))
        pss_nil))))
    (pss_one (ps_ret pe_bl)))))), fun g h => ?_⟩
  have h5 := h.n5
  have hn := nds_len (g := g)
  have ec : (truD (.l ((cycs g.es).map scD))) = !(cycs g.es).isEmpty := by
    show (!((cycs g.es).map scD).isEmpty) = _
    cases cycs g.es <;> rfl
  refine q_ifr (b := !(cycs g.es).isEmpty) (EB.is (eb_tru (clCy h (el_cons (ev_var rfl) el_nil)) trivial) ec) (fun hx => ?_) (fun hx => ?_)
  · refine s_ret ev_c ?_
    show B false = B (treeL g)
    unfold treeL
    rw [show (cycs g.es).isEmpty = false by simpa using hx]
    rfl
  have hx : (cycs g.es).isEmpty = true := by simpa using hx
  refine q_asg (ev_tupRg (ev_lenG (g := g) (ev_var rfl)) (by omega)) ?_
  refine q_ifr (b := !decide (lhang g.es 0 (nds g) = nds g)) (eb_test (ev_op (clHL h (by omega) (el_cons (ev_var rfl) (el_cons ev_c (el_cons (ev_var (d := .t (zD (nds g))) rfl) el_nil)))) (ev_var (d := .t (zD (nds g))) rfl) rd_neT)) (fun hy => ?_) (fun hy => ?_)
  · refine s_ret ev_c ?_
    show B false = B (treeL g)
    unfold treeL lconn
    rw [nds_0 h, show decide (lhang g.es 0 (nds g) = nds g) = false by simpa using hy]
    simp
  have hy : decide (lhang g.es 0 (nds g) = nds g) = true := by simpa using hy
  let f : Int → Option D := fun v => if lconn g.es (hav g v) = true then none else some (B false)
  let R0 : Rho := [.d (gD g), .d (.t (zD (nds g))), .un, .un]
  refine es_seq (Ψ := fun o => (o = .nx R0 ∧ (vrs g).findSome? f = none) ∨ ∃ d, o = .rt d ∧ (vrs g).findSome? f = some d) (es_forS (src_list (f := I) (xs := vrs g) (clVL h (el_cons (ev_var rfl) el_nil))) R0 f Wkn.refl (fun v hvv => ?_) (fun e => .inl ⟨rfl, e⟩) (fun d e => .inr ⟨d, rfl, e⟩)) ?_
  · have hpos := hav_pos hvv
    refine q_asg (clHv h (el_cons (ev_var rfl) (el_cons (ev_var rfl) el_nil))) ?_
    refine s_if (b := !decide (lhang g.es ((hav g v).getD 0 0) (hav g v) = hav g v)) (eb_test (ev_op (clHL h (hav_len h v) (el_cons (ev_var rfl) (el_cons (ev_op (ev_var (d := .t (zD (hav g v))) rfl) ev_c (rd_ixT (at_zD (x := 0) (by omega) (by omega)))) (el_cons (ev_var rfl) el_nil)))) (ev_var rfl) rd_neT)) (fun hb => ?_) (fun hb => ?_)
    · refine s_ret ev_c ?_
      show f v = some (B false)
      have e : lconn g.es (hav g v) = false := by unfold lconn; simpa using hb
      show (if lconn g.es (hav g v) = true then none else some (B false)) = some (B false)
      rw [e]
      rfl
    · refine es_next ⟨?_, wS (wS (wU (wU wN)))⟩
      have e : lconn g.es (hav g v) = true := by unfold lconn; simpa using hb
      show (if lconn g.es (hav g v) = true then none else some (B false)) = none
      rw [e]
      rfl
  · have et : treeL g = (vrs g).all fun v => lconn g.es (hav g v) := by
      unfold treeL
      rw [hx, show lconn g.es (nds g) = true by unfold lconn; rw [nds_0 h]; exact hy]
      rfl
    rintro o (⟨rfl, e⟩ | ⟨d, rfl, e⟩)
    · refine s_ret ev_c ?_
      show B true = B (treeL g)
      rw [et]
      have e2 : ((vrs g).all fun v => lconn g.es (hav g v)) = true := List.all_eq_true.mpr fun v hvv => by
        have h1 := List.findSome?_eq_none_iff.mp e v hvv
        cases hc : lconn g.es (hav g v) with
        | true => rfl
        | false =>
          have h2 : (if lconn g.es (hav g v) = true then none else some (B false)) = none := h1
          rw [hc] at h2
          cases h2
      rw [e2]
    · show d = B (treeL g)
      obtain ⟨v, hvv, hfv⟩ := List.exists_of_findSome?_eq_some e
      have hfv : (if lconn g.es (hav g v) = true then none else some (B false)) = some d := hfv
      cases hc : lconn g.es (hav g v) with
      | true => rw [hc] at hfv; cases hfv
      | false =>
        rw [hc] at hfv
        cases hfv
        have e2 : ((vrs g).all fun v => lconn g.es (hav g v)) = false := by
          rw [Bool.eq_false_iff]
          intro h1
          rw [List.all_eq_true.mp h1 v hvv] at hc
          cases hc
        rw [et, e2]
end
end TT

set_option maxRecDepth 100000
set_option maxHeartbeats 4100000
/-! F5: orders -/
namespace TT
open PySem PySem.Spec PyProof.Rows
open L2
open Dl
open Evl (Ex)
theorem cut_take {α : Type} {o : List α} {k : Int} (h : 0 ≤ k) : Dl.cutD o none (some k) = o.take k.toNat := by
  obtain ⟨n, rfl⟩ : ∃ n : Nat, k = n := ⟨k.toNat, by omega⟩
  unfold Dl.cutD
  rw [HT.sIx_none, HT.sIx_nat, List.drop_zero, Nat.sub_zero, Int.toNat_natCast, List.take_eq_take_iff]
  omega
theorem cut_drop {α : Type} {o : List α} {k : Int} (h : 0 ≤ k) : Dl.cutD o (some k) none = o.drop k.toNat := by
  obtain ⟨n, rfl⟩ : ∃ n : Nat, k = n := ⟨k.toNat, by omega⟩
  unfold Dl.cutD
  rw [HT.sIx_none, HT.sIx_nat, Int.toNat_natCast]
  by_cases hn : n ≤ o.length
  · rw [Nat.min_eq_left hn, List.take_of_length_le (by rw [List.length_drop]; omega)]
  · rw [Nat.min_eq_right (by omega), List.drop_eq_nil_of_le (Nat.le_refl _), List.drop_eq_nil_of_le (by omega)]
    simp
theorem zD_take (o : List Int) (n : Nat) : (zD o).take n = zD (o.take n) := by unfold zD; rw [List.map_take]
theorem zD_drop (o : List Int) (n : Nat) : (zD o).drop n = zD (o.drop n) := by unfold zD; rw [List.map_drop]
def VD.ns : VD → List Int
  | .t xs => xs.map toI
  | _ => []
theorem areN_t {n : Int} {v : VD} (h : areN n v = true) : v.d = .t (zD v.ns) ∧ ∀ x ∈ v.ns, 0 ≤ x ∧ x < n := by
  cases v with
  | f x => cases h
  | l xs => cases h
  | t xs =>
    have h : (!xs.isEmpty && xs.all (isN n) && decide ((dkL (xs.map toI)).length = xs.length)) = true := h
    rw [Bool.and_eq_true, Bool.and_eq_true] at h
    obtain ⟨⟨h1, h2⟩, h3⟩ := h
    refine ⟨?_, fun x hx => ?_⟩
    · show D.t (flats xs) = D.t (zD (xs.map toI))
      rw [zD_flats, ← all_ints h2]
    · obtain ⟨y, hy, rfl⟩ := List.mem_map.mp hx
      obtain ⟨i, rfl, g⟩ := isN_int (List.all_eq_true.mp h2 y hy)
      exact g
/-- the program's answer -/
def ordP (g : Gr) (v : VD) : Bool := areN g.sc.length v && decide (v.ns.length = g.sc.length) && (rgL 0 v.ns.length).all fun k => decide (k = 0) || okAt g v.ns k
theorem shr_len {g : Gr} {a b : Int} (h : WF g) (ha : 0 ≤ a ∧ a < g.sc.length) : (shr g a b).length ≤ 3 := by
  have h1 := (h.sc _ (sco_mem ha)).few
  have h2 := List.length_filter_le (fun v => decide (v ∈ sco g b)) (sco g a)
  unfold shr
  omega
/-- a search that finds false, or goes on -/
def noF (b : Bool) : Option D := if b = true then none else some (B false)
theorem noF_all {α : Type} {xs : List α} {p : α → Bool} : (xs.findSome? fun x => noF (p x)) = noF (xs.all p) := by
  induction xs with
  | nil => rfl
  | cons x xs ih =>
    rw [List.findSome?_cons, List.all_cons]
    cases h : p x with
    | true =>
      show (xs.findSome? fun x => noF (p x)) = noF (xs.all p)
      exact ih
    | false => rfl
theorem noF_none {b : Bool} (h : noF b = none) : b = true := by
  cases b with
  | true => rfl
  | false => cases h
theorem noF_some {b : Bool} {d : D} (h : noF b = some d) : b = false ∧ d = B false := by
  cases b with
  | true => cases h
  | false => cases h; exact ⟨rfl, rfl⟩
section
variable {P : Program} {w : World} {K : PySem.W.Frag} {mg : Str → Option Value} {base : Heap} {ρ : Rho} {t : TA} {te tx : TE} {E : XK} {Φ : Oc → Prop} {u : TS}
theorem ev_takeT {o : List Int} {k : Int} (h : EV te ρ (.t (zD o))) (hk : EV tx ρ (I k)) (h0 : 0 ≤ k) : EV (tSl (rSlAny K) te tNoPart (tPart tx)) ρ (.t (zD (o.take k.toNat))) := (ev_sl h eo_none (eo_some hk) sd_T).is (by rw [cut_take h0, zD_take])
theorem ev_dropT {o : List Int} {k : Int} (h : EV te ρ (.t (zD o))) (hk : EV tx ρ (I k)) (h0 : 0 ≤ k) : EV (tSl (rSlAny K) te (tPart tx) tNoPart) ρ (.t (zD (o.drop k.toNat))) := (ev_sl h (eo_some hk) eo_none sd_T).is (by rw [cut_drop h0, zD_drop])
/-! ### the program's orders -/
abbrev spIO : Sp := spP (fun i : Gr × VD => [gD i.1, i.2.d]) (fun i => WF i.1 ∧ i.2.ok) (fun i d => d = B (ordP i.1 i.2))
theorem clIO {g : Gr} {v : VD} (h : WF g) (hv : v.ok) (ha : EL t ρ [gD g, v.d]) : EV (tCall spIO [] E t) ρ (B (ordP g v)) := ev_call (z := fun i : Gr × VD => B (ordP i.1 i.2)) (g, v) ⟨h, hv⟩ ha
theorem getD_mem {o : List Int} {k : Int} (h0 : 0 ≤ k) (h : k < o.length) : o.getD k.toNat 0 ∈ o := by
  rw [List.getD_eq_getElem?_getD, List.getElem?_eq_getElem (show k.toNat < o.length by omega)]
  exact List.getElem_mem _
theorem ok_is_order (T : Txt K mg) : FnOk P w K mg base CX0 3 T.f_is_order T.d_is_order P_is_order spIO := by
  refine okP T.F_is_order sc_is_order (fun _ => rfl) (by decide) fun cdv A' outer s H E hr => ⟨_, (pss_cons (ps_if (PW.pt (pw_or (pt_not (pt_truth (pe_call (ok_are_nodes T) (hr.mono (by decide)) rfl T.g_are_nodes T.F_are_nodes.kp T.bd_are_nodes .nil pass0 (pa_cons (pv 1) (pa_cons (pv 0) pa_nil))) (by intro _; rfl))) (pw_or1 (pt_cmpR (op_neA (K := K) hr.units) (pe_callB (call_lenA (K := K)) (by rfl) T.b_len bo_len (pa_cons (pv 1) pa_nil)) (pe_callB (call_lenA (K := K)) (by rfl) T.b_len bo_len (pa_cons (pe_ix (ix_any (K := K)) (pv 0) pe_int (fun _ _ => rfl)) pa_nil)) (nomark _)))))
      (pss_one (ps_ret pe_bl))
      pss_nil)
    (pss_cons (ps_for PassesOwn.never rfl (pi_enumT (by rfl) T.b_enumerate (pa_cons (pv 1) pa_nil)) (pg_tupA (K := K) (n := 2) rfl (pgs_cons (pg_name (i := 2) sc_is_order.nd rfl (Or.inl rfl)) (pgs_cons (pg_name (i := 3) sc_is_order.nd rfl (Or.inl rfl)) pgs_nil)))
      (pss_cons (ps_set (i := 4) sc_is_order.nd rfl (Or.inr rfl) (pe_slice (sl_any (K := K)) (pv 1) po_none (po_some (pv 2))))
      (pss_cons (ps_set (i := 5) sc_is_order.nd rfl (Or.inr rfl) (pe_lc (own := [("other", 6)]) (by rfl) sc_is_order.nd (pi_tup (pe_call (ok_neighbours T) (hr.mono (by decide)) rfl T.g_neighbours T.F_neighbours.kp T.bd_neighbours .nil pass0 (pa_cons (pv 0) (pa_cons (pv 3) pa_nil)))) (blkOk_by (own := [("other", 6)]) (N := N_is_order) (sc := defScope s_is_order) (by decide +kernel)) (fun _ _ _ _ _ => (pg_name (i := 6) sc_is_order.nd rfl (Or.inl rfl))) (fun _ _ _ _ _ => pts_one (pt_cmpR (op_inA (K := K)) (pv 6) (pv 4) (by rfl))) (fun _ _ _ _ _ => (pv 6))))
      (pss_cons (ps_if (PW.pt (pw_and (pt_cmpR op_gt (pv 2) pe_int (nomark _)) (pw_and1 (pt_cmpR (op_neA (K := K) hr.units) (pe_callB (call_lenA (K := K)) (by rfl) T.b_len bo_len (pa_cons (pv 5) pa_nil)) pe_int (nomark _)))))
        (pss_one (ps_ret pe_bl))
        pss_nil)
      (pss_one (ps_for PassesOwn.never rfl (pi_tup (pv 4)) (pg_name (i := 6) sc_is_order.nd rfl (Or.inl rfl))
        (pss_one (ps_if (pt_not (pt_truth (pe_callB (cr_allA (K := K) rfl) (by rfl) T.b_all bo_all (pa_cons (pe_lc (own := [("variable", 7)]) (by rfl) sc_is_order.nd (pi_tup (pe_call (ok_shared T) (hr.mono (by decide)) rfl T.g_shared T.F_shared.kp T.bd_shared .nil pass0 (pa_cons (pv 0) (pa_cons (pv 3) (pa_cons (pv 6) pa_nil))))) (blkOk_by (own := [("variable", 7)]) (N := N_is_order) (sc := defScope s_is_order) (by decide +kernel)) (fun _ _ _ _ _ => (pg_name (i := 7) sc_is_order.nd rfl (Or.inl rfl))) (fun _ _ _ _ _ => pts_nil) (fun _ _ _ _ _ => (pe_cmpR (op_inA (K := K)) (pv 7) (pe_ix (ix_any (K := K)) (pe_ix (ix_any (K := K)) (pv 0) pe_int (fun _ _ => rfl)) (pe_ix (ix_any (K := K)) (pv 5) pe_int (fun _ _ => rfl)) (fun _ _ => rfl)) (by rfl)))) pa_nil)) (by intro _; rfl)))
          (pss_one (ps_ret pe_bl))
          pss_nil))))))))
    (pss_one (ps_ret pe_bl)))), fun ⟨g, v⟩ ⟨h, hv⟩ => ?_⟩
  have h : WF g := h
  have hv : v.ok := hv
  have hf := h.few
  have h5 := h.n5
  let ρ0 : Rho := [.d (gD g), .d v.d, .un, .un, .un, .un, .un, .un]
  show ES _ ρ0 (Got fun d => d = B (ordP g v))
  have eA : EB (tNot (fun σ H Q => (tCall spAN [] E (tCons (tVar 1) (tCons (tVar 0) tNil))) σ H fun x H' => ∃ k, TruV K x H' k ∧ Q k H')) ρ0 (!areN g.sc.length v) := eb_not (tru1 (clAN hv h (el_cons (ev_var rfl) (el_cons (ev_var rfl) el_nil))))
  cases hA : areN g.sc.length v with
  | false =>
    rw [hA] at eA
    refine q_yes (or1 eA) (q_ret (s_ret (EV.is ev_c ?_) rfl))
    unfold ordP
    rw [hA]
    rfl
  | true =>
    rw [hA] at eA
    obtain ⟨ed, hr⟩ := areN_t hA
    have eo : ordP g v = (decide (v.ns.length = g.sc.length) && (rgL 0 v.ns.length).all fun k => decide (k = 0) || okAt g v.ns k) := by
      unfold ordP
      rw [hA]
      rfl
    have hρ0 : ρ0 = [.d (gD g), .d (.t (zD v.ns)), .un, .un, .un, .un, .un, .un] := by rw [← ed]
    rw [eo]
    clear eo
    generalize v.ns = o at *
    rw [hρ0] at eA ⊢
    refine q_ifr (b := !decide (o.length = g.sc.length)) (EB.is (or0 eA (eb_test (ev_op (ev_cb1 (ev_var (d := .t (zD o)) rfl) cd_lenT) (ev_lenG (g := g) (ev_var rfl)) rd_neI))) ?_) (fun hb => ?_) (fun hb => ?_)
    · rw [zD_len]
      congr 1
      exact decide_eq_decide.mpr (by omega)
    · refine s_ret (EV.is ev_c ?_) rfl
      rw [show decide (o.length = g.sc.length) = false by simpa using hb]
      rfl
    have hol : o.length = g.sc.length := by simpa using hb
    rw [decide_eq_true hol, Bool.true_and]
    let ρ1 : Rho := [.d (gD g), .d (.t (zD o)), .un, .un, .un, .un, .un, .un]
    refine es_seq (Ψ := fun oc => (oc = .nx ρ1 ∧ ((rgL 0 o.length).findSome? fun k => noF (decide (k = 0) || okAt g o k)) = none) ∨ ∃ d, oc = .rt d ∧ ((rgL 0 o.length).findSome? fun k => noF (decide (k = 0) || okAt g o k)) = some d) (es_forS (src_enum (f := I) (d0 := 0) (xs := o) (ev_var rfl)) ρ1 (fun k => noF (decide (k = 0) || okAt g o k)) Wkn.refl (fun k hk => ?_) (fun e => .inl ⟨rfl, e⟩) (fun d e => .inr ⟨d, rfl, e⟩)) ?_
    · obtain ⟨k0, k1⟩ := mem_rgL.mp hk
      have hx := hr _ (getD_mem k0 k1)
      have htl : (o.take k.toNat).length ≤ 5 := by rw [List.length_take]; omega
      have hnb := nbrs_len (x := o.getD k.toNat 0) hf
      let ρ2 : Rho := [.d (gD g), .d (.t (zD o)), .d (I k), .d (I (o.getD k.toNat 0)), .un, .un, .un, .un]
      show ES _ ρ2 _
      refine q_asg (ev_takeT (o := o) (k := k) (ev_var rfl) (ev_var rfl) k0) ?_
      refine q_asg (d := .l (zD (nearB g.es o k))) (ev_lc (src_tup (f := I) (xs := nbrs g.es (o.getD k.toNat 0)) (clNb h (el_cons (ev_var rfl) (el_cons (ev_var rfl) el_nil)))) (fun x => decide (x ∈ o.take k.toNat)) I (fun x hx => eb_test (ev_op (ev_var rfl) (ev_var (d := .t (zD (o.take k.toNat))) rfl) rd_inT)) (fun x hx _ => ev_var rfl) (by omega)) ?_
      let ρ3 : Rho := [.d (gD g), .d (.t (zD o)), .d (I k), .d (I (o.getD k.toNat 0)), .d (.t (zD (o.take k.toNat))), .d (.l (zD (nearB g.es o k))), .un, .un]
      show ES _ ρ3 _
      refine q_ifr (b := decide (0 < k) && !decide (((nearB g.es o k).length : Int) = 1)) (eb_and (eb_test (ev_op (ev_var (d := I k) rfl) ev_c rd_0)) fun _ => eb_test (EV.is (ev_op (ev_cb1 (ev_var (d := .l (zD (nearB g.es o k))) rfl) cd_lenL) ev_c rd_neI) (by rw [zD_len]))) (fun hb => ?_) (fun hb => ?_)
      · rw [Bool.and_eq_true] at hb
        have hb1 := of_decide_eq_true hb.1
        refine s_ret ev_c ?_
        show noF (decide (k = 0) || okAt g o k) = some (B false)
        rw [decide_eq_false (show ¬ k = 0 by omega)]
        unfold okAt
        rw [show decide (((nearB g.es o k).length : Int) = 1) = false by simpa using hb.2]
        rfl
      · have e1 : decide (k = 0) = true ∨ (0 < k ∧ decide (((nearB g.es o k).length : Int) = 1) = true) := by
          by_cases hk0 : k = 0
          · exact .inl (decide_eq_true hk0)
          · rw [decide_eq_true (show 0 < k by omega), Bool.true_and] at hb
            exact .inr ⟨by omega, by simpa using hb⟩
        -- the inner loop
        let q : Int → Bool := fun x => (shr g (o.getD k.toNat 0) x).all fun v => decide (v ∈ sco g ((nearB g.es o k).getD 0 0))
        have e2 : (decide (k = 0) || okAt g o k) = (o.take k.toNat).all q := by
          rcases e1 with e | ⟨e, e3⟩
          · rw [e, of_decide_eq_true e]
            rfl
          · rw [decide_eq_false (show ¬ k = 0 by omega), Bool.false_or]
            unfold okAt
            rw [e3, Bool.true_and]
        rw [e2]
        refine es_forS (src_tup (f := I) (xs := o.take k.toNat) (ev_var rfl)) ρ3 (fun x => noF (q x)) Wkn.refl (fun x hxm => ?_) (fun e => ?_) (fun d e => ?_)
        · have hxr := hr _ (List.mem_of_mem_take hxm)
          have hk0 : ¬ k = 0 := fun e => by rw [e] at hxm; cases hxm
          have hn1 : (nearB g.es o k).length = 1 := by
            rcases e1 with e | ⟨_, e⟩
            · exact absurd (of_decide_eq_true e) hk0
            · have := of_decide_eq_true e; omega
          have hnr : 0 ≤ (nearB g.es o k).getD 0 0 ∧ (nearB g.es o k).getD 0 0 < g.sc.length := by
            have hm : (nearB g.es o k).getD (0 : Int).toNat 0 ∈ nearB g.es o k := getD_mem (Int.le_refl 0) (by omega)
            have hm2 : (nearB g.es o k).getD 0 0 ∈ o.take k.toNat := of_decide_eq_true (List.mem_filter.mp hm).2
            exact hr _ (List.mem_of_mem_take hm2)
          have hsl := shr_len (b := x) h hx
          refine s_if (b := !(q x)) (eb_not (tru1 (ev_all (f := fun v => decide (v ∈ sco g ((nearB g.es o k).getD 0 0))) (ev_lc0 (src_tup (f := I) (xs := shr g (o.getD k.toNat 0) x) (clSh ⟨h, hx, hxr⟩ (el_cons (ev_var rfl) (el_cons (ev_var rfl) (el_cons (ev_var rfl) el_nil))))) (fun v => B (decide (v ∈ sco g ((nearB g.es o k).getD 0 0)))) (fun v hvv => ev_op (ev_var rfl) (ev_g12 (g := g) (ev_var rfl) (ev_op (ev_var (d := .l (zD (nearB g.es o k))) rfl) ev_c (rd_ixL (at_zD (x := 0) (by omega) (by omega)))) hnr) rd_inT) (by omega))))) (fun hc => ?_) (fun hc => ?_)
          · refine s_ret ev_c ?_
            show noF (q x) = some (B false)
            rw [show q x = false by simpa using hc]
            rfl
          · refine es_next ⟨?_, ?_⟩
            · show noF (q x) = none
              rw [show q x = true by simpa using hc]
              rfl
            · exact wS (wS (wS (wS (wS (wS (wU (wS wN)))))))
        · have e := noF_none ((noF_all (p := q)).symm.trans e)
          refine ⟨?_, ?_⟩
          · rw [e]; rfl
          · exact wS (wS (wU (wU (wU (wU (wS (wS wN)))))))
        · obtain ⟨h1, h2⟩ := noF_some ((noF_all (p := q)).symm.trans e)
          show noF ((o.take k.toNat).all q) = some d
          rw [h1, h2]
          rfl
    · rintro oc (⟨rfl, e⟩ | ⟨d, rfl, e⟩)
      · have e := noF_none (noF_all.symm.trans e)
        exact s_ret (EV.is ev_c (by rw [e])) rfl
      · obtain ⟨h1, h2⟩ := noF_some (noF_all.symm.trans e)
        show d = B _
        rw [h1, h2]
theorem ok_accepts_order (T : Txt K mg) : FnOk P w K mg base CX0 6 T.f_accepts_order T.d_accepts_order P_accepts_order spIO := by
  refine okP T.F_accepts_order sc_accepts_order (fun _ => rfl) (by decide) fun cdv A' outer s H E hr => ⟨_, (pss_cons (ps_expr (pe_call (ok_check_graph T) (hr.mono (by decide)) rfl T.g_check_graph T.F_check_graph.kp T.bd_check_graph .nil pass0 (pa_cons (pv 0) pa_nil)))
    (pss_one (ps_ret (pe_call (ok_is_order T) (hr.mono (by decide)) rfl T.g_is_order T.F_is_order.kp T.bd_is_order .nil pass0 (pa_cons (pv 0) (pa_cons (pv 1) pa_nil)))))), fun ⟨g, v⟩ ⟨h, hv⟩ => ?_⟩
  refine q_drop (clG1 (z := .v .non) h (el_cons (ev_var rfl) el_nil)) ?_
  exact s_ret (clIO h hv (el_cons (ev_var rfl) (el_cons (ev_var rfl) el_nil))) rfl
/-! ### the law's orders -/
abbrev spOL : Sp := spP (fun i : Gr × List Int => [gD i.1, .t (zD i.2)]) (fun i => WF i.1) (fun i d => d = B (ordL i.1 i.2))
theorem clOL {g : Gr} {o : List Int} (h : WF g) (ha : EL t ρ [gD g, .t (zD o)]) : EV (tCall spOL [] E t) ρ (B (ordL g o)) := ev_call (z := fun i : Gr × List Int => B (ordL i.1 i.2)) (g, o) h ha
theorem ok_l_is_order (T : Txt K mg) : FnOk P w K mg base CX0 2 T.f_l_is_order T.d_l_is_order P_l_is_order spOL := by
  refine okP T.F_l_is_order sc_l_is_order (fun _ => rfl) (by decide) fun cdv A' outer s H E hr => ⟨_, (pss_cons (ps_if (pt_cmpR (op_neA (K := K) hr.units) (pe_callB (cr_sortA (K := K) (w := w) rfl) (by rfl) T.b_sorted bo_sorted (pa_cons (pv 1) pa_nil)) (pe_listRg rfl rfl T.b_list (prg_1 rfl T.b_range (pe_callB (call_lenA (K := K)) (by rfl) T.b_len bo_len (pa_cons (pe_ix (ix_any (K := K)) (pv 0) pe_int (fun _ _ => rfl)) pa_nil)))) (nomark _))
      (pss_one (ps_ret pe_bl))
      pss_nil)
    (pss_cons (ps_for PassesOwn.never rfl (pi_range2 (by rfl) T.b_range (pa_cons pe_int (pa_cons (pe_callB (call_lenA (K := K)) (by rfl) T.b_len bo_len (pa_cons (pv 1) pa_nil)) pa_nil))) (pg_name (i := 2) sc_l_is_order.nd rfl (Or.inr rfl))
      (pss_cons (ps_set (i := 3) sc_l_is_order.nd rfl (Or.inr rfl) (pe_lc (own := [("_law_node", 4)]) (by rfl) sc_l_is_order.nd (pi_list (pe_call (ok_l_near T) (hr.mono (by decide)) rfl T.g_l_near T.F_l_near.kp T.bd_l_near .nil pass0 (pa_cons (pv 0) (pa_cons (pe_ix (ix_any (K := K)) (pv 1) (pv 2) (fun _ _ => rfl)) pa_nil)))) (blkOk_by (own := [("_law_node", 4)]) (N := N_l_is_order) (sc := defScope s_l_is_order) (by decide +kernel)) (fun _ _ _ _ _ => (pg_name (i := 4) sc_l_is_order.nd rfl (Or.inl rfl))) (fun _ _ _ _ _ => pts_one (pt_cmpR (op_inA (K := K)) (pv 4) (pe_slice (sl_any (K := K)) (pv 1) po_none (po_some (pv 2))) (by rfl))) (fun _ _ _ _ _ => (pv 4))))
      (pss_cons (ps_if (pt_cmpR (op_neA (K := K) hr.units) (pe_callB (call_lenA (K := K)) (by rfl) T.b_len bo_len (pa_cons (pv 3) pa_nil)) pe_int (nomark _))
        (pss_one (ps_ret pe_bl))
        pss_nil)
      (pss_one (ps_for PassesOwn.never rfl (pi_tup (pe_slice (sl_any (K := K)) (pv 1) po_none (po_some (pv 2)))) (pg_name (i := 4) sc_l_is_order.nd rfl (Or.inl rfl))
        (pss_one (ps_if (pt_not (pt_truth (pe_callB (cr_allA (K := K) rfl) (by rfl) T.b_all bo_all (pa_cons (pe_lc (own := [("_law_variable", 5)]) (by rfl) sc_l_is_order.nd (pi_tup (pe_call (ok_l_shared T) (hr.mono (by decide)) rfl T.g_l_shared T.F_l_shared.kp T.bd_l_shared .nil pass0 (pa_cons (pv 0) (pa_cons (pe_ix (ix_any (K := K)) (pv 1) (pv 2) (fun _ _ => rfl)) (pa_cons (pv 4) pa_nil))))) (blkOk_by (own := [("_law_variable", 5)]) (N := N_l_is_order) (sc := defScope s_l_is_order) (by decide +kernel)) (fun _ _ _ _ _ => (pg_name (i := 5) sc_l_is_order.nd rfl (Or.inl rfl))) (fun _ _ _ _ _ => pts_nil) (fun _ _ _ _ _ => (pe_cmpR (op_inA (K := K)) (pv 5) (pe_ix (ix_any (K := K)) (pe_ix (ix_any (K := K)) (pv 0) pe_int (fun _ _ => rfl)) (pe_ix (ix_any (K := K)) (pv 3) pe_int (fun _ _ => rfl)) (fun _ _ => rfl)) (by rfl)))) pa_nil)) (by intro _; rfl)))
          (pss_one (ps_ret pe_bl))
          pss_nil)))))))
    (pss_one (ps_ret pe_bl)))), fun ⟨g, o⟩ h => ?_⟩
  have h : WF g := h
  have hf := h.few
  have h5 := h.n5
  let ρ1 : Rho := [.d (gD g), .d (.t (zD o)), .un, .un, .un, .un]
  show ES _ ρ1 (Got fun d => d = B (ordL g o))
  refine q_ifr (b := !decide (srt o = nds g)) (eb_test (ev_op (ev_cb1 (ev_var (d := .t (zD o)) rfl) cd_sortT) (ev_lstRg (ev_lenG (g := g) (ev_var rfl)) (by omega)) rd_neL)) (fun hb => ?_) (fun hb => ?_)
  · refine s_ret (EV.is ev_c ?_) rfl
    unfold ordL
    rw [show decide (srt o = nds g) = false by simpa using hb]
    rfl
  have hs : srt o = nds g := by simpa using hb
  have hol : o.length = g.sc.length := by rw [← srt_len, hs, nds_len]
  have hr : ∀ x ∈ o, 0 ≤ x ∧ x < g.sc.length := fun x hx => nds_mem.mp (by rw [← hs]; exact (srt_perm o).mem_iff.mpr hx)
  have eo : ordL g o = (rgL 1 o.length).all fun k => okAt g o k := by
    unfold ordL
    rw [decide_eq_true hs, Bool.true_and]
  rw [eo]
  refine es_seq (Ψ := fun oc => (oc = .nx ρ1 ∧ ((rgL 1 o.length).findSome? fun k => noF (okAt g o k)) = none) ∨ ∃ d, oc = .rt d ∧ ((rgL 1 o.length).findSome? fun k => noF (okAt g o k)) = some d) (es_forS (src_rng2 (lo := 1) (n := o.length) (el_cons ev_c (el_cons (EV.is (ev_cb1 (ev_var (d := .t (zD o)) rfl) cd_lenT) (by rw [zD_len])) el_nil)) (by omega)) ρ1 (fun k => noF (okAt g o k)) Wkn.refl (fun k hk => ?_) (fun e => .inl ⟨rfl, e⟩) (fun d e => .inr ⟨d, rfl, e⟩)) ?_
  · obtain ⟨k1, k2⟩ := mem_rgL.mp hk
    have k0 : 0 ≤ k := by omega
    have hx := hr _ (getD_mem k0 k2)
    have htl : (o.take k.toNat).length ≤ 5 := by rw [List.length_take]; omega
    have hnb := nbrs_len (x := o.getD k.toNat 0) hf
    let ρ2 : Rho := [.d (gD g), .d (.t (zD o)), .d (I k), .un, .un, .un]
    show ES _ ρ2 _
    have eok : ∀ {ρ : Rho}, ρ[1]? = some (.d (.t (zD o))) → ρ[2]? = some (.d (I k)) → EV (tOp (rIx K) (tVar 1) (tVar 2)) ρ (I (o.getD k.toNat 0)) := fun g1 g2 => ev_op (ev_var g1) (ev_var g2) (rd_ixT (at_zD k0 k2))
    refine q_asg (d := .l (zD (nearB g.es o k))) (ev_lc (src_list (f := I) (xs := nbrs g.es (o.getD k.toNat 0)) (clNbL h (el_cons (ev_var rfl) (el_cons (eok rfl rfl) el_nil)))) (fun x => decide (x ∈ o.take k.toNat)) I (fun x hx => eb_test (ev_op (ev_var rfl) (ev_takeT (o := o) (k := k) (ev_var rfl) (ev_var rfl) k0) rd_inT)) (fun x hx _ => ev_var rfl) (by omega)) ?_
    let ρ3 : Rho := [.d (gD g), .d (.t (zD o)), .d (I k), .d (.l (zD (nearB g.es o k))), .un, .un]
    show ES _ ρ3 _
    refine q_ifr (b := !decide (((nearB g.es o k).length : Int) = 1)) (eb_test (EV.is (ev_op (ev_cb1 (ev_var (d := .l (zD (nearB g.es o k))) rfl) cd_lenL) ev_c rd_neI) (by rw [zD_len]))) (fun hb => ?_) (fun hb => ?_)
    · refine s_ret ev_c ?_
      show noF (okAt g o k) = some (B false)
      unfold okAt
      rw [show decide (((nearB g.es o k).length : Int) = 1) = false by simpa using hb]
      rfl
    · have e3 : decide (((nearB g.es o k).length : Int) = 1) = true := by simpa using hb
      let q : Int → Bool := fun x => (shr g (o.getD k.toNat 0) x).all fun v => decide (v ∈ sco g ((nearB g.es o k).getD 0 0))
      have e2 : okAt g o k = (o.take k.toNat).all q := by
        unfold okAt
        rw [e3, Bool.true_and]
      rw [e2]
      have hn1 : (nearB g.es o k).length = 1 := by
        have := of_decide_eq_true e3
        omega
      have hnr : 0 ≤ (nearB g.es o k).getD 0 0 ∧ (nearB g.es o k).getD 0 0 < g.sc.length := by
        have hm : (nearB g.es o k).getD (0 : Int).toNat 0 ∈ nearB g.es o k := getD_mem (Int.le_refl 0) (by omega)
        have hm2 : (nearB g.es o k).getD 0 0 ∈ o.take k.toNat := of_decide_eq_true (List.mem_filter.mp hm).2
        exact hr _ (List.mem_of_mem_take hm2)
      refine es_forS (src_tup (f := I) (xs := o.take k.toNat) (ev_takeT (o := o) (k := k) (ev_var rfl) (ev_var rfl) k0)) ρ3 (fun x => noF (q x)) Wkn.refl (fun x hxm => ?_) (fun e => ?_) (fun d e => ?_)
      · have hxr := hr _ (List.mem_of_mem_take hxm)
        have hsl := shr_len (b := x) h hx
        refine s_if (b := !(q x)) (eb_not (tru1 (ev_all (f := fun v => decide (v ∈ sco g ((nearB g.es o k).getD 0 0))) (ev_lc0 (src_tup (f := I) (xs := shr g (o.getD k.toNat 0) x) (clSh ⟨h, hx, hxr⟩ (el_cons (ev_var rfl) (el_cons (eok rfl rfl) (el_cons (ev_var rfl) el_nil))))) (fun v => B (decide (v ∈ sco g ((nearB g.es o k).getD 0 0)))) (fun v hvv => ev_op (ev_var rfl) (ev_g12 (g := g) (ev_var rfl) (ev_op (ev_var (d := .l (zD (nearB g.es o k))) rfl) ev_c (rd_ixL (at_zD (x := 0) (by omega) (by omega)))) hnr) rd_inT) (by omega))))) (fun hc => ?_) (fun hc => ?_)
        · refine s_ret ev_c ?_
          show noF (q x) = some (B false)
          rw [show q x = false by simpa using hc]
          rfl
        · refine es_next ⟨?_, ?_⟩
          · show noF (q x) = none
            rw [show q x = true by simpa using hc]
            rfl
          · exact wS (wS (wS (wS (wU (wS wN)))))
      · have e := noF_none ((noF_all (p := q)).symm.trans e)
        refine ⟨?_, ?_⟩
        · rw [e]; rfl
        · exact wS (wS (wU (wU (wS (wS wN)))))
      · obtain ⟨h1, h2⟩ := noF_some ((noF_all (p := q)).symm.trans e)
        show noF ((o.take k.toNat).all q) = some d
        rw [h1, h2]
        rfl
  · rintro oc (⟨rfl, e⟩ | ⟨d, rfl, e⟩)
    · have e := noF_none (noF_all.symm.trans e)
      exact s_ret (EV.is ev_c (by rw [e])) rfl
    · obtain ⟨h1, h2⟩ := noF_some (noF_all.symm.trans e)
      show d = B _
      rw [h1, h2]
/-! ### all orders -/
theorem fold_map1 {α β : Type} (e : α → β) (xs : List α) : ∀ l : List β, xs.foldl (fun l p => l ++ [e p]) l = l ++ xs.map e := by
  induction xs with
  | nil => intro l; simp
  | cons x xs ih => intro l; rw [List.foldl_cons, ih, List.map_cons, List.append_assoc]; rfl
theorem fold_flat1 {α β : Type} (e : α → List β) (xs : List α) : ∀ l : List β, xs.foldl (fun l p => l ++ e p) l = l ++ xs.flatMap e := by
  induction xs with
  | nil => intro l; simp
  | cons x xs ih => intro l; rw [List.foldl_cons, ih, List.flatMap_cons, List.append_assoc]
def insO (x : Int) (o : List Int) (p : Int) : List Int := o.take p.toNat ++ [x] ++ o.drop p.toNat
def insA (x : Int) (o : List Int) : List (List Int) := (rgL 0 (o.length + 1)).map (insO x o)
theorem ordsS_eq (fd : List (List Int)) (x : Int) : ordsS fd x = fd.flatMap (insA x) := rfl
theorem insA_len (x : Int) (o : List Int) : (insA x o).length = o.length + 1 := by unfold insA; rw [List.length_map, rgL_len]; omega
theorem flatA_len {x : Int} {fd : List (List Int)} {m : Nat} (h : ∀ o ∈ fd, o.length ≤ m) : (fd.flatMap (insA x)).length ≤ fd.length * (m + 1) := by
  induction fd with
  | nil => simp
  | cons o fd ih =>
    have h1 := h o (List.mem_cons_self ..)
    have h2 := ih fun s hs => h s (List.mem_cons_of_mem _ hs)
    rw [List.flatMap_cons, List.length_append, insA_len, List.length_cons, Nat.succ_mul]
    omega
theorem ords_bd (xs : List Int) : (∀ o ∈ xs.foldl ordsS [[]], o.length ≤ xs.length) ∧ (xs.length ≤ 5 → (xs.foldl ordsS [[]]).length ≤ 6 ^ xs.length) := by
  obtain ⟨ys, rfl⟩ : ∃ ys : List Int, xs = ys.reverse := ⟨xs.reverse, (List.reverse_reverse xs).symm⟩
  induction ys with
  | nil => exact ⟨fun o ho => by simpa using ho, fun _ => by simp⟩
  | cons y ys ih =>
    obtain ⟨h1, h2⟩ := ih
    rw [List.reverse_cons, List.foldl_append, List.length_append]
    show (∀ o ∈ ordsS (ys.reverse.foldl ordsS [[]]) y, _) ∧ (_ → (ordsS (ys.reverse.foldl ordsS [[]]) y).length ≤ _)
    rw [ordsS_eq]
    generalize ys.reverse.foldl ordsS [[]] = fd at *
    generalize ys.reverse.length = m at *
    refine ⟨fun o ho => ?_, fun hl => ?_⟩
    · obtain ⟨o2, hm, hi⟩ := List.mem_flatMap.mp ho
      obtain ⟨p, _, rfl⟩ := List.mem_map.mp hi
      have := h1 o2 hm
      unfold insO
      simp only [List.length_append, List.length_take, List.length_drop, List.length_singleton]
      omega
    · have hm : m + 1 ≤ 5 := hl
      have g1 := flatA_len (x := y) h1
      have g2 := h2 (by omega)
      have g3 : fd.length * (m + 1) ≤ 6 ^ m * 6 := Nat.mul_le_mul g2 (by omega)
      exact Nat.le_trans g1 (by rw [show m + [y].length = m + 1 from rfl, Nat.pow_succ]; exact g3)
abbrev spOr : Sp := spP (fun n : Int => [I n]) (fun n => 0 ≤ n ∧ n ≤ 4) (fun n d => d = .l ((ords n).map scD))
theorem clOr {n : Int} (h : 0 ≤ n ∧ n ≤ 4) (ha : EL t ρ [I n]) : EV (tCall spOr [] E t) ρ (.l ((ords n).map scD)) := ev_call (z := fun n : Int => .l ((ords n).map scD)) n h ha
theorem ok_l_orders (T : Txt K mg) : FnOk P w K mg base CX0 1 T.f_l_orders T.d_l_orders P_l_orders spOr := by
  refine okP T.F_l_orders sc_l_orders (fun _ => rfl) (by decide) fun cdv A' outer s H E hr => ⟨_, (pss_cons (ps_set (i := 1) sc_l_orders.nd rfl (Or.inl rfl) (pe_lst (pa_cons (pe_tup pa_nil) pa_nil)))
    (pss_cons (ps_for PassesOwn.never rfl (pi_range1 (by rfl) T.b_range (pa_cons (pv 0) pa_nil)) (pg_name (i := 2) sc_l_orders.nd rfl (Or.inl rfl))
      (pss_cons (ps_set (i := 3) sc_l_orders.nd rfl (Or.inl rfl) (pe_lst pa_nil))
      (pss_cons (ps_for PassesOwn.never rfl (pi_list (pv 1)) (pg_name (i := 4) sc_l_orders.nd rfl (Or.inl rfl))
        (pss_one (ps_for PassesOwn.never rfl (pi_range1 (by rfl) T.b_range (pa_cons (pe_op (op_addA (K := K)) (pe_callB (call_lenA (K := K)) (by rfl) T.b_len bo_len (pa_cons (pv 4) pa_nil)) pe_int) pa_nil)) (pg_name (i := 5) sc_l_orders.nd rfl (Or.inl rfl))
          (pss_one (ps_expr (pe_bm PySem.F.plainAttrs_list PySem.F.slot_list_append PySem.F.type_list_append mt_append (pv 3) (pa_cons (pe_op (op_addA (K := K)) (pe_op (op_addA (K := K)) (pe_slice (sl_any (K := K)) (pv 4) po_none (po_some (pv 5))) (pe_tup (pa_cons (pv 2) pa_nil))) (pe_slice (sl_any (K := K)) (pv 4) (po_some (pv 5)) po_none)) pa_nil)))))))
      (pss_one (ps_set (i := 1) sc_l_orders.nd rfl (Or.inl rfl) (pv 3))))))
    (pss_one (ps_ret (pv 1))))), fun n hn => ?_⟩
  have hn : 0 ≤ n ∧ n ≤ 4 := hn
  refine q_asg (d := .l ([[]].map scD)) (ev_lst (el_cons (ev_tup el_nil (by show 0 ≤ 100000; decide)) el_nil) (by show 1 ≤ 100000; decide)) ?_
  let R : List (List Int) → Rho := fun fd => [.d (I n), .d (.l (fd.map scD)), .un, .un, .un, .un]
  refine es_seq (Ψ := fun o => o = .nx (R (ords n))) (es_forF (src_rng1 (n := n) (el_cons (ev_var rfl) el_nil) (by omega)) R ordsS [[]] Wkn.refl (fun i x hx => ?_) rfl) ?_
  · obtain ⟨h1, h2⟩ := ords_bd ((rgL 0 n).take i)
    have hl : ((rgL 0 n).take i).length ≤ 4 := by rw [List.length_take, rgL_len]; omega
    have h3 := h2 (by omega)
    generalize ((rgL 0 n).take i).foldl ordsS [[]] = fd at *
    generalize ((rgL 0 n).take i).length = m at *
    have h4 : (6 : Nat) ^ m ≤ 6 ^ 4 := Nat.pow_le_pow_right (by decide) hl
    have h5 : fd.length ≤ 1296 := Nat.le_trans h3 h4
    refine q_own (A := fun ds => ds = []) (ef_lst el_nil fun ds e => by rw [e]; show 0 ≤ 100000; decide) fun ds e => ?_
    subst e
    let R2 : List (List Int) → Rho := fun lo => [.d (I n), .d (.l (fd.map scD)), .d (I x), .o (.ls (lo.map scD)), .un, .un]
    refine es_seq (Ψ := fun o => o = .nx (R2 (ordsS fd x))) (es_forF (src_list (f := scD) (xs := fd) (ev_var rfl)) R2 (fun l o => l ++ insA x o) [] Wkn.refl (fun j o ho => ?_) ?_) ?_
    · have hom := h1 o (List.mem_of_getElem? ho)
      rw [fold_flat1, List.nil_append]
      have hb := flatA_len (x := x) (fd := fd.take j) (m := m) fun s hs => h1 s (List.mem_of_mem_take hs)
      have hb2 : (fd.take j).length * (m + 1) ≤ 1296 * 5 := Nat.mul_le_mul (by rw [List.length_take]; omega) (by omega)
      generalize (fd.take j).flatMap (insA x) = l at hb
      let R3 : List (List Int) → Rho := fun lo => [.d (I n), .d (.l (fd.map scD)), .d (I x), .o (.ls (lo.map scD)), .d (scD o), .un]
      have hol := zD_len o
      refine es_forF (src_rng1 (n := ((o.length : Nat) : Int) + 1) (el_cons (ev_op (EV.is (ev_cb1 (ev_var (d := scD o) rfl) cd_lenT) (by rw [hol])) ev_c rd_addI) el_nil) (by omega)) R3 (fun l p => l ++ [insO x o p]) l Wkn.refl (fun k p hp => ?_) ?_
      · obtain ⟨p0, p1⟩ := mem_rgL.mp (List.mem_of_getElem? hp)
        rw [fold_map1]
        have hkl : ((rgL 0 ((o.length : Int) + 1)).take k).length ≤ 5 := by rw [List.length_take, rgL_len]; omega
        have hll : (l ++ ((rgL 0 ((o.length : Int) + 1)).take k).map (insO x o)).length ≤ 7000 := by rw [List.length_append, List.length_map]; omega
        generalize l ++ ((rgL 0 ((o.length : Int) + 1)).take k).map (insO x o) = l2 at hll
        have htl : (o.take p.toNat).length ≤ 5 := by rw [List.length_take]; omega
        have hdl : (o.drop p.toNat).length ≤ 5 := by rw [List.length_drop]; omega
        refine es_app (P := fun d => d = scD (insO x o p)) (ds := l2.map scD) rfl (EV.is (ev_op (ev_op (ev_takeT (o := o) (k := p) (ev_var rfl) (ev_var rfl) p0) (ev_tup (el_cons (ev_var (d := I x) rfl) el_nil) (by show 1 ≤ 100000; decide)) (rd_addT (by rw [zD_len]; show _ + 1 ≤ _; omega))) (ev_dropT (o := o) (k := p) (ev_var rfl) (ev_var rfl) p0) (rd_addT (by rw [zD_len, List.length_append, zD_len]; show _ + 1 + _ ≤ _; omega))) (by rw [zD_1, zD_app]; rfl)) (by rw [List.length_map]; omega) fun d hd => ?_
        subst hd
        show Wkn _ (R3 (l2 ++ [insO x o p]))
        have e : (l2 ++ [insO x o p]).map scD = l2.map scD ++ [scD (insO x o p)] := by rw [List.map_append]; rfl
        show Wkn _ [.d (I n), .d (.l (fd.map scD)), .d (I x), .o (.ls ((l2 ++ [insO x o p]).map scD)), .d (scD o), .un]
        rw [e]
        exact wS (wS (wS (wS (wS (wU wN)))))
      · rw [fold_map1]
        exact wS (wS (wS (wS (wU (wS wN)))))
    · rw [fold_flat1, List.nil_append]
      rfl
    · rintro o rfl
      refine es_freeze (i := 3) rfl ?_
      refine es_asg (P := fun d => d = .l ((ordsS fd x).map scD)) (ev_var rfl) fun d hd => ?_
      subst hd
      exact wS (wS (wU (wU (wS (wS wN)))))
  · rintro o rfl
    exact s_ret (ev_var rfl) rfl
/-! ### equal truths -/
abbrev spEq : Sp := spP (fun i : Bool × Bool => [B i.1, B i.2]) (fun _ => True) (fun i d => d = B (decide (i.1 = i.2)))
theorem clEq {a b : Bool} (ha : EL t ρ [B a, B b]) : EV (tCall spEq [] E t) ρ (B (decide (a = b))) := ev_call (z := fun i : Bool × Bool => B (decide (i.1 = i.2))) (a, b) trivial ha
theorem ok_l_equal (T : Txt K mg) : FnOk P w K mg base CX0 2 T.f_l_equal T.d_l_equal P_l_equal spEq := by
  refine okP T.F_l_equal sc_l_equal (fun _ => rfl) (by decide) fun cdv A' outer s H E hr => ⟨_, (pss_cons (ps_if (pt_cmpR op_isN (pv 1) pe_non (nomark _))
      (pss_one ps_never)
      pss_nil)
    (pss_cons (ps_if (pt_truth (pe_callB (call_isiA (K := K)) (by rfl) T.b_isinstance bo_isinstance (pa_cons (pv 1) (pa_cons (pe_bltn (v := .ty "bool") (by rfl) T.b_bool bo_bool rfl) pa_nil))) (by intro _; rfl))
      (pss_one (ps_ret (pe_and (pe_callB (call_isiA (K := K)) (by rfl) T.b_isinstance bo_isinstance (pa_cons (pv 0) (pa_cons (pe_bltn (v := .ty "bool") (by rfl) T.b_bool bo_bool rfl) pa_nil))) (pe_one (pe_cmpR op_eq (pv 0) (pv 1) (nomark _))))))
      pss_nil)
    (pss_cons ps_never
    (pss_cons ps_never
    (pss_cons ps_never
    (pss_cons ps_never
    (pss_cons ps_never
    (pss_one ps_never)))))))), fun ⟨a, b⟩ _ => ?_⟩
  refine q_no (eb_test (EV.is (ev_op (ev_var (d := B b) rfl) ev_c rd_isN) ?_)) ?_
  · show B (decide (V.bl b = .non)) = B false
    rw [decide_eq_false (fun z => nomatch z)]
  refine q_yes (isT (ev_var (d := B b) rfl) rfl ki_bb) (q_ret ?_)
  exact s_ret (EV.is (ev_and (ev_isi (ev_var (d := B a) rfl) rfl ki_bb) fun _ => ev_op (ev_var (d := B a) rfl) (ev_var (d := B b) rfl) rd_eqB) (by rw [Bool.true_and])) rfl
end
end TT

set_option maxRecDepth 100000
set_option maxHeartbeats 4100000
/-! F6: the stream -/
namespace TT
open PySem PySem.Spec PyProof.Rows
open L2
open Dl
open Evl (Ex)
section
variable {P : Program} {w : World} {K : PySem.W.Frag} {mg : Str → Option Value} {base : Heap} {ρ : Rho} {t : TA} {te tx : TE} {E : XK} {Φ : Oc → Prop} {u : TS}
theorem okRaw {x : Str} {st : Stmt} {f : Addr} {fd : FuncData} {N ps : List Str} {k : Nat} {sp : Sp} (F : FnP K x st f fd) (S : FnScope N ps (defScope st)) (len : ∀ vs H Q E, sp vs H Q E → vs.length = ps.length)
    (hb : ∀ (cdv : Value) (A' : Around) (outer : List Env) (s : Shared) (H : Hp) (E : XK), Room k (A'.deeper (envOfC x (defScope st) s.heap.objs.size f cdv)) →
      ∃ t, PSs (cxOf CX0 P w K mg base N x (defScope st) f cdv A' outer s H E).nox (defBody st) t ∧ ∀ vs Q, sp vs H Q E → t { nx := fun _ H' => Q .non H', rt := Q } (L2.start N vs) H) : FnOk P w K mg base CX0 (k + 1) f fd ps sp :=
  F.ok S len fun cdv A' outer s H vs Q E hr h => by
    obtain ⟨t, h1, h2⟩ := hb cdv A' outer s H E hr
    exact ⟨t, h1.nox, h2 vs Q h⟩
theorem raw_k {t w : TS} {D : Ends} {σ : L2.St} {H : Hp} (R : L2.St → Hp → Prop) (h1 : ∀ σ' H', R σ' H' → w D σ' H') (h2 : ∀ nx : L2.St → Hp → Prop, (∀ σ' H', R σ' H' → nx σ' H') → t { D with nx := nx } σ H) : tSeq t w D σ H := h2 (w D) h1
theorem raw_set {i : Nat} {v : V} {σ : L2.St} {H : Hp} {Q : L2.St → Hp → Prop} (k : Q (σ.set i (some v)) H) : gName i v σ H Q := k
theorem raw_if {tt : TT} {t u : TS} {D : Ends} {σ : L2.St} {H : Hp} {b : Bool} (h1 : b = true → t D σ H) (h2 : b = false → u D σ H) : if b = true then t D σ H else u D σ H := by
  cases b with
  | true => exact h1 rfl
  | false => exact h2 rfl
theorem raw_ix {σ : L2.St} {H : Hp} {Q : VK} {q : Addr} {xs : List V} {i : Int} {v : V} {j : Nat} (h0 : σ[j]? = some (some (.ref q))) (h1 : H q = some (.lst xs)) (h2 : atI xs i = some v) (k : Q v H) : tOp (rIx K) (tVar j) (tC (.int i)) σ H Q := ⟨.ref q, h0, .inl ⟨q, xs, i, v, rfl, rfl, SqL.of h1, h2, k⟩⟩
theorem atV {α : Type} {f : α → V} {xs : List α} {x : Int} {y : α} (h0 : 0 ≤ x) (h : xs[x.toNat]? = some y) : atI (xs.map f) x = some (f y) := by
  have e : x = ((x.toNat : Nat) : Int) := by omega
  rw [e]
  exact atI_nat (by rw [List.getElem?_map, h]; rfl)
/-! ### a draw -/
abbrev spNx : Sp := spS (fun m : Int => [I m]) (fun m => 1 ≤ m ∧ m ≤ 1000) (fun m d => ∃ x, d = I x ∧ 0 ≤ x ∧ x < m)
theorem clNx {j : Nat} {m : Int} (hm : 1 ≤ m ∧ m ≤ 1000) (hj : ρ[j]? = some .s) (h : EV te ρ (I m)) : EE (tCall spNx [] E (tCons (tVar j) (tCons te tNil))) ρ (fun d => ∃ x, d = I x ∧ 0 ≤ x ∧ x < m) := ee_callS (te := te) (O := fun m d => ∃ x, d = I x ∧ 0 ≤ x ∧ x < m) m hm hj (el_cons h el_nil)
theorem ok_l_next (T : Txt K mg) : FnOk P w K mg base CX0 1 T.f_l_next T.d_l_next P_l_next spNx := by
  refine okRaw T.F_l_next sc_l_next (fun vs H Q E h => ?_) fun cdv A' outer s H E hr => ⟨_, (pss_cons (ps_if (pt_cmpR op_eq (pe_ix (ix_any (K := K)) (pv 0) pe_int (fun _ _ => rfl)) pe_int (nomark _))
      (pss_cons (ps_set (i := 2) sc_l_next.nd rfl (Or.inl rfl) (pe_ix (ix_any (K := K)) (pv 0) pe_int (fun _ _ => rfl)))
      (pss_cons (ps_set (i := 3) sc_l_next.nd rfl (Or.inl rfl) (pe_op (op_addA (K := K)) pe_int (pv 2)))
      (pss_cons (ps_if (pt_cmpR (op_ltA (K := K) hr.units0) (pv 2) (pe_callB (call_lenA (K := K)) (by rfl) T.b_len bo_len (pa_cons (pe_ix (ix_any (K := K)) (pv 0) pe_int (fun _ _ => rfl)) pa_nil)) (nomark _))
        (pss_one (ps_set (i := 3) sc_l_next.nd rfl (Or.inl rfl) (pe_callB call_abs (by rfl) T.b_abs bo_abs (pa_cons (pe_ix (ix_any (K := K)) (pe_ix (ix_any (K := K)) (pv 0) pe_int (fun _ _ => rfl)) (pv 2) (fun _ _ => rfl)) pa_nil))))
        pss_nil)
      (pss_cons (ps_if (pt_cmpR (op_ltA (K := K) hr.units0) (pv 3) (pe_op op_pow pe_int pe_int) (nomark _))
        (pss_cons (ps_set (i := 3) sc_l_next.nd rfl (Or.inl rfl) (pe_op op_mod (pe_callTy call_int1 (by rfl) T.b_int bo_int (pa_cons (pe_op (op_addA (K := K)) (pe_op (op_addA (K := K)) (pe_op op_mul (pv 3) pe_int) (pe_op op_mul (pv 2) pe_int)) pe_int) pa_nil)) pe_int))
        (pss_one (ps_set (i := 3) sc_l_next.nd rfl (Or.inl rfl) (pe_op (op_addA (K := K)) (pe_op op_mul (pe_op op_mod (pe_callTy call_int1 (by rfl) T.b_int bo_int (pa_cons (pe_op (op_addA (K := K)) (pe_op op_mul (pv 3) pe_int) pe_int) pa_nil)) pe_int) pe_int) (pv 3)))))
        pss_nil)
      (pss_cons (ps_asg (pv 3) (pg_sub (pv 0) pe_int set_list))
      (pss_one (ps_asg (pe_op (op_addA (K := K)) (pv 2) pe_int) (pg_sub (pv 0) pe_int set_list))))))))
      pss_nil)
    (pss_cons (ps_set (i := 4) sc_l_next.nd rfl (Or.inl rfl) (pe_op op_mod (pe_callTy call_int1 (by rfl) T.b_int bo_int (pa_cons (pe_ix (ix_any (K := K)) (pv 0) pe_int (fun _ _ => rfl)) pa_nil)) (pv 1)))
    (pss_cons (ps_asg (pe_op op_fdiv (pe_ix (ix_any (K := K)) (pv 0) pe_int (fun _ _ => rfl)) (pv 1)) (pg_sub (pv 0) pe_int set_list))
    (pss_one (ps_ret (pv 4)))))), fun vs Q h => ?_⟩
  · obtain ⟨Z, i, q, l, ns, ws, _, _, rfl, _, _, _, r, _⟩ := h
    rw [List.length_cons, r.len]
    rfl
  obtain ⟨Z, m, q, l, ns, ws, dm, hm, rfl, zq, zl, ⟨c, k, hc, hk, hq, hl⟩, r, kk⟩ := h
  obtain ⟨y, ys, rfl, e1, e2⟩ := r
  have e1 : y = .int m := e1
  have e2 : ys = [] := e2
  subst e1 e2
  have hm : 1 ≤ m ∧ m ≤ 1000 := hm
  have lq : l ≠ q := fun z => zl (by rw [z]; exact zq)
  have pp : ∀ (H' : Hp) (o : HO) a, a ≠ q → upd H' q o a = H' a := fun H' o a n => upd_ne n
  refine raw_k (fun σ' H' => ∃ (x2 x3 : Option V) (c' k' : Int), σ' = [some (.ref q), some (.int m), x2, x3, none] ∧ 0 ≤ c' ∧ 0 ≤ k' ∧ H' q = some (.lst [.ref l, .int c', .int k']) ∧ H' l = some (.lst (ns.map V.int)) ∧ ∀ a, a ≠ q → H' a = H a) ?_ ?_
  · rintro σ' H' ⟨x2, x3, c', k', rfl, hc', hk', hq', hl', he'⟩
    have hmod : 0 ≤ c' % m ∧ c' % m < m := ⟨Int.emod_nonneg _ (by omega), Int.emod_lt_of_pos _ (by omega)⟩
    have hdiv : 0 ≤ c' / m := Int.ediv_nonneg hc' (by omega)
    -- digit = int(stream[1]) % many
    refine raw_ix (q := q) (i := 1) rfl hq' rfl (.inl ⟨c', rfl, _, rfl, c', m, rfl, rfl, by omega, ?_⟩)
    -- stream[1] = stream[1] // many
    refine raw_ix (q := q) (i := 1) rfl hq' rfl ⟨_, rfl, c', m, rfl, rfl, ⟨by omega, by omega⟩, ?_⟩
    refine ⟨.ref q, rfl, q, _, 1, 1, rfl, rfl, hq', rfl, ?_⟩
    refine ⟨_, rfl, ?_⟩
    refine kk (I (c' % m)) _ _ ⟨_, rfl, hmod⟩ (fun a o n e => ?_) ⟨c' / m, k', hdiv, hk', upd_same, ?_⟩ rfl
    · rw [pp _ _ a n, he' a n]; exact e
    · rw [pp _ _ l lq]; exact hl'
  · intro nx hnx
    refine raw_ix (q := q) (i := 1) rfl hq rfl ⟨rfl, _, rfl, raw_if (tt := tYes) (fun _ => ?_) (fun _ => ?_)⟩
    · -- k = stream[2]
      refine raw_ix (q := q) (i := 2) rfl hq rfl ?_
      -- cell = 7 + k
      refine ⟨_, rfl, .inl ⟨7, k, rfl, rfl, raw_set ?_⟩⟩
      dsimp only
      show tSeq (tIfS _ _ _) _ _ [some (.ref q), some (.int m), some (.int k), some (.int (7 + k)), none] H
      refine raw_k (fun σ' H' => ∃ x : Int, 0 ≤ x ∧ σ' = [some (.ref q), some (.int m), some (.int k), some (.int x), none] ∧ H' = H) ?_ ?_
      · rintro σ' H' ⟨x, hx, rfl, e⟩
        subst e
        show tSeq (tIfS _ _ _) _ _ _ _
        refine raw_k (fun σ' H2 => ∃ x : Int, 0 ≤ x ∧ σ' = [some (.ref q), some (.int m), some (.int k), some (.int x), none] ∧ H2 = H') ?_ ?_
        · rintro σ' H2 ⟨x, hx, rfl, e⟩
          subst e
          refine ⟨_, rfl, .ref q, rfl, q, _, 1, 1, rfl, rfl, hq, rfl, ?_⟩
          refine ⟨_, rfl, .inl ⟨k, 1, rfl, rfl, .ref q, rfl, q, _, 2, 2, rfl, rfl, upd_same, rfl, ?_⟩⟩
          refine hnx _ _ ⟨_, _, x, k + 1, rfl, hx, by omega, upd_same, ?_, fun a n => ?_⟩
          · rw [pp _ _ l lq, pp _ _ l lq]; exact hl
          · rw [pp _ _ a n, pp _ _ a n]
        · intro nx2 hnx2
          refine ⟨_, rfl, 10, 18, rfl, rfl, ⟨by decide, by decide, by decide⟩, .inl ⟨x, _, rfl, rfl, _, rfl, raw_if (tt := tYes) (fun _ => ?_) (fun _ => hnx2 _ _ ⟨x, hx, rfl, rfl⟩)⟩⟩
          refine ⟨_, rfl, x, 48271, rfl, rfl, .inr ⟨by decide, by decide⟩, _, rfl, k, 69621, rfl, rfl, .inr ⟨by decide, by decide⟩, .inl ⟨_, _, rfl, rfl, .inl ⟨_, 11, rfl, rfl, .inl ⟨_, rfl, _, 2147483647, rfl, rfl, by show (0 : Int) < 2147483647; decide, ?_⟩⟩⟩⟩
          refine ⟨_, rfl, _, 16807, rfl, rfl, .inr ⟨by decide, by decide⟩, .inl ⟨_, 13, rfl, rfl, .inl ⟨_, rfl, _, 2147483647, rfl, rfl, by show (0 : Int) < 2147483647; decide, _, 65537, rfl, rfl, .inr ⟨by decide, by decide⟩, _, rfl, .inl ⟨_, _, rfl, rfl, ?_⟩⟩⟩⟩
          refine hnx2 _ _ ⟨_, ?_, rfl, rfl⟩
          have h1 : 0 ≤ (x * 48271 + k * 69621 + 11) % 2147483647 := Int.emod_nonneg _ (by decide)
          have h2 : 0 ≤ ((x * 48271 + k * 69621 + 11) % 2147483647 * 16807 + 13) % 2147483647 := Int.emod_nonneg _ (by decide)
          omega
      · intro nx2 hnx2
        have hne : H q ≠ none := by rw [hq]; exact fun z => nomatch z
        refine ⟨_, rfl, raw_ix (q := q) (i := 0) rfl hq rfl (.inl ⟨l, ns.map V.int, rfl, .inl (SqL.of hl), .inl ⟨k, _, rfl, rfl, _, rfl, raw_if (tt := tYes) (fun hb => ?_) (fun _ => hnx2 _ _ ⟨7 + k, by omega, rfl, rfl⟩)⟩⟩)⟩
        have hb2 : k < ((ns.map V.int).length : Int) := of_decide_eq_true hb
        rw [List.length_map] at hb2
        refine raw_ix (q := q) (i := 0) rfl hq rfl ?_
        refine ⟨_, rfl, .inl ⟨l, ns.map V.int, k, .int (ns.getD k.toNat 0), rfl, rfl, SqL.of hl, ?_, ?_⟩⟩
        · exact atV (f := V.int) hk (by rw [List.getD_eq_getElem?_getD, List.getElem?_eq_getElem (show k.toNat < ns.length by omega)] <;> rfl)
        · refine ⟨_, rfl, ?_⟩
          refine hnx2 _ _ ⟨_, ?_, rfl, rfl⟩
          split <;> omega
    · exact hnx _ _ ⟨none, none, c, k, rfl, hc, hk, hq, hl, fun a n => rfl⟩
end
end TT

set_option maxRecDepth 100000
set_option maxHeartbeats 4100000
/-! F7: drawn graphs -/
namespace TT
open PySem PySem.Spec PyProof.Rows
open L2
open Dl
open Evl (Ex)
theorem lex2 {a b c d : Int} : HT.lexLt [a, b] [c, d] = true ↔ a < c ∨ (a = c ∧ b < d) := by
  rw [HT.lexLt_cons, HT.lexLt_cons, HT.lexLt_nil_nil]
  split
  · rename_i h
    split
    · constructor
      · intro z; cases z
      · intro z; omega
    · rw [decide_eq_true_iff]; omega
  · rw [decide_eq_true_iff]; omega
theorem WFs.sub {s s' : List Int} (h : WFs s) (b : s'.Sublist s) : WFs s' := ⟨h.up.sublist b, fun v hv => h.rg v (b.subset hv), Nat.le_trans b.length_le h.few⟩
theorem srt_id {s : List Int} (h : s.Pairwise (· < ·)) : srt s = s := (srt_is (List.Perm.refl s) (h.imp fun z => by omega)).symm
section
variable {P : Program} {w : World} {K : PySem.W.Frag} {mg : Str → Option Value} {base : Heap} {ρ : Rho} {t : TA} {te tx : TE} {tt tu : TT} {E : XK} {Φ : Oc → Prop} {u : TS}
abbrev Dr (m : Int) (d : D) : Prop := ∃ x, d = I x ∧ 0 ≤ x ∧ x < m
theorem et_eq {m z : Int} (h : EE te ρ (Dr m)) : ET (tTest (tOp rEq te (tC (.int z)))) ρ (fun _ => True) :=
  et_test (ee_op (P' := fun d => d = I z) (R := fun d => ∃ b, d = B b) h ev_c fun x y ⟨a, e, _⟩ e2 => ⟨B (decide (a = z)), ⟨_, rfl⟩, by rw [e, e2]; exact rd_eqI⟩) fun d ⟨b, e⟩ => ⟨b, e, trivial⟩
theorem et_gt {m z : Int} (h : EE te ρ (Dr m)) : ET (tTest (tOp (rI0 fun i j => .bl (decide (j < i))) te (tC (.int z)))) ρ (fun _ => True) :=
  et_test (ee_op (P' := fun d => d = I z) (R := fun d => ∃ b, d = B b) h ev_c fun x y ⟨a, e, _⟩ e2 => ⟨B (decide (z < a)), ⟨_, rfl⟩, by rw [e, e2]; exact rd_0⟩) fun d ⟨b, e⟩ => ⟨b, e, trivial⟩
theorem et_and {P1 P2 R : Bool → Prop} (h1 : ET tt ρ P1) (h2 : P1 true → ET tu ρ P2) (r0 : P1 false → R false) (r1 : ∀ b, P1 true → P2 b → R b) : ET (tAnd tt tu) ρ R := fun c Z H σ s Q k => h1 c Z H σ s _ fun b1 H1 e g => by
  cases b1 with
  | true =>
    show tu σ H1 Q
    exact h2 e c Z H1 σ (s.to g) Q fun b2 H2 e2 g2 => k b2 H2 (r1 b2 e e2) (g.trans g2)
  | false =>
    show Q false H1
    exact k _ H1 (r0 e) g
theorem ee_add1 {m z : Int} (h : EE te ρ (Dr m)) : EE (tOp (rAddA K) (tC (.int z)) te) ρ (fun d => ∃ x, d = I x ∧ z ≤ x ∧ x < z + m) :=
  ee_op (P := fun d => d = I z) ev_c h fun x y e ⟨a, e2, h1, h2⟩ => ⟨I (z + a), ⟨_, rfl, by omega, by omega⟩, by rw [e, e2]; exact rd_addI⟩
theorem ee_cb1 {v : List V → Hp → VK → Prop} {P1 R : D → Prop} (h : EE te ρ P1) (hu : ∀ d, P1 d → ∃ z, R z ∧ CD v [d] z) : EE (tCB v (tCons te tNil)) ρ R :=
  ee_cb (A := fun ds => ∃ d, ds = [d] ∧ P1 d) (ea_cons h el_nil fun d ds p e => ⟨d, by rw [e], p⟩) fun ds ⟨d, e, p⟩ => by rw [e]; exact hu d p
/-! ### a scope -/
abbrev spSc : Sp := spS (fun n : Int => [I n]) (fun n => 0 ≤ n ∧ n ≤ 6) (fun n d => ∃ s, d = scD s ∧ WFs s ∧ ∀ v ∈ s, v < n)
theorem clSc {j : Nat} {n : Int} (hn : 0 ≤ n ∧ n ≤ 6) (hj : ρ[j]? = some .s) (h : EV te ρ (I n)) : EE (tCall spSc [] E (tCons (tVar j) (tCons te tNil))) ρ (fun d => ∃ s, d = scD s ∧ WFs s ∧ ∀ v ∈ s, v < n) := ee_callS (te := te) (O := fun n d => ∃ s, d = scD s ∧ WFs s ∧ ∀ v ∈ s, v < n) n hn hj (el_cons h el_nil)
theorem ok_l_scope (T : Txt K mg) : FnOk P w K mg base CX0 2 T.f_l_scope T.d_l_scope P_l_scope spSc := by
  refine okS T.F_l_scope sc_l_scope (fun _ => rfl) (by decide) fun cdv A' outer s H E hr => ⟨_, (pss_cons (ps_setLc (i := 2) (own := [("_law_variable", 3)]) (by rfl) sc_l_scope.nd rfl rfl (sw_true rfl rfl rfl (by decide +kernel)) (pi_range1 (by rfl) T.b_range (pa_cons (pv 1) pa_nil)) (blkOk_by (own := [("_law_variable", 3)]) (N := N_l_scope) (sc := defScope s_l_scope) (by decide +kernel)) (fun _ _ _ _ _ => (pg_name (i := 3) sc_l_scope.nd rfl (Or.inl rfl))) (fun _ _ _ _ _ => pts_one (pt_cmpR op_eq (pe_call (ok_l_next T) (hr.mono (by decide)) rfl T.g_l_next T.F_l_next.kp T.bd_l_next .nil pass0 (pa_cons (pv 0) (pa_cons pe_int pa_nil))) pe_int (nomark _))) (fun _ _ _ _ _ => (pv 3)))
    (pss_one (ps_ret (pe_callTy (call_tupA (K := K)) (by rfl) T.b_tuple bo_tuple (pa_cons (pe_slice (sl_any (K := K)) (pv 2) po_none (po_some pe_int)) pa_nil))))), fun n hn => ?_⟩
  have hn : 0 ≤ n ∧ n ≤ 6 := hn
  refine q_asgE (P := fun d => ∃ s, d = .l (zD s) ∧ s.Pairwise (· < ·) ∧ ∀ v ∈ s, 0 ≤ v ∧ v < n) (EF.ee (ef_lc (src_rng1 (n := n) (el_cons (ev_var rfl) el_nil) (by omega)) (by rw [rgL_len]; omega) (fun i acc => ∃ s, acc = zD s ∧ s.Pairwise (· < ·) ∧ ∀ v ∈ s, 0 ≤ v ∧ v < (i : Int)) ⟨[], rfl, .nil, fun _ h => nomatch h⟩ fun i x acc hx ⟨s, e, p, r⟩ => ⟨fun _ => True, et_eq (clNx (m := 3) (by decide) rfl ev_c), fun _ => (ev_var (d := I x) rfl).imp fun d hd => ?_, fun _ => ⟨s, e, p, fun v hv => ?_⟩⟩) fun ds ⟨s, e, p, r⟩ => ⟨s, by rw [e], p, fun v hv => ?_⟩) fun d ⟨s, e, p, r⟩ => ?_
  · have ex := rgL_get hx
    refine ⟨s ++ [x], by rw [hd, e, zD_1], List.pairwise_append.mpr ⟨p, List.pairwise_singleton .., fun a ha b hb => ?_⟩, fun v hv => ?_⟩
    · have := r a ha
      have : b = x := by simpa using hb
      omega
    · rcases List.mem_append.mp hv with hv | hv
      · have := r v hv; omega
      · have : v = x := by simpa using hv
        omega
  · have := r v hv; omega
  · have h1 := r v hv
    rw [rgL_len] at h1
    omega
  · subst e
    refine s_ret (d := scD (s.take 3)) (EV.is (ev_cb1 (ev_sl (ev_var (d := .l (zD s)) rfl) eo_none (eo_some (i := 3) ev_c) sd_L) cd_tupL) (by rw [cut_take (by decide), zD_take]; rfl)) ⟨s.take 3, rfl, ⟨p.sublist (List.take_sublist ..), fun v hv => ?_, by rw [List.length_take]; omega⟩, fun v hv => (r v (List.mem_of_mem_take hv)).2⟩
    have := r v (List.mem_of_mem_take hv)
    omega
/-! ### any graph -/
abbrev OGr (m : Int) (d : D) : Prop := ∃ g, d = gD g ∧ WF g ∧ (g.sc.length : Int) ≤ m
abbrev spAG : Sp := spS (fun m : Int => [I m]) (fun m => 1 ≤ m ∧ m ≤ 5) OGr
theorem clAG {j : Nat} {m : Int} (hm : 1 ≤ m ∧ m ≤ 5) (hj : ρ[j]? = some .s) (h : EV te ρ (I m)) : EE (tCall spAG [] E (tCons (tVar j) (tCons te tNil))) ρ (OGr m) := ee_callS (te := te) (O := OGr) m hm hj (el_cons h el_nil)
theorem ok_l_any_graph (T : Txt K mg) : FnOk P w K mg base CX0 3 T.f_l_any_graph T.d_l_any_graph P_l_any_graph spAG := by
  refine okS T.F_l_any_graph sc_l_any_graph (fun _ => rfl) (by decide) fun cdv A' outer s H E hr => ⟨_, (pss_cons (ps_set (i := 2) sc_l_any_graph.nd rfl (Or.inl rfl) (pe_op (op_addA (K := K)) pe_int (pe_call (ok_l_next T) (hr.mono (by decide)) rfl T.g_l_next T.F_l_next.kp T.bd_l_next .nil pass0 (pa_cons (pv 0) (pa_cons (pv 1) pa_nil)))))
    (pss_cons (ps_set (i := 3) sc_l_any_graph.nd rfl (Or.inr rfl) (pe_op (op_addA (K := K)) pe_int (pe_call (ok_l_next T) (hr.mono (by decide)) rfl T.g_l_next T.F_l_next.kp T.bd_l_next .nil pass0 (pa_cons (pv 0) (pa_cons pe_int pa_nil)))))
    (pss_cons (ps_set (i := 4) sc_l_any_graph.nd rfl (Or.inl rfl) (pe_callTy (call_tupA (K := K)) (by rfl) T.b_tuple bo_tuple (pa_cons (pe_lc (own := [("_law_node", 5)]) (by rfl) sc_l_any_graph.nd (pi_range1 (by rfl) T.b_range (pa_cons (pv 2) pa_nil)) (blkOk_by (own := [("_law_node", 5)]) (N := N_l_any_graph) (sc := defScope s_l_any_graph) (by decide +kernel)) (fun _ _ _ _ _ => (pg_name (i := 5) sc_l_any_graph.nd rfl (Or.inl rfl))) (fun _ _ _ _ _ => pts_nil) (fun _ _ _ _ _ => (pe_call (ok_l_scope T) (hr.mono (by decide)) rfl T.g_l_scope T.F_l_scope.kp T.bd_l_scope .nil pass0 (pa_cons (pv 0) (pa_cons (pv 3) pa_nil))))) pa_nil)))
    (pss_cons (ps_set (i := 6) sc_l_any_graph.nd rfl (Or.inl rfl) (pe_lst pa_nil))
    (pss_cons (ps_for PassesOwn.never rfl (pi_range1 (by rfl) T.b_range (pa_cons (pv 2) pa_nil)) (pg_name (i := 7) sc_l_any_graph.nd rfl (Or.inl rfl))
      (pss_one (ps_for PassesOwn.never rfl (pi_range2 (by rfl) T.b_range (pa_cons (pe_op (op_addA (K := K)) (pv 7) pe_int) (pa_cons (pv 2) pa_nil))) (pg_name (i := 8) sc_l_any_graph.nd rfl (Or.inl rfl))
        (pss_one (ps_if (pt_cmpR op_eq (pe_call (ok_l_next T) (hr.mono (by decide)) rfl T.g_l_next T.F_l_next.kp T.bd_l_next .nil pass0 (pa_cons (pv 0) (pa_cons pe_int pa_nil))) pe_int (nomark _))
          (pss_one (ps_expr (pe_bm PySem.F.plainAttrs_list PySem.F.slot_list_append PySem.F.type_list_append mt_append (pv 6) (pa_cons (pe_tup (pa_cons (pv 7) (pa_cons (pv 8) pa_nil))) pa_nil))))
          pss_nil)))))
    (pss_one (ps_ret (pe_tup (pa_cons (pe_op (op_addA (K := K)) pe_int (pe_call (ok_l_next T) (hr.mono (by decide)) rfl T.g_l_next T.F_l_next.kp T.bd_l_next .nil pass0 (pa_cons (pv 0) (pa_cons pe_int pa_nil)))) (pa_cons (pv 4) (pa_cons (pe_callTy (call_tupA (K := K)) (by rfl) T.b_tuple bo_tuple (pa_cons (pv 6) pa_nil)) pa_nil))))))))))), fun m hm => ?_⟩
  have hm : 1 ≤ m ∧ m ≤ 5 := hm
  refine q_asgE (ee_add1 (clNx (m := m) (by omega) rfl (ev_var rfl))) fun d ⟨n, e, n1, n2⟩ => ?_
  subst e
  refine q_asgE (ee_add1 (clNx (m := 5) (by decide) rfl ev_c)) fun d ⟨nv, e, v1, v2⟩ => ?_
  subst e
  have hrl : ((rgL 0 n).length : Int) = n := by rw [rgL_len]; omega
  refine q_asgE (P := fun d => ∃ ss : List (List Int), d = .t (ss.map scD) ∧ (ss.length : Int) = n ∧ ∀ s ∈ ss, WFs s) (ee_cb1 (EF.ee (R := fun d => ∃ ss : List (List Int), d = .l (ss.map scD) ∧ (ss.length : Int) = n ∧ ∀ s ∈ ss, WFs s) (ef_lc (src_rng1 (n := n) (el_cons (ev_var rfl) el_nil) (by omega)) (by rw [rgL_len]; omega) (fun i acc => ∃ ss : List (List Int), acc = ss.map scD ∧ ss.length = i ∧ ∀ s ∈ ss, WFs s) ⟨[], rfl, rfl, fun _ h => nomatch h⟩ fun i x acc hx ⟨ss, e, p, r⟩ => ⟨fun b => b = true, eb_yes, fun _ => (clSc (n := nv) (by omega) rfl (ev_var rfl)).imp fun d ⟨s, hd, ws, _⟩ => ⟨ss ++ [s], by rw [hd, e, List.map_append]; rfl, by rw [List.length_append, p]; rfl, fun z hz => (List.mem_append.mp hz).elim (r z) fun hz => by rw [show z = s by simpa using hz]; exact ws⟩, fun z => Bool.noConfusion z⟩) fun ds ⟨ss, e, p, r⟩ => ⟨ss, by rw [e], by omega, r⟩) fun d ⟨ss, e, p, r⟩ => ⟨.t (ss.map scD), ⟨ss, rfl, p, r⟩, by rw [e]; exact cd_tupL⟩) fun d ⟨ss, e, p, r⟩ => ?_
  subst e
  refine q_own (A := fun ds => ds = []) (ef_lst el_nil fun ds e => by rw [e]; show 0 ≤ 100000; decide) fun ds e => ?_
  subst e
  let R : List (Int × Int) → Rho := fun es => [.s, .d (I m), .d (I n), .d (I nv), .d (.t (ss.map scD)), .un, .o (.ls (es.map pD)), .un, .un]
  let Iv : Int → Int → List (Int × Int) → Prop := fun a b es => (∀ e ∈ es, 0 ≤ e.1 ∧ e.1 < e.2 ∧ e.2 < n ∧ (e.1 < a ∨ (e.1 = a ∧ e.2 < b))) ∧ es.Pairwise fun a b => HT.lexLt [a.1, a.2] [b.1, b.2] = true
  refine es_seq (Ψ := fun o => ∃ es, o = .nx (R es) ∧ Iv n 0 es ∧ es.length ≤ 30) (es_for (src_rng1 (n := n) (el_cons (ev_var rfl) el_nil) (by omega)) R (fun i es => Iv i 0 es ∧ es.length ≤ 6 * i) ⟨[], ⟨⟨(fun _ h => nomatch h), .nil⟩, Nat.zero_le _⟩, Wkn.refl⟩ (fun i x es hx ⟨⟨h1, h2⟩, h3⟩ => ?_) fun es ⟨h1, h2⟩ => ?_) ?_
  · have ex := rgL_get hx
    have xr := mem_rgL.mp (List.mem_of_getElem? hx)
    let R2 : List (Int × Int) → Rho := fun es => [.s, .d (I m), .d (I n), .d (I nv), .d (.t (ss.map scD)), .un, .o (.ls (es.map pD)), .d (I x), .un]
    refine es_for (src_rng2 (lo := x + 1) (n := n) (el_cons (ev_op (ev_var rfl) ev_c rd_addI) (el_cons (ev_var rfl) el_nil)) (by omega)) R2 (fun j es => Iv x (x + 1 + j) es ∧ es.length ≤ 6 * i + j) ⟨es, ⟨⟨fun e he => ?_, h2⟩, by omega⟩, Wkn.refl⟩ (fun j y es hy ⟨⟨g1, g2⟩, g3⟩ => ?_) fun es ⟨⟨g1, g2⟩, g3⟩ => ?_
    · obtain ⟨a1, a2, a3, a4⟩ := h1 e he
      exact ⟨a1, a2, a3, by omega⟩
    · have ey := rgL_get hy
      have yr := mem_rgL.mp (List.mem_of_getElem? hy)
      have ln : es.length ≤ 100 := by omega
      refine es_if (et_eq (clNx (m := 2) (by decide) rfl ev_c)) (fun _ => ?_) (fun _ => ?_)
      · refine es_app (P := fun d => d = pD (x, y)) (ds := es.map pD) rfl (ev_tup (el_cons (ev_var rfl) (el_cons (ev_var rfl) el_nil)) (by show 2 ≤ 100000; decide)) (by rw [List.length_map]; omega) fun d hd => ?_
        subst hd
        refine ⟨es ++ [(x, y)], ⟨⟨fun e he => ?_, List.pairwise_append.mpr ⟨g2, List.pairwise_singleton .., fun a ha b hb => ?_⟩⟩, by rw [List.length_append, List.length_singleton]; omega⟩, ?_⟩
        · rcases List.mem_append.mp he with he | he
          · obtain ⟨a1, a2, a3, a4⟩ := g1 e he
            exact ⟨a1, a2, a3, by omega⟩
          · have : e = (x, y) := by simpa using he
            rw [this]
            refine ⟨xr.1, by omega, yr.2, .inr ⟨rfl, by show y < _; omega⟩⟩
        · have : b = (x, y) := by simpa using hb
          rw [this]
          obtain ⟨a1, a2, a3, a4⟩ := g1 a ha
          exact lex2.mpr (by show a.1 < x ∨ a.1 = x ∧ a.2 < y; omega)
        · show Wkn _ (R2 (es ++ [(x, y)]))
          have e : (es ++ [(x, y)]).map pD = es.map pD ++ [pD (x, y)] := by rw [List.map_append]; rfl
          show Wkn _ [.s, .d (I m), .d (I n), .d (I nv), .d (.t (ss.map scD)), .un, .o (.ls ((es ++ [(x, y)]).map pD)), .d (I x), .un]
          rw [e]
          exact wS (wS (wS (wS (wS (wS (wS (wS (wU wN))))))))
      · refine es_next ⟨es, ⟨⟨fun e he => ?_, g2⟩, by omega⟩, wS (wS (wS (wS (wS (wS (wS (wS (wU wN))))))))⟩
        obtain ⟨a1, a2, a3, a4⟩ := g1 e he
        exact ⟨a1, a2, a3, by omega⟩
    · rw [rgL_len] at g3
      refine ⟨es, ⟨⟨fun e he => ?_, g2⟩, by omega⟩, wS (wS (wS (wS (wS (wS (wS (wU (wU wN))))))))⟩
      obtain ⟨a1, a2, a3, a4⟩ := g1 e he
      exact ⟨a1, a2, a3, by omega⟩
  · rw [hrl] at h1
    exact ⟨es, rfl, h1, by omega⟩
  · rintro o ⟨es, rfl, ⟨h1, h2⟩, h3⟩
    refine es_ret (P := OGr m) (ee_tup (A := fun ds => ∃ x, ds = [I x, .t (ss.map scD), .t (es.map pD)] ∧ 2 ≤ x ∧ x < 4) (ea_cons (A := fun ds => ds = [.t (ss.map scD), .t (es.map pD)]) (ee_add1 (clNx (m := 2) (by decide) rfl ev_c)) (el_cons (ev_var rfl) (el_cons (ev_cb1 (ev_var (d := .l (es.map pD)) rfl) cd_tupL) el_nil)) fun d ds ⟨x, e, a1, a2⟩ e2 => ⟨x, by rw [e, e2], a1, a2⟩) fun ds ⟨x, e, a1, a2⟩ => ⟨by rw [e]; show 3 ≤ 100000; decide, ⟨x, ss, es⟩, by rw [e]; rfl, ⟨⟨a1, by show x ≤ 3; omega⟩, by show 1 ≤ ss.length; omega, by show ss.length ≤ 5; omega, r, fun e he => ?_, h2, h3⟩, by show (ss.length : Int) ≤ m; omega⟩) fun d h => h
    obtain ⟨b1, b2, b3, _⟩ := h1 e he
    exact ⟨b1, b2, by show e.2 < (ss.length : Int); omega⟩
end
end TT

set_option maxRecDepth 100000
set_option maxHeartbeats 4100000
/-! F8: drawn trees -/
namespace TT
open PySem PySem.Spec PyProof.Rows
open L2
open Dl
open Evl (Ex)
theorem srtP_strict {es : List (Int × Int)} (h : es.Pairwise fun a b => a.2 < b.2) : (srtP es).Pairwise fun a b => HT.lexLt [a.1, a.2] [b.1, b.2] = true := by
  have nd : (srtP es).Nodup := (srtP_perm es).nodup_iff.mpr (h.imp fun {a b} z => fun e => by rw [e] at z; omega)
  refine ((srtP_pw es).and nd).imp fun {a b} ⟨z, n⟩ => ?_
  rw [leP_iff] at z
  refine lex2.mpr ?_
  rcases z with z | ⟨z1, z2⟩
  · exact .inl z
  · refine .inr ⟨z1, ?_⟩
    have : a.2 ≠ b.2 := fun e => n (Prod.ext z1 e)
    omega
section
variable {P : Program} {w : World} {K : PySem.W.Frag} {mg : Str → Option Value} {base : Heap} {ρ : Rho} {t : TA} {te tx : TE} {tt tu : TT} {E : XK} {Φ : Oc → Prop} {u : TS}
abbrev spTr : Sp := spS (fun m : Int => [I m]) (fun m => 1 ≤ m ∧ m ≤ 5) OGr
theorem clTr {j : Nat} {m : Int} (hm : 1 ≤ m ∧ m ≤ 5) (hj : ρ[j]? = some .s) (h : EV te ρ (I m)) : EE (tCall spTr [] E (tCons (tVar j) (tCons te tNil))) ρ (OGr m) := ee_callS (te := te) (O := OGr) m hm hj (el_cons h el_nil)
structure TrI (i : Nat) (n : Int) (ss : List (List Int)) (es : List (Int × Int)) (fr : Int) : Prop where
  a : ss.length = 1 + i
  b : ∀ s ∈ ss, WFs s ∧ ∀ v ∈ s, v < fr
  c : 4 ≤ fr ∧ fr ≤ 6
  d : es.length = i
  e : ∀ e ∈ es, 0 ≤ e.1 ∧ e.1 < e.2 ∧ e.2 < 1 + (i : Int)
  f : es.Pairwise fun a b => a.2 < b.2
theorem ok_l_tree (T : Txt K mg) : FnOk P w K mg base CX0 3 T.f_l_tree T.d_l_tree P_l_tree spTr := by
  refine okS T.F_l_tree sc_l_tree (fun _ => rfl) (by decide) fun cdv A' outer s H E hr => ⟨_, (pss_cons (ps_set (i := 2) sc_l_tree.nd rfl (Or.inl rfl) (pe_op (op_addA (K := K)) pe_int (pe_call (ok_l_next T) (hr.mono (by decide)) rfl T.g_l_next T.F_l_next.kp T.bd_l_next .nil pass0 (pa_cons (pv 0) (pa_cons (pv 1) pa_nil)))))
    (pss_cons (ps_set (i := 3) sc_l_tree.nd rfl (Or.inl rfl) (pe_lst (pa_cons (pe_call (ok_l_scope T) (hr.mono (by decide)) rfl T.g_l_scope T.F_l_scope.kp T.bd_l_scope .nil pass0 (pa_cons (pv 0) (pa_cons pe_int pa_nil))) pa_nil)))
    (pss_cons (ps_set (i := 4) sc_l_tree.nd rfl (Or.inl rfl) (pe_lst pa_nil))
    (pss_cons (ps_set (i := 5) sc_l_tree.nd rfl (Or.inl rfl) pe_int)
    (pss_cons (ps_for PassesOwn.never rfl (pi_range2 (by rfl) T.b_range (pa_cons pe_int (pa_cons (pv 2) pa_nil))) (pg_name (i := 6) sc_l_tree.nd rfl (Or.inl rfl))
      (pss_cons (ps_set (i := 7) sc_l_tree.nd rfl (Or.inl rfl) (pe_call (ok_l_next T) (hr.mono (by decide)) rfl T.g_l_next T.F_l_next.kp T.bd_l_next .nil pass0 (pa_cons (pv 0) (pa_cons (pv 6) pa_nil))))
      (pss_cons (ps_setLc (i := 8) (own := [("_law_variable", 9)]) (by rfl) sc_l_tree.nd rfl rfl (sw_true rfl rfl rfl (by decide +kernel)) (pi_tup (pe_ix (ix_any (K := K)) (pv 3) (pv 7) (fun _ _ => rfl))) (blkOk_by (own := [("_law_variable", 9)]) (N := N_l_tree) (sc := defScope s_l_tree) (by decide +kernel)) (fun _ _ _ _ _ => (pg_name (i := 9) sc_l_tree.nd rfl (Or.inl rfl))) (fun _ _ _ _ _ => pts_one (pt_cmpR op_gt (pe_call (ok_l_next T) (hr.mono (by decide)) rfl T.g_l_next T.F_l_next.kp T.bd_l_next .nil pass0 (pa_cons (pv 0) (pa_cons pe_int pa_nil))) pe_int (nomark _))) (fun _ _ _ _ _ => (pv 9)))
      (pss_cons (ps_if (PW.pt (pw_and (pt_cmpR (op_ltA (K := K) hr.units0) (pv 5) pe_int (nomark _)) (pw_and (pt_cmpR (op_ltA (K := K) hr.units0) (pe_callB (call_lenA (K := K)) (by rfl) T.b_len bo_len (pa_cons (pv 8) pa_nil)) pe_int (nomark _)) (pw_and1 (pt_cmpR op_eq (pe_call (ok_l_next T) (hr.mono (by decide)) rfl T.g_l_next T.F_l_next.kp T.bd_l_next .nil pass0 (pa_cons (pv 0) (pa_cons pe_int pa_nil))) pe_int (nomark _))))))
        (pss_cons (ps_expr (pe_bm PySem.F.plainAttrs_list PySem.F.slot_list_append PySem.F.type_list_append mt_append (pv 8) (pa_cons (pv 5) pa_nil)))
        (pss_one (ps_set (i := 5) sc_l_tree.nd rfl (Or.inl rfl) (pe_op (op_addA (K := K)) (pv 5) pe_int))))
        pss_nil)
      (pss_cons (ps_expr (pe_bm PySem.F.plainAttrs_list PySem.F.slot_list_append PySem.F.type_list_append mt_append (pv 3) (pa_cons (pe_callTy (call_tupA (K := K)) (by rfl) T.b_tuple bo_tuple (pa_cons (pe_callB (cr_sortA (K := K) (w := w) rfl) (by rfl) T.b_sorted bo_sorted (pa_cons (pv 8) pa_nil)) pa_nil)) pa_nil)))
      (pss_one (ps_expr (pe_bm PySem.F.plainAttrs_list PySem.F.slot_list_append PySem.F.type_list_append mt_append (pv 4) (pa_cons (pe_tup (pa_cons (pv 7) (pa_cons (pv 6) pa_nil))) pa_nil)))))))))
    (pss_one (ps_ret (pe_tup (pa_cons pe_int (pa_cons (pe_callTy (call_tupA (K := K)) (by rfl) T.b_tuple bo_tuple (pa_cons (pv 3) pa_nil)) (pa_cons (pe_callTy (call_tupA (K := K)) (by rfl) T.b_tuple bo_tuple (pa_cons (pe_callB (cr_sortA (K := K) (w := w) rfl) (by rfl) T.b_sorted bo_sorted (pa_cons (pv 4) pa_nil)) pa_nil)) pa_nil))))))))))), fun m hm => ?_⟩
  have hm : 1 ≤ m ∧ m ≤ 5 := hm
  refine q_asgE (ee_add1 (clNx (m := m) (by omega) rfl (ev_var rfl))) fun d ⟨n, e, n1, n2⟩ => ?_
  subst e
  refine q_own (A := fun ds => ∃ s : List Int, ds = [s].map scD ∧ WFs s ∧ ∀ v ∈ s, v < 4) (ef_lst (ea_cons (clSc (n := 4) (by decide) rfl ev_c) el_nil fun d ds ⟨s, e, h1, h2⟩ e2 => ⟨s, by rw [e, e2]; rfl, h1, h2⟩) fun ds ⟨s, e, _⟩ => by rw [e]; show 1 ≤ 100000; decide) fun ds ⟨s0, e, h1, h2⟩ => ?_
  subst e
  refine q_own (A := fun ds => ds = []) (ef_lst el_nil fun ds e => by rw [e]; show 0 ≤ 100000; decide) fun ds e => ?_
  subst e
  refine q_asg (d := I 4) ev_c ?_
  let R : List (List Int) × List (Int × Int) × Int → Rho := fun z => [.s, .d (I m), .d (I n), .o (.ls (z.1.map scD)), .o (.ls (z.2.1.map pD)), .d (I z.2.2), .un, .un, .un, .un]
  refine es_seq (Ψ := fun o => ∃ i ss es fr, o = .nx (R (ss, es, fr)) ∧ TrI i n ss es fr ∧ 1 + (i : Int) = n) (es_for (src_rng2 (lo := 1) (n := n) (el_cons ev_c (el_cons (ev_var rfl) el_nil)) (by omega)) R (fun i z => TrI i n z.1 z.2.1 z.2.2) ⟨([s0], [], 4), ⟨rfl, fun s hs => by rw [show s = s0 by simpa using hs]; exact ⟨h1, h2⟩, by show 4 ≤ (4 : Int) ∧ (4 : Int) ≤ 6; decide, rfl, (fun _ h => nomatch h), .nil⟩, Wkn.refl⟩ (fun i x z hx hI => ?_) fun z hI => ?_) ?_
  · obtain ⟨ss, es, fr⟩ := z
    have hI : TrI i n ss es fr := hI
    obtain ⟨ia, ib, ic, id, ie, iff⟩ := hI
    have ex := rgL_get hx
    have xr := mem_rgL.mp (List.mem_of_getElem? hx)
    have hi : i ≤ 5 := by omega
    refine q_asgE (clNx (m := x) (by omega) rfl (ev_var rfl)) fun d ⟨a, e, a1, a2⟩ => ?_
    subst e
    have hs : ss[a.toNat]? = some (ss.getD a.toNat []) := by
      rw [List.getD_eq_getElem?_getD, List.getElem?_eq_getElem (show a.toNat < ss.length by omega)] <;> rfl
    obtain ⟨w1, w2⟩ := ib _ (List.mem_of_getElem? hs)
    generalize ss.getD a.toNat [] = s1 at hs w1 w2
    have w1f := w1.few
    refine q_own (A := fun ds => ∃ s, ds = zD s ∧ s.Sublist s1) ((fun c Z H σ sr Q k => ef_lc (src_tup (f := I) (xs := s1) (ev_ixO (i := 3) (ds := ss.map scD) rfl (ev_var rfl) (at_map (f := scD) a1 hs))) (by omega) (fun i acc => ∃ s, acc = zD s ∧ s.Sublist (s1.take i)) ⟨[], rfl, by simp⟩ (fun j y acc hy ⟨s, e, b⟩ => ⟨fun _ => True, et_gt (clNx (m := 3) (by decide) rfl ev_c), fun _ => (ev_var (d := I y) rfl).imp fun d hd => ⟨s ++ [y], by rw [hd, e, zD_1], by rw [take_succ_get hy]; exact b.append (List.Sublist.refl _)⟩, fun _ => ⟨s, e, by rw [take_succ_get hy]; exact b.trans (List.sublist_append_left ..)⟩⟩) c Z H σ sr Q fun ds xs H2 p ⟨s, e, b⟩ => k ds xs H2 p ⟨s, e, by rw [List.take_length] at b; exact b⟩)) fun ds ⟨s, e, b⟩ => ?_
    subst e
    have ws := w1.sub b
    have wl : ∀ v ∈ s, v < fr := fun v hv => w2 v (b.subset hv)
    have el := zD_len s
    have wsf := ws.few
    refine es_seq (Ψ := fun o => ∃ s2 fr2, o = .nx [.s, .d (I m), .d (I n), .o (.ls (ss.map scD)), .o (.ls (es.map pD)), .d (I fr2), .d (I x), .d (I a), .o (.ls (zD s2)), .un] ∧ WFs s2 ∧ (∀ v ∈ s2, v < fr2) ∧ fr ≤ fr2 ∧ fr2 ≤ 6) ?_ ?_
    · refine es_if (P := fun b => b = true → fr < 6 ∧ s.length < 3) (ET.weak (et_and (P1 := fun b => b = decide (fr < 6)) (P2 := fun b => b = true → s.length < 3) (eb_test (ev_op (ev_var rfl) ev_c rd_ltI)) (fun _ => et_and (P1 := fun b => b = decide (((zD s).length : Int) < 3)) (P2 := fun _ => True) (eb_test (ev_op (ev_cb1 (ev_var (d := .l (zD s)) rfl) cd_lenL) ev_c rd_ltI)) (fun _ => et_eq (clNx (m := 2) (by decide) rfl ev_c)) (fun _ z => Bool.noConfusion z) fun _ e _ _ => by have := of_decide_eq_true e.symm; omega) (fun _ z => Bool.noConfusion z) fun b e h2 hb => ⟨of_decide_eq_true e.symm, h2 hb⟩)) (fun h3 => ?_) (fun _ => ?_)
      · obtain ⟨f1, f2⟩ := h3 rfl
        refine q_app (P := fun d => d = I fr) (ds := zD s) rfl (ev_var rfl) (by omega) fun d hd => ?_
        subst hd
        refine es_asg (P := fun d => d = I (fr + 1)) (ev_op (ev_var rfl) ev_c rd_addI) fun d hd => ?_
        subst hd
        refine ⟨s ++ [fr], fr + 1, by rw [← zD_1]; rfl, ⟨List.pairwise_append.mpr ⟨ws.up, List.pairwise_singleton .., fun p hp q hq => ?_⟩, fun v hv => ?_, by rw [List.length_append, List.length_singleton]; omega⟩, fun v hv => ?_, by omega, by omega⟩
        · have : q = fr := by simpa using hq
          rw [this]
          exact wl p hp
        · rcases List.mem_append.mp hv with hv | hv
          · exact ws.rg v hv
          · have : v = fr := by simpa using hv
            omega
        · rcases List.mem_append.mp hv with hv | hv
          · have := wl v hv; omega
          · have : v = fr := by simpa using hv
            omega
      · exact es_next ⟨s, fr, rfl, ws, wl, Int.le_refl _, ic.2⟩
    · rintro o ⟨s2, fr2, rfl, g1, g2, g3, g4⟩
      refine es_freeze (i := 8) rfl ?_
      refine q_app (P := fun d => d = scD s2) (ds := ss.map scD) rfl (EV.is (ev_cb1 (ev_cb1 (ev_var (d := .l (zD s2)) rfl) cd_sortL) cd_tupL) (by rw [srt_id g1.up])) (by rw [List.length_map]; omega) fun d hd => ?_
      subst hd
      refine es_app (P := fun d => d = pD (a, x)) (ds := es.map pD) rfl (ev_tup (el_cons (ev_var rfl) (el_cons (ev_var rfl) el_nil)) (by show 2 ≤ 100000; decide)) (by rw [List.length_map]; omega) fun d hd => ?_
      subst hd
      refine ⟨(ss ++ [s2], es ++ [(a, x)], fr2), ⟨?_, fun z hz => ?_, by show 4 ≤ fr2 ∧ fr2 ≤ 6; omega, ?_, fun z hz => ?_, List.pairwise_append.mpr ⟨iff, List.pairwise_singleton .., fun p hp q hq => ?_⟩⟩, ?_⟩
      · show (ss ++ [s2]).length = 1 + (i + 1)
        rw [List.length_append, List.length_singleton]; omega
      · rcases List.mem_append.mp hz with hz | hz
        · exact ⟨(ib z hz).1, fun v hv => Int.lt_of_lt_of_le ((ib z hz).2 v hv) g3⟩
        · rw [show z = s2 by simpa using hz]
          exact ⟨g1, g2⟩
      · show (es ++ [(a, x)]).length = i + 1
        rw [List.length_append, List.length_singleton]; omega
      · rcases List.mem_append.mp hz with hz | hz
        · obtain ⟨b1, b2, b3⟩ := ie z hz
          exact ⟨b1, b2, by omega⟩
        · rw [show z = (a, x) by simpa using hz]
          exact ⟨a1, a2, by show x < _; omega⟩
      · rw [show q = (a, x) by simpa using hq]
        have := (ie p hp).2.2
        show p.2 < x
        omega
      · have e1 : (ss ++ [s2]).map scD = ss.map scD ++ [scD s2] := by rw [List.map_append]; rfl
        have e2 : (es ++ [(a, x)]).map pD = es.map pD ++ [pD (a, x)] := by rw [List.map_append]; rfl
        show Wkn _ [.s, .d (I m), .d (I n), .o (.ls ((ss ++ [s2]).map scD)), .o (.ls ((es ++ [(a, x)]).map pD)), .d (I fr2), .un, .un, .un, .un]
        rw [e1, e2]
        exact wS (wS (wS (wS (wS (wS (wU (wU (wU (wU wN)))))))))
  · have e : (rgL 1 n).length = (n - 1).toNat := rgL_len
    rw [e] at hI
    exact ⟨_, z.1, z.2.1, z.2.2, rfl, hI, by omega⟩
  · rintro o ⟨i, ss, es, fr, rfl, ⟨ia, ib, ic, id, ie, iff⟩, hn⟩
    refine s_ret (d := gD ⟨2, ss, srtP es⟩) (ev_tup (el_cons ev_c (el_cons (ev_cb1 (ev_var (d := .l (ss.map scD)) rfl) cd_tupL) (el_cons (ev_cb1 (ev_cb1 (ev_var (d := .l (es.map pD)) rfl) cd_sortP) cd_tupL) el_nil))) (by show 3 ≤ 100000; decide)) ⟨_, rfl, ⟨by show 2 ≤ (2 : Int) ∧ (2 : Int) ≤ 3; decide, by show 1 ≤ ss.length; omega, by show ss.length ≤ 5; omega, fun s hs => (ib s hs).1, fun e he => ?_, srtP_strict iff, ?_⟩, by show (ss.length : Int) ≤ m; omega⟩
    · obtain ⟨b1, b2, b3⟩ := ie e ((srtP_perm es).mem_iff.mp he)
      exact ⟨b1, b2, by show e.2 < (ss.length : Int); omega⟩
    · show (srtP es).length ≤ 30
      rw [(srtP_perm es).length_eq]
      omega
/-! ### some graph -/
abbrev spSG : Sp := spS (fun m : Int => [I m]) (fun m => 1 ≤ m ∧ m ≤ 5) OGr
theorem clSG {j : Nat} {m : Int} (hm : 1 ≤ m ∧ m ≤ 5) (hj : ρ[j]? = some .s) (h : EV te ρ (I m)) : EE (tCall spSG [] E (tCons (tVar j) (tCons te tNil))) ρ (OGr m) := ee_callS (te := te) (O := OGr) m hm hj (el_cons h el_nil)
theorem WF.less {g : Gr} (h : WF g) (k : Nat) : WF ⟨g.vals, g.sc, g.es.take k ++ g.es.drop (k + 1)⟩ := by
  have b : (g.es.take k ++ g.es.drop (k + 1)).Sublist g.es := by
    rw [← List.eraseIdx_eq_take_drop_succ]
    exact List.eraseIdx_sublist ..
  exact ⟨h.vals, h.n1, h.n5, h.sc, fun e he => h.es e (b.subset he), h.up.sublist b, Nat.le_trans b.length_le h.few⟩
theorem ok_l_some_graph (T : Txt K mg) : FnOk P w K mg base CX0 4 T.f_l_some_graph T.d_l_some_graph P_l_some_graph spSG := by
  refine okS T.F_l_some_graph sc_l_some_graph (fun _ => rfl) (by decide) fun cdv A' outer s H E hr => ⟨_, (pss_cons (ps_if (pt_cmpR op_eq (pe_call (ok_l_next T) (hr.mono (by decide)) rfl T.g_l_next T.F_l_next.kp T.bd_l_next .nil pass0 (pa_cons (pv 0) (pa_cons pe_int pa_nil))) pe_int (nomark _))
      (pss_one (ps_ret (pe_call (ok_l_any_graph T) (hr.mono (by decide)) rfl T.g_l_any_graph T.F_l_any_graph.kp T.bd_l_any_graph .nil pass0 (pa_cons (pv 0) (pa_cons (pv 1) pa_nil)))))
      pss_nil)
    (pss_cons (ps_set (i := 2) sc_l_some_graph.nd rfl (Or.inl rfl) (pe_call (ok_l_tree T) (hr.mono (by decide)) rfl T.g_l_tree T.F_l_tree.kp T.bd_l_tree .nil pass0 (pa_cons (pv 0) (pa_cons (pv 1) pa_nil))))
    (pss_cons (ps_if (PW.pt (pw_and (pt_cmpR op_eq (pe_call (ok_l_next T) (hr.mono (by decide)) rfl T.g_l_next T.F_l_next.kp T.bd_l_next .nil pass0 (pa_cons (pv 0) (pa_cons pe_int pa_nil))) pe_int (nomark _)) (pw_and1 (pt_truth (pe_ix (ix_any (K := K)) (pv 2) pe_int (fun _ _ => rfl)) (by intro _; rfl)))))
      (pss_cons (ps_set (i := 3) sc_l_some_graph.nd rfl (Or.inl rfl) (pe_call (ok_l_next T) (hr.mono (by decide)) rfl T.g_l_next T.F_l_next.kp T.bd_l_next .nil pass0 (pa_cons (pv 0) (pa_cons (pe_callB (call_lenA (K := K)) (by rfl) T.b_len bo_len (pa_cons (pe_ix (ix_any (K := K)) (pv 2) pe_int (fun _ _ => rfl)) pa_nil)) pa_nil))))
      (pss_one (ps_set (i := 2) sc_l_some_graph.nd rfl (Or.inl rfl) (pe_tup (pa_cons (pe_ix (ix_any (K := K)) (pv 2) pe_int (fun _ _ => rfl)) (pa_cons (pe_ix (ix_any (K := K)) (pv 2) pe_int (fun _ _ => rfl)) (pa_cons (pe_op (op_addA (K := K)) (pe_slice (sl_any (K := K)) (pe_ix (ix_any (K := K)) (pv 2) pe_int (fun _ _ => rfl)) po_none (po_some (pv 3))) (pe_slice (sl_any (K := K)) (pe_ix (ix_any (K := K)) (pv 2) pe_int (fun _ _ => rfl)) (po_some (pe_op (op_addA (K := K)) (pv 3) pe_int)) po_none)) pa_nil)))))))
      pss_nil)
    (pss_one (ps_ret (pv 2)))))), fun m hm => ?_⟩
  have hm : 1 ≤ m ∧ m ≤ 5 := hm
  refine q_ifE (et_eq (clNx (m := 2) (by decide) rfl ev_c)) (fun _ => q_ret (es_ret (P := OGr m) (clAG hm rfl (ev_var rfl)) fun d h => h)) fun _ => q_next ?_
  refine q_asgE (clTr hm rfl (ev_var rfl)) fun d ⟨g, e, h, hl⟩ => ?_
  subst e
  have hf := h.few
  refine es_seq (Ψ := fun o => ∃ g' x3, o = .nx [.s, .d (I m), .d (gD g'), x3] ∧ WF g' ∧ (g'.sc.length : Int) ≤ m) ?_ ?_
  · have etr : (truD (.t (g.es.map pD))) = !g.es.isEmpty := by
      show (!(g.es.map pD).isEmpty) = _
      cases g.es <;> rfl
    refine es_if (P := fun b => b = true → g.es.isEmpty = false) (et_and (P1 := fun _ => True) (P2 := fun b => b = !g.es.isEmpty) (et_eq (clNx (m := 3) (by decide) rfl ev_c)) (fun _ => EB.is (eb_tru (ev_g2 (g := g) (ev_var rfl)) trivial) etr) (fun _ z => Bool.noConfusion z) fun b _ e hb => by rw [hb] at e; cases hq : g.es.isEmpty with | true => rw [hq] at e; cases e | false => rfl) (fun hq => ?_) (fun _ => ?_)
    · have hq := hq rfl
      have hp : 0 < g.es.length := by
        cases he : g.es with
        | nil => rw [he] at hq; cases hq
        | cons _ _ => exact Nat.succ_pos _
      refine q_asgE (clNx (m := ((g.es.length : Nat) : Int)) (by omega) rfl (EV.is (ev_cb1 (ev_g2 (g := g) (ev_var rfl)) cd_lenT) (by rw [List.length_map]))) fun d ⟨a, e, a1, a2⟩ => ?_
      subst e
      have ex : (a + 1).toNat = a.toNat + 1 := by omega
      have l1 : (g.es.take a.toNat).length ≤ 30 := by rw [List.length_take]; omega
      have l2 : (g.es.drop (a.toNat + 1)).length ≤ 30 := by rw [List.length_drop]; omega
      have v2 : ∀ {ρ : Rho}, ρ[2]? = some (.d (gD g)) → EV (tVar 2) ρ (gD g) := fun h => ev_var h
      refine es_asg (P := fun d => d = gD ⟨g.vals, g.sc, g.es.take a.toNat ++ g.es.drop (a.toNat + 1)⟩) (EV.is (ev_tup (el_cons (ev_op (v2 rfl) ev_c (rd_ixT rfl)) (el_cons (ev_g1 (g := g) (v2 rfl)) (el_cons (ev_op (EV.is (ev_sl (ev_g2 (g := g) (v2 rfl)) eo_none (eo_some (i := a) (ev_var rfl)) sd_T) (by rw [cut_take a1, ← List.map_take])) (EV.is (ev_sl (ev_g2 (g := g) (v2 rfl)) (eo_some (i := a + 1) (ev_op (ev_var rfl) ev_c rd_addI)) eo_none sd_T) (by rw [cut_drop (by omega), ex, ← List.map_drop])) (rd_addT (by rw [List.length_map, List.length_map]; omega))) el_nil))) (by show 3 ≤ 100000; decide)) (by rw [← List.map_append]; rfl)) fun d hd => ?_
      subst hd
      exact ⟨_, _, rfl, h.less _, hl⟩
    · exact es_next ⟨g, _, rfl, h, hl⟩
  · rintro o ⟨g', x3, rfl, h', hl'⟩
    exact s_ret (ev_var rfl) ⟨g', rfl, h', hl'⟩
/-! ### the stream -/
abbrev spSm : Sp := fun vs H Q _ => ∃ (p : Addr) (ns : List Int), vs = [.ref p] ∧ SqL K H p (ns.map V.int) ∧ ∀ l q : Addr, H l = none → q ≠ l → H q = none → Q (.ref q) (upd (upd H l (.lst (ns.map V.int))) q (.lst [.ref l, .int 0, .int 0]))
theorem ok_l_stream (T : Txt K mg) : FnOk P w K mg base CX0 1 T.f_l_stream T.d_l_stream P_l_stream (spSm (K := K)) := by
  refine okRaw T.F_l_stream sc_l_stream (fun vs H Q E h => ?_) fun cdv A' outer s H E hr => ⟨_, (pss_one (ps_ret (pe_lst (pa_cons (pe_callTy (call_lstA (K := K)) (by rfl) T.b_list bo_list (pa_cons (pv 0) pa_nil)) (pa_cons pe_int (pa_cons pe_int pa_nil)))))), fun vs Q h => ?_⟩
  · obtain ⟨p, ns, rfl, _⟩ := h
    rfl
  obtain ⟨p, ns, rfl, hs, kk⟩ := h
  refine ⟨.ref p, rfl, p, _, rfl, .inl hs, fun l hl => ⟨sz (by show 3 ≤ 100000; decide), fun q hq => ?_⟩⟩
  have n : q ≠ l := fun z => by rw [z, upd_same] at hq; cases hq
  rw [upd_ne n] at hq
  exact kk l q hl n hq
end
end TT

set_option maxRecDepth 100000
set_option maxHeartbeats 40000000
/-! Mf: the finite checks -/
namespace TT
open PySem PySem.Spec PyProof.Rows
open L2
open Dl
def subs {α : Type} : List α → List (List α)
  | [] => [[]]
  | x :: xs => subs xs ++ (subs xs).map (x :: ·)
def pairs (n : Int) : List (Int × Int) := (rgL 0 n).flatMap fun a => (rgL (a + 1) n).map fun b => (a, b)
def bse (es : List (Int × Int)) (o : List Int) : Bool := (rgL 1 o.length).all fun k => decide (((nearB es o k).length : Int) = 1)
def condV (es : List (Int × Int)) (o S : List Int) : Bool := (rgL 1 o.length).all fun k => !decide (o.getD k.toNat 0 ∈ S) || (!((o.take k.toNat).any fun x => decide (x ∈ S)) || decide ((nearB es o k).getD 0 0 ∈ S))
def chA (n : Int) (E : List (Int × Int)) : Bool := (hasC n E).isSome && (decide (hasC n E = some false) == (cycs E).isEmpty) && (subs (rgL 0 n)).all fun S => S.isEmpty || ((hang E (S.getD 0 0) S).isSome && (conn E S == lconn E S))
def chB (n : Int) (E : List (Int × Int)) : Bool := if ((cycs E).isEmpty && lconn E (rgL 0 n)) = true then (rgL 0 n).all fun a => (ords n).any fun o => decide (o.getD 0 0 = a) && bse E o else (ords n).all fun o => !bse E o
def chC (n : Int) (E : List (Int × Int)) : Bool := (ords n).all fun o => !bse E o || (subs (rgL 0 n)).all fun S => S.isEmpty || (condV E o S == lconn E S)
theorem ch1A : (subs (pairs 1)).all (chA 1) = true := by decide +kernel
theorem ch2A : (subs (pairs 2)).all (chA 2) = true := by decide +kernel
theorem ch3A : (subs (pairs 3)).all (chA 3) = true := by decide +kernel
theorem ch1B : (subs (pairs 1)).all (chB 1) = true := by decide +kernel
theorem ch2B : (subs (pairs 2)).all (chB 2) = true := by decide +kernel
theorem ch3B : (subs (pairs 3)).all (chB 3) = true := by decide +kernel
theorem ch1C : (subs (pairs 1)).all (chC 1) = true := by decide +kernel
theorem ch2C : (subs (pairs 2)).all (chC 2) = true := by decide +kernel
theorem ch3C : (subs (pairs 3)).all (chC 3) = true := by decide +kernel
theorem ch4A : (subs (pairs 4)).all (chA 4) = true := by decide +kernel
theorem ch4B : (subs (pairs 4)).all (chB 4) = true := by decide +kernel
theorem ch4C : (subs (pairs 4)).all (chC 4) = true := by decide +kernel
def chD (n : Int) : Bool := (ords n).all fun o => areN n (.t (o.map V.int)) && (decide (srt o = rgL 0 n) && (decide ((o.length : Int) = n) && decide ((o.map V.int).length ≤ 100)))
theorem ch1D : chD 1 = true := by decide +kernel
theorem ch2D : chD 2 = true := by decide +kernel
theorem ch3D : chD 3 = true := by decide +kernel
theorem ch4D : chD 4 = true := by decide +kernel
theorem four {p : Int → Prop} {n : Nat} (h1 : 1 ≤ n) (h4 : n ≤ 4) (a : p 1) (b : p 2) (c : p 3) (d : p 4) : p (n : Int) := by
  have h : (n : Int) = 1 ∨ (n : Int) = 2 ∨ (n : Int) = 3 ∨ (n : Int) = 4 := by omega
  rcases h with e | e | e | e
  · rw [e]; exact a
  · rw [e]; exact b
  · rw [e]; exact c
  · rw [e]; exact d
/-! ### what is drawn is among these -/
theorem subs_filter {α : Type} (p : α → Bool) : ∀ xs : List α, xs.filter p ∈ subs xs
  | [] => List.mem_singleton.mpr rfl
  | x :: xs => by
    have ih := subs_filter p xs
    unfold subs
    rw [List.filter_cons]
    split
    · exact List.mem_append_right _ (List.mem_map.mpr ⟨_, ih, rfl⟩)
    · exact List.mem_append_left _ ih
theorem subs_self {α : Type} : ∀ xs : List α, xs ∈ subs xs
  | [] => List.mem_singleton.mpr rfl
  | x :: xs => List.mem_append_right _ (List.mem_map.mpr ⟨_, subs_self xs, rfl⟩)
theorem mem_pairs {n : Int} {e : Int × Int} : e ∈ pairs n ↔ 0 ≤ e.1 ∧ e.1 < e.2 ∧ e.2 < n := by
  unfold pairs
  rw [List.mem_flatMap]
  constructor
  · rintro ⟨a, ha, hb⟩
    obtain ⟨b, hb2, rfl⟩ := List.mem_map.mp hb
    have h1 := mem_rgL.mp ha
    have h2 := mem_rgL.mp hb2
    exact ⟨h1.1, by show a < b; omega, h2.2⟩
  · rintro ⟨h1, h2, h3⟩
    exact ⟨e.1, mem_rgL.mpr ⟨h1, by omega⟩, List.mem_map.mpr ⟨e.2, mem_rgL.mpr ⟨by omega, h3⟩, rfl⟩⟩
def pwP (n : Int) : Prop := (pairs n).Pairwise fun a b => HT.lexLt [a.1, a.2] [b.1, b.2] = true
theorem pw_pairs {n : Nat} (h1 : 1 ≤ n) (h4 : n ≤ 4) : pwP n := four (p := pwP) h1 h4 (by unfold pwP; decide +kernel) (by unfold pwP; decide +kernel) (by unfold pwP; decide +kernel) (by unfold pwP; decide +kernel)
theorem lex_le {a b : Int × Int} (h : HT.lexLt [a.1, a.2] [b.1, b.2] = true) : leP a b = true ∧ a ≠ b := by
  have h := lex2.mp h
  refine ⟨leP_iff.mpr (by omega), fun e => ?_⟩
  rw [e] at h
  omega
theorem lex_sorted {xs ys : List (Int × Int)} (h1 : xs.Pairwise fun a b => HT.lexLt [a.1, a.2] [b.1, b.2] = true) (h2 : ys.Pairwise fun a b => HT.lexLt [a.1, a.2] [b.1, b.2] = true) (m : ∀ e, e ∈ xs ↔ e ∈ ys) : xs = ys := by
  have n1 : xs.Nodup := h1.imp fun h => (lex_le h).2
  have n2 : ys.Nodup := h2.imp fun h => (lex_le h).2
  have p := (List.perm_ext_iff_of_nodup n1 n2).mpr m
  exact (srtP_is p (h1.imp fun h => (lex_le h).1)).trans (srtP_is (List.Perm.refl _) (h2.imp fun h => (lex_le h).1)).symm
section
variable {g : Gr} (h : WF g) (h4 : g.sc.length ≤ 4)
include h h4
theorem es_in : g.es ∈ subs (pairs g.sc.length) := by
  have e : g.es = (pairs g.sc.length).filter fun e => decide (e ∈ g.es) := lex_sorted h.up ((pw_pairs h.n1 h4).sublist List.filter_sublist) fun e => by
    rw [List.mem_filter, decide_eq_true_iff, mem_pairs]
    exact ⟨fun z => ⟨h.es e z, z⟩, fun z => z.2⟩
  have := subs_filter (fun e => decide (e ∈ g.es)) (pairs g.sc.length)
  rw [← e] at this
  exact this
theorem allA : chA g.sc.length g.es = true := List.all_eq_true.mp (four (p := fun n => (subs (pairs n)).all (chA n) = true) h.n1 h4 ch1A ch2A ch3A ch4A) _ (es_in h h4)
theorem allB : chB g.sc.length g.es = true := List.all_eq_true.mp (four (p := fun n => (subs (pairs n)).all (chB n) = true) h.n1 h4 ch1B ch2B ch3B ch4B) _ (es_in h h4)
theorem allC : chC g.sc.length g.es = true := List.all_eq_true.mp (four (p := fun n => (subs (pairs n)).all (chC n) = true) h.n1 h4 ch1C ch2C ch3C ch4C) _ (es_in h h4)
theorem allD {o : List Int} (ho : o ∈ ords g.sc.length) : areN g.sc.length (.t (o.map V.int)) = true ∧ srt o = nds g ∧ (o.length : Int) = g.sc.length ∧ (o.map V.int).length ≤ 100 := by
  have h := List.all_eq_true.mp (four (p := fun n => chD n = true) h.n1 h4 ch1D ch2D ch3D ch4D) o ho
  rw [Bool.and_eq_true, Bool.and_eq_true, Bool.and_eq_true, decide_eq_true_iff, decide_eq_true_iff, decide_eq_true_iff] at h
  exact h
theorem cA : (∃ b, hasC g.sc.length g.es = some b) ∧ decide (hasC g.sc.length g.es = some false) = (cycs g.es).isEmpty ∧ ∀ S ∈ subs (nds g), S ≠ [] → (∃ r, hang g.es (S.getD 0 0) S = some r) ∧ conn g.es S = lconn g.es S := by
  have hA := allA h h4
  unfold chA at hA
  rw [Bool.and_eq_true, Bool.and_eq_true] at hA
  obtain ⟨⟨a1, a2⟩, a3⟩ := hA
  refine ⟨Option.isSome_iff_exists.mp a1, eq_of_beq a2, fun S hS hn => ?_⟩
  have h3 := List.all_eq_true.mp a3 S hS
  rw [Bool.or_eq_true, Bool.and_eq_true] at h3
  rcases h3 with h3 | ⟨b1, b2⟩
  · exact absurd (List.isEmpty_iff.mp h3) hn
  · exact ⟨Option.isSome_iff_exists.mp b1, eq_of_beq b2⟩
theorem hav_in (v : Int) : hav g v ∈ subs (nds g) := subs_filter _ _
theorem hav_ne {v : Int} (hv : v ∈ vrs g) : hav g v ≠ [] := List.length_pos_iff.mp (hav_pos hv)
theorem nds_ne : nds g ≠ [] := List.length_pos_iff.mp (by rw [nds_len]; exact h.n1)
theorem okT_of : okT g := by
  obtain ⟨a, _, b⟩ := cA h h4
  have c := (b _ (subs_self _) (nds_ne h h4)).1
  rw [nds_0 h] at c
  exact ⟨h, a, c, fun v hv => (b _ (hav_in h h4 v) (hav_ne h h4 hv)).1⟩
theorem all_vrs {p q : Int → Bool} (e : ∀ v ∈ vrs g, p v = q v) : (vrs g).all p = (vrs g).all q := by
  rw [Bool.eq_iff_iff, List.all_eq_true, List.all_eq_true]
  exact ⟨fun z v hv => by rw [← e v hv]; exact z v hv, fun z v hv => by rw [e v hv]; exact z v hv⟩
/-- the program's junction trees are the law's -/
theorem tree_eq : treeP g = treeL g := by
  obtain ⟨_, a, b⟩ := cA h h4
  unfold treeP treeL
  rw [a, (b _ (subs_self _) (nds_ne h h4)).2, all_vrs h h4 fun v hv => (b _ (hav_in h h4 v) (hav_ne h h4 hv)).2]
/-! ### orders -/
theorem rgL_cons {n : Nat} (h : 1 ≤ n) : rgL 0 n = 0 :: rgL 1 n := by
  have e : ∀ (lo hi : Int), lo ≤ hi → True := fun _ _ _ => trivial
  obtain ⟨m, rfl⟩ : ∃ m, n = m + 1 := ⟨n - 1, by omega⟩
  unfold rgL
  rw [show (((m + 1 : Nat) : Int) - 0).toNat = m + 1 by omega, show (((m + 1 : Nat) : Int) - 1).toNat = m by omega, List.range_succ_eq_map, List.map_cons, List.map_map]
  congr 1
  apply List.map_congr_left
  intro x _
  show (0 : Int) + ((x + 1 : Nat) : Int) = 1 + (x : Int)
  omega
theorem ns_map {o : List Int} : VD.ns (.t (o.map V.int)) = o := by
  show (o.map V.int).map toI = o
  rw [List.map_map]
  exact List.map_id o
theorem ordL_all {o : List Int} (ho : o ∈ ords g.sc.length) : ordL g o = (rgL 1 o.length).all fun k => okAt g o k := by
  unfold ordL
  rw [(allD h h4 ho).2.1, decide_eq_true rfl, Bool.true_and]
/-- the program's orders are the law's -/
theorem ord_eq {o : List Int} (ho : o ∈ ords g.sc.length) : ordP g (.t (o.map V.int)) = ordL g o := by
  obtain ⟨a, b, c, d⟩ := allD h h4 ho
  have h1 := h.n1
  rw [ordL_all h h4 ho]
  unfold ordP
  rw [ns_map h h4, a, decide_eq_true (show o.length = g.sc.length by omega), rgL_cons h h4 (n := o.length) (by omega), List.all_cons, Bool.true_and, Bool.true_and, decide_eq_true rfl, Bool.true_or, Bool.true_and]
  rw [Bool.eq_iff_iff, List.all_eq_true, List.all_eq_true]
  have e : ∀ k ∈ rgL 1 o.length, (decide (k = 0) || okAt g o k) = okAt g o k := fun k hk => by
    have := mem_rgL.mp hk
    rw [decide_eq_false (show ¬ k = 0 by omega), Bool.false_or]
  exact ⟨fun z v hv => by rw [← e v hv]; exact z v hv, fun z v hv => by rw [e v hv]; exact z v hv⟩
theorem ord_mem {o : List Int} (ho : o ∈ ords g.sc.length) {x : Int} (hx : x ∈ o) : x ∈ nds g := by
  rw [← (allD h h4 ho).2.1]
  exact (srt_perm o).mem_iff.mpr hx
theorem mem_hav {v x : Int} : x ∈ hav g v ↔ x ∈ nds g ∧ v ∈ sco g x := by
  unfold hav
  rw [List.mem_filter, decide_eq_true_iff]
/-- an order is good if its nodes hang one by one, and each variable's nodes do -/
theorem ord_split {o : List Int} (ho : o ∈ ords g.sc.length) : ordL g o = (bse g.es o && (vrs g).all fun v => condV g.es o (hav g v)) := by
  rw [ordL_all h h4 ho, Bool.eq_iff_iff, Bool.and_eq_true]
  unfold bse condV
  rw [List.all_eq_true, List.all_eq_true, List.all_eq_true]
  have near : ∀ k, 1 ≤ (nearB g.es o k).length → (nearB g.es o k).getD 0 0 ∈ nds g := fun k hk => by
    have hm : (nearB g.es o k).getD (0 : Int).toNat 0 ∈ nearB g.es o k := getD_mem (Int.le_refl 0) (by omega)
    exact ord_mem h h4 ho (List.mem_of_mem_take (of_decide_eq_true (List.mem_filter.mp hm).2))
  constructor
  · intro z
    refine ⟨fun k hk => ?_, fun v hv => List.all_eq_true.mpr fun k hk => ?_⟩
    · have := z k hk
      unfold okAt at this
      rw [Bool.and_eq_true] at this
      exact this.1
    · have hz := z k hk
      unfold okAt at hz
      rw [Bool.and_eq_true] at hz
      obtain ⟨z1, z2⟩ := hz
      have z1 := of_decide_eq_true z1
      by_cases c1 : o.getD k.toNat 0 ∈ hav g v
      · rw [decide_eq_true c1, Bool.not_true, Bool.false_or]
        by_cases c2 : ((o.take k.toNat).any fun x => decide (x ∈ hav g v)) = true
        · rw [c2, Bool.not_true, Bool.false_or]
          obtain ⟨x, hx, hxv⟩ := List.any_eq_true.mp c2
          have z3 := List.all_eq_true.mp (List.all_eq_true.mp z2 x hx) v (List.mem_filter.mpr ⟨((mem_hav h h4).mp c1).2, decide_eq_true ((mem_hav h h4).mp (of_decide_eq_true hxv)).2⟩)
          exact decide_eq_true ((mem_hav h h4).mpr ⟨near k (by omega), of_decide_eq_true z3⟩)
        · rw [Bool.eq_false_iff.mpr c2]
          rfl
      · rw [decide_eq_false c1]
        rfl
  · rintro ⟨z1, z2⟩ k hk
    have hk2 := mem_rgL.mp hk
    unfold okAt
    rw [Bool.and_eq_true]
    refine ⟨z1 k hk, List.all_eq_true.mpr fun x hx => List.all_eq_true.mpr fun v hv => ?_⟩
    obtain ⟨v1, v2⟩ := List.mem_filter.mp hv
    have v2 := of_decide_eq_true v2
    have hk3 : o.getD k.toNat 0 ∈ nds g := ord_mem h h4 ho (getD_mem (by omega) hk2.2)
    have hvv : v ∈ vrs g := sset_mem.mpr (List.mem_flatten.mpr ⟨_, sco_mem (nds_mem.mp hk3), v1⟩)
    have z3 := List.all_eq_true.mp (z2 v hvv) k hk
    have c2 : ((o.take k.toNat).any fun x => decide (x ∈ hav g v)) = true := List.any_eq_true.mpr ⟨x, hx, decide_eq_true ((mem_hav h h4).mpr ⟨ord_mem h h4 ho (List.mem_of_mem_take hx), v2⟩)⟩
    rw [decide_eq_true ((mem_hav h h4).mpr ⟨hk3, v1⟩), c2, Bool.not_true, Bool.false_or, Bool.false_or] at z3
    exact decide_eq_true ((mem_hav h h4).mp (of_decide_eq_true z3)).2
theorem cC {o : List Int} (ho : o ∈ ords g.sc.length) (hb : bse g.es o = true) : ((vrs g).all fun v => condV g.es o (hav g v)) = (vrs g).all fun v => lconn g.es (hav g v) := by
  have hC := List.all_eq_true.mp (allC h h4) o ho
  rw [hb, Bool.not_true, Bool.false_or] at hC
  refine all_vrs h h4 fun v hv => ?_
  have h3 := List.all_eq_true.mp hC _ (hav_in h h4 v)
  rw [Bool.or_eq_true] at h3
  rcases h3 with h3 | h3
  · exact absurd (List.isEmpty_iff.mp h3) (hav_ne h h4 hv)
  · exact eq_of_beq h3
/-- the first nodes of the good orders -/
theorem firsts : sset (((ords g.sc.length).filter (ordL g)).map fun o => o.getD 0 0) = if treeL g = true then nds g else [] := by
  have hB := allB h h4
  unfold chB at hB
  cases ht : treeL g with
  | true =>
    rw [if_pos rfl]
    have ht2 := ht
    unfold treeL at ht2
    rw [Bool.and_eq_true] at ht2
    obtain ⟨t1, t2⟩ := ht2
    have t1 : ((cycs g.es).isEmpty && lconn g.es (rgL 0 g.sc.length)) = true := t1
    rw [if_pos t1] at hB
    refine (sset_is (fun k => ?_) ?_).symm
    · rw [List.mem_map]
      constructor
      · intro hk
        obtain ⟨o, ho, z⟩ := List.any_eq_true.mp (List.all_eq_true.mp hB k hk)
        rw [Bool.and_eq_true] at z
        obtain ⟨z1, z2⟩ := z
        refine ⟨o, List.mem_filter.mpr ⟨ho, ?_⟩, of_decide_eq_true z1⟩
        rw [ord_split h h4 ho, z2, Bool.true_and, cC h h4 ho z2]
        exact t2
      · rintro ⟨o, ho, rfl⟩
        have ho := (List.mem_filter.mp ho).1
        have hl := (allD h h4 ho).2.2.1
        have h1 := h.n1
        exact ord_mem h h4 ho (getD_mem (k := 0) (Int.le_refl 0) (by omega))
    · unfold nds rgL
      rw [List.pairwise_map]
      exact List.pairwise_lt_range.imp fun z => by omega
  | false =>
    rw [if_neg (by decide)]
    have e : (ords g.sc.length).filter (ordL g) = [] := List.filter_eq_nil_iff.mpr fun o ho hz => by
      rw [ord_split h h4 ho, Bool.and_eq_true] at hz
      obtain ⟨z1, z2⟩ := hz
      rw [cC h h4 ho z1] at z2
      have hn : ¬ ((cycs g.es).isEmpty && lconn g.es (rgL 0 g.sc.length)) = true := fun t => by
        have : treeL g = true := by unfold treeL; rw [Bool.and_eq_true]; exact ⟨t, z2⟩
        rw [ht] at this
        cases this
      rw [if_neg hn] at hB
      have := List.all_eq_true.mp hB o ho
      rw [z1] at this
      cases this
    rw [e]
    rfl
end
end TT

set_option maxRecDepth 100000
set_option maxHeartbeats 4100000
/-! F9: the law -/
namespace TT
open PySem PySem.Spec PyProof.Rows
open L2
open Dl
open Evl (Ex)
def chE (n : Int) : Prop := (ords n).length ≤ 24
theorem ords_few {n : Nat} (h1 : 1 ≤ n) (h4 : n ≤ 4) : (ords n).length ≤ 24 := four (p := chE) h1 h4 (by unfold chE; decide +kernel) (by unfold chE; decide +kernel) (by unfold chE; decide +kernel) (by unfold chE; decide +kernel)
def two : Gr := ⟨2, [[0], [0, 1]], [(0, 1)]⟩
theorem wf_two : WF two where
  vals := by decide
  n1 := by decide
  n5 := by decide
  sc := fun s hs => by
    have hs : s = [0] ∨ s = [0, 1] := by simpa [two] using hs
    rcases hs with e | e
    · rw [e]; exact ⟨by decide, by decide, by decide⟩
    · rw [e]; exact ⟨by decide, by decide, by decide⟩
  es := by decide
  up := by decide +kernel
  few := by decide
def odds : List VD := [.f .non, .l [.int 0, .int 1], .t [.int 0], .t [.int 0, .int 0], .t [.int 0, .int 1, .int 1], .t [.bl false, .int 1], .t [.int 0, .int 2], .t [], .t [.str "0", .int 1], .t [.int 0, .non], .f (.int 0), .t [.int 0, .bl true], .t [.int (-1), .int 0]]
theorem odds_no : ∀ v ∈ odds, v.ok ∧ ordP two v = false := by
  intro v hv
  have hb : odds.all (fun v => !ordP two v) = true := by decide +kernel
  refine ⟨?_, by simpa using List.all_eq_true.mp hb v hv⟩
  have hv : v = .f .non ∨ v = .l [.int 0, .int 1] ∨ v = .t [.int 0] ∨ v = .t [.int 0, .int 0] ∨ v = .t [.int 0, .int 1, .int 1] ∨ v = .t [.bl false, .int 1] ∨ v = .t [.int 0, .int 2] ∨ v = .t [] ∨ v = .t [.str "0", .int 1] ∨ v = .t [.int 0, .non] ∨ v = .f (.int 0) ∨ v = .t [.int 0, .bl true] ∨ v = .t [.int (-1), .int 0] := by simpa [odds] using hv
  have ft : ∀ xs : List V, xs.all flatV = true → xs.length ≤ 100 → VD.ok (.t xs) := fun xs a b => ⟨List.all_eq_true.mp a, b⟩
  rcases hv with e | e | e | e | e | e | e | e | e | e | e | e | e <;> rw [e] <;> first | exact rfl | exact ft _ rfl (by decide) | exact (by decide : (2 : Nat) ≤ 100)
theorem yes_two : ordP two (.t [.int 1, .int 0]) = true := by decide +kernel
section
variable {P : Program} {w : World} {K : PySem.W.Frag} {mg : Str → Option Value} {base : Heap} {ρ : Rho} {t : TA} {te tx : TE} {tt tu : TT} {E : XK} {Φ : Oc → Prop} {u : TS}
abbrev spLaw (K : PySem.W.Frag) : Sp := fun vs H Q _ => ∃ (p : Addr) (ns : List Int), vs = [.ref p] ∧ SqL K H p (ns.map V.int) ∧ ∀ H', Q (.bl true) H'
abbrev ρL : Rho := [.un, .s, .un, .un, .un, .un, .un, .un, .un, .un]
theorem law_go {D : Ends} {p q l : Addr} {ns : List Int} {H : Hp} (h : ES u ρL (fun o => o = .rt (B true))) (hl : H l = none) (hn : q ≠ l) (hq : H q = none) (k : ∀ H', D.rt (.bl true) H') :
    u D [some (.ref p), some (.ref q), none, none, none, none, none, none, none, none] (upd (upd H l (.lst (ns.map V.int))) q (.lst [.ref l, .int 0, .int 0])) := by
  have e1 : upd (upd H l (.lst (ns.map V.int))) q (.lst [.ref l, .int 0, .int 0]) q = some (.lst [.ref l, .int 0, .int 0]) := upd_same
  have e2 : upd (upd H l (.lst (ns.map V.int))) q (.lst [.ref l, .int 0, .int 0]) l = some (.lst (ns.map V.int)) := by rw [upd_ne hn.symm, upd_same]
  generalize upd (upd H l (.lst (ns.map V.int))) q (.lst [.ref l, .int 0, .int 0]) = H2 at e1 e2
  have dom : ∀ a, a = q → H2 a ≠ none := fun a z => by rw [z, e1]; exact fun z => nomatch z
  refine h ⟨H2, fun a => a = q, some (q, l, ns)⟩ (fun a => a = q) H2 _ D ⟨rfl, dom, fun a ha => .inl ha, fun a ha => ha, dom, fun a o _ e => e, fun q' l' ns' e => ?_, fun i d e => ?_, fun i ct e => ?_, fun i j ct cu a e => ?_, fun i e => ?_⟩ ⟨fun _ _ _ _ z => Oc.noConfusion z, fun d v H' e _ _ r => ?_, fun _ _ _ _ z => Oc.noConfusion z, fun _ _ _ _ z => Oc.noConfusion z⟩
  · cases e
    exact ⟨rfl, hn.symm, 0, 0, Int.le_refl _, Int.le_refl _, e1, e2⟩
  · match i, e with
    | 0, e | 1, e | 2, e | 3, e | 4, e | 5, e | 6, e | 7, e | 8, e | 9, e => cases e
  · match i, e with
    | 0, e | 1, e | 2, e | 3, e | 4, e | 5, e | 6, e | 7, e | 8, e | 9, e => cases e
  · match i, e with
    | 0, e | 1, e | 2, e | 3, e | 4, e | 5, e | 6, e | 7, e | 8, e | 9, e => cases e
  · match i, e with
    | 1, e => exact ⟨q, l, ns, rfl, rfl⟩
    | 0, e | 2, e | 3, e | 4, e | 5, e | 6, e | 7, e | 8, e | 9, e => cases e
  · cases e
    have r : v = .bl true := r
    rw [r]
    exact k H'
theorem ok_law {f : Addr} {fd : FuncData} (T : Txt K mg) (F : FnP K "law" s_law f fd) : FnOk P w K mg base CX0 7 f fd P_law (spLaw K) := by
  refine okRaw F sc_law (fun vs H Q E h => ?_) fun cdv A' outer s H E hr => ⟨_, (pss_cons (ps_set (i := 1) sc_law.nd rfl (Or.inl rfl) (pe_call (ok_l_stream T) (hr.mono (by decide)) rfl T.g_l_stream T.F_l_stream.kp T.bd_l_stream .nil pass0 (pa_cons (pv 0) pa_nil)))
    (pss_cons (ps_set (i := 2) sc_law.nd rfl (Or.inl rfl) (pe_call (ok_l_some_graph T) (hr.mono (by decide)) rfl T.g_l_some_graph T.F_l_some_graph.kp T.bd_l_some_graph .nil pass0 (pa_cons (pv 1) (pa_cons pe_int pa_nil))))
    (pss_cons (ps_set (i := 3) sc_law.nd rfl (Or.inl rfl) (pe_callB (call_lenA (K := K)) (by rfl) T.b_len bo_len (pa_cons (pe_ix (ix_any (K := K)) (pv 2) pe_int (fun _ _ => rfl)) pa_nil)))
    (pss_cons (ps_set (i := 4) sc_law.nd rfl (Or.inl rfl) (pe_lst pa_nil))
    (pss_cons (ps_for PassesOwn.never rfl (pi_list (pe_call (ok_l_orders T) (hr.mono (by decide)) rfl T.g_l_orders T.F_l_orders.kp T.bd_l_orders .nil pass0 (pa_cons (pv 3) pa_nil))) (pg_name (i := 5) sc_law.nd rfl (Or.inl rfl))
      (pss_cons (ps_set (i := 6) sc_law.nd rfl (Or.inl rfl) (pe_call (ok_l_is_order T) (hr.mono (by decide)) rfl T.g_l_is_order T.F_l_is_order.kp T.bd_l_is_order .nil pass0 (pa_cons (pv 2) (pa_cons (pv 5) pa_nil))))
      (pss_cons (ps_if (pt_not (pt_truth (pe_call (ok_l_equal T) (hr.mono (by decide)) rfl T.g_l_equal T.F_l_equal.kp T.bd_l_equal .nil pass0 (pa_cons (pe_call (ok_accepts_order T) (hr.mono (by decide)) rfl T.g_accepts_order T.F_accepts_order.kp T.bd_accepts_order .nil pass0 (pa_cons (pv 2) (pa_cons (pv 5) pa_nil))) (pa_cons (pv 6) pa_nil))) (by intro _; rfl)))
        (pss_one (ps_ret pe_bl))
        pss_nil)
      (pss_one (ps_if (pt_truth (pv 6) (by intro _; rfl))
        (pss_one (ps_expr (pe_bm PySem.F.plainAttrs_list PySem.F.slot_list_append PySem.F.type_list_append mt_append (pv 4) (pa_cons (pe_ix (ix_any (K := K)) (pv 5) pe_int (fun _ _ => rfl)) pa_nil))))
        pss_nil)))))
    (pss_cons (ps_set (i := 7) sc_law.nd rfl (Or.inl rfl) (pe_call (ok_l_is_junction T) (hr.mono (by decide)) rfl T.g_l_is_junction T.F_l_is_junction.kp T.bd_l_is_junction .nil pass0 (pa_cons (pv 2) pa_nil)))
    (pss_cons (ps_if (PW.pt (pw_or (pt_not (pt_truth (pe_call (ok_l_equal T) (hr.mono (by decide)) rfl T.g_l_equal T.F_l_equal.kp T.bd_l_equal .nil pass0 (pa_cons (pe_call (ok_is_junction_tree T) (hr.mono (by decide)) rfl T.g_is_junction_tree T.F_is_junction_tree.kp T.bd_is_junction_tree .nil pass0 (pa_cons (pv 2) pa_nil)) (pa_cons (pv 7) pa_nil))) (by intro _; rfl))) (pw_or1 (pt_cmpR (op_neA (K := K) hr.units) (pe_callB (cr_sortA (K := K) (w := w) rfl) (by rfl) T.b_sorted bo_sorted (pa_cons (pe_callTy (cr_setA (K := K) (w := w) rfl) (by rfl) T.b_set bo_set (pa_cons (pv 4) pa_nil)) pa_nil)) (pe_ifExp (pt_truth (pv 7) (by intro _; rfl)) (pe_listRg rfl rfl T.b_list (prg_1 rfl T.b_range (pv 3))) (pe_lst pa_nil)) (nomark _)))))
      (pss_one (ps_ret pe_bl))
      pss_nil)
    (pss_cons (ps_set (i := 8) sc_law.nd rfl (Or.inl rfl) (pe_tup (pa_cons pe_int (pa_cons (pe_tup (pa_cons (pe_tup (pa_cons pe_int pa_nil)) (pa_cons (pe_tup (pa_cons pe_int (pa_cons pe_int pa_nil))) pa_nil))) (pa_cons (pe_tup (pa_cons (pe_tup (pa_cons pe_int (pa_cons pe_int pa_nil))) pa_nil)) pa_nil)))))
    (pss_cons (ps_set (i := 9) sc_law.nd rfl (Or.inl rfl) (pe_lst (pa_cons pe_non (pa_cons (pe_lst (pa_cons pe_int (pa_cons pe_int pa_nil))) (pa_cons (pe_tup (pa_cons pe_int pa_nil)) (pa_cons (pe_tup (pa_cons pe_int (pa_cons pe_int pa_nil))) (pa_cons (pe_tup (pa_cons pe_int (pa_cons pe_int (pa_cons pe_int pa_nil)))) (pa_cons (pe_tup (pa_cons pe_bl (pa_cons pe_int pa_nil))) (pa_cons (pe_tup (pa_cons pe_int (pa_cons pe_int pa_nil))) (pa_cons (pe_tup pa_nil) (pa_cons (pe_tup (pa_cons pe_str (pa_cons pe_int pa_nil))) (pa_cons (pe_tup (pa_cons pe_int (pa_cons pe_non pa_nil))) (pa_cons pe_int (pa_cons (pe_tup (pa_cons pe_int (pa_cons pe_bl pa_nil))) (pa_cons (pe_tup (pa_cons (pe_un un_neg pe_int) (pa_cons pe_int pa_nil))) pa_nil)))))))))))))))
    (pss_cons (ps_if (pt_not (pt_truth (pe_call (ok_l_equal T) (hr.mono (by decide)) rfl T.g_l_equal T.F_l_equal.kp T.bd_l_equal .nil pass0 (pa_cons (pe_call (ok_accepts_order T) (hr.mono (by decide)) rfl T.g_accepts_order T.F_accepts_order.kp T.bd_accepts_order .nil pass0 (pa_cons (pv 8) (pa_cons (pe_ix (ix_any (K := K)) (pv 9) (pe_call (ok_l_next T) (hr.mono (by decide)) rfl T.g_l_next T.F_l_next.kp T.bd_l_next .nil pass0 (pa_cons (pv 1) (pa_cons pe_int pa_nil))) (fun _ _ => rfl)) pa_nil))) (pa_cons pe_bl pa_nil))) (by intro _; rfl)))
      (pss_one (ps_ret pe_bl))
      pss_nil)
    (pss_one (ps_ret (pe_call (ok_l_equal T) (hr.mono (by decide)) rfl T.g_l_equal T.F_l_equal.kp T.bd_l_equal .nil pass0 (pa_cons (pe_call (ok_accepts_order T) (hr.mono (by decide)) rfl T.g_accepts_order T.F_accepts_order.kp T.bd_accepts_order .nil pass0 (pa_cons (pv 8) (pa_cons (pe_tup (pa_cons pe_int (pa_cons pe_int pa_nil))) pa_nil))) (pa_cons pe_bl pa_nil))))))))))))))), fun vs Q h => ?_⟩
  · obtain ⟨p, ns, rfl, _⟩ := h
    rfl
  obtain ⟨p, ns, rfl, hs, hQ⟩ := h
  refine ⟨.ref p, rfl, p, ns, rfl, hs, fun l q hl hn hq => raw_set ?_⟩
  dsimp only
  show tSeq _ _ _ [some (.ref p), some (.ref q), none, none, none, none, none, none, none, none] _
  refine law_go ?_ hl hn hq hQ
  -- the graph
  refine q_asgE (clSG (m := 4) (by decide) rfl ev_c) fun d ⟨g, e, h, h4⟩ => ?_
  subst e
  have h4 : g.sc.length ≤ 4 := by omega
  have h1 := h.n1
  refine q_asg (ev_lenG (g := g) (ev_var rfl)) ?_
  refine q_own (A := fun ds => ds = []) (ef_lst el_nil fun ds e => by rw [e]; show 0 ≤ 100000; decide) fun ds e => ?_
  subst e
  let R : List Int → Rho := fun fs => [.un, .s, .d (gD g), .d (I g.sc.length), .o (.ls (zD fs)), .un, .un, .un, .un, .un]
  let fsts : List Int := ((ords g.sc.length).filter (ordL g)).map fun o => o.getD 0 0
  have few := ords_few h1 h4
  refine es_seq (Ψ := fun o => o = .nx (R fsts)) (es_for (src_list (f := scD) (xs := ords g.sc.length) (clOr (n := g.sc.length) (by omega) (el_cons (ev_var rfl) el_nil))) R (fun i fs => fs = (((ords g.sc.length).take i).filter (ordL g)).map fun o => o.getD 0 0) ⟨[], rfl, Wkn.refl⟩ (fun i o fs ho hI => ?_) fun fs hI => ?_) ?_
  · have hm := List.mem_of_getElem? ho
    obtain ⟨d1, d2, d3, d4⟩ := allD h h4 hm
    have efs : (((ords g.sc.length).take (i + 1)).filter (ordL g)).map (fun o => o.getD 0 0) = if ordL g o = true then fs ++ [o.getD 0 0] else fs := by
      rw [take_succ_get ho, List.filter_append, List.map_append, ← hI]
      by_cases hc : ordL g o = true
      · rw [if_pos hc, List.filter_cons_of_pos hc]; rfl
      · rw [if_neg hc, List.filter_cons_of_neg hc]; simp
    have lfs : fs.length ≤ 24 := by
      have h2 := List.length_filter_le (ordL g) ((ords g.sc.length).take i)
      have h3 : ((ords g.sc.length).take i).length ≤ (ords g.sc.length).length := by rw [List.length_take]; omega
      rw [hI, List.length_map]
      omega
    refine q_asg (d := B (ordL g o)) (clOL h (el_cons (ev_var rfl) (el_cons (ev_var rfl) el_nil))) ?_
    have ea : ∀ {ρ : Rho} {E : XK}, ρ[2]? = some (.d (gD g)) → ρ[5]? = some (.d (scD o)) → EV (tCall spIO [] E (tCons (tVar 2) (tCons (tVar 5) tNil))) ρ (B (ordL g o)) := fun a b => EV.is (clIO (v := .t (o.map V.int)) h ⟨fun x hx => by obtain ⟨z, _, rfl⟩ := List.mem_map.mp hx; rfl, d4⟩ (el_cons (ev_var a) (el_cons (EV.is (ev_var b) (congrArg D.t (zD_flats o))) el_nil))) (by rw [ord_eq h h4 hm])
    refine q_no (not1 (tru1 (EV.is (clEq (el_cons (ea rfl rfl) (el_cons (ev_var rfl) el_nil))) (by rw [decide_eq_true rfl])))) ?_
    refine s_if (b := ordL g o) (tru1 (ev_var rfl)) (fun hb => ?_) (fun hb => ?_)
    · refine es_app (P := fun d => d = I (o.getD 0 0)) (ds := zD fs) rfl (ev_op (ev_var (d := scD o) rfl) ev_c (rd_ixT (at_zD (x := 0) (by omega) (by omega)))) (by rw [zD_len]; omega) fun d hd => ?_
      subst hd
      refine ⟨fs ++ [o.getD 0 0], by rw [efs, if_pos hb], ?_⟩
      show Wkn _ [.un, .s, .d (gD g), .d (I g.sc.length), .o (.ls (zD (fs ++ [o.getD 0 0]))), .un, .un, .un, .un, .un]
      rw [← zD_1]
      exact wS (wS (wS (wS (wS (wU (wU (wS (wS (wS wN)))))))))
    · exact es_next ⟨fs, by rw [efs, if_neg (by rw [hb]; decide)], wS (wS (wS (wS (wS (wU (wU (wS (wS (wS wN)))))))))⟩
  · rw [hI, List.take_length]
  rintro oc rfl
  have lfs : fsts.length ≤ 24 := by
    have h2 := List.length_filter_le (ordL g) (ords g.sc.length)
    show (((ords g.sc.length).filter (ordL g)).map _).length ≤ 24
    rw [List.length_map]
    omega
  have efs : sset fsts = if treeL g = true then nds g else [] := firsts h h4
  generalize fsts = fs at lfs efs
  -- junction tree
  refine q_asg (d := B (treeL g)) (clJL h (el_cons (ev_var rfl) el_nil)) ?_
  refine q_no (ET.weak (or0 (not1 (tru1 (EV.is (clEq (el_cons (clT (okT_of h h4) (el_cons (ev_var rfl) el_nil)) (el_cons (ev_var rfl) el_nil))) (by rw [tree_eq h h4, decide_eq_true rfl])))) (eb_test (EV.is (ev_op (ev_sortset (ns := fs) (ev_var rfl) (by omega)) (ev_if (d := .l (zD (if treeL g = true then nds g else []))) (b := treeL g) (tru1 (ev_var rfl)) (fun hb => ?_) (fun hb => ?_)) rd_neL) (by rw [efs, decide_eq_true rfl]; rfl))))) ?_
  · rw [if_pos hb]
    exact ev_lstRg (ev_var rfl) (by omega)
  · rw [if_neg (by rw [hb]; decide)]
    exact ev_lst el_nil (by show 0 ≤ 100000; decide)
  -- odd values
  refine q_asg (d := gD two) (ev_tup (el_cons ev_c (el_cons (ev_tup (el_cons (ev_tup (el_cons ev_c el_nil)) (el_cons (ev_tup (el_cons ev_c (el_cons ev_c el_nil))) el_nil))) (el_cons (ev_tup (el_cons (ev_tup (el_cons ev_c (el_cons ev_c el_nil))) el_nil)) el_nil)))) ?_
  refine q_asg (d := .l (odds.map VD.d)) (ev_lst (el_cons ev_c (el_cons (ev_lst (el_cons ev_c (el_cons ev_c el_nil))) (el_cons (ev_tup (el_cons ev_c el_nil)) (el_cons (ev_tup (el_cons ev_c (el_cons ev_c el_nil))) (el_cons (ev_tup (el_cons ev_c (el_cons ev_c (el_cons ev_c el_nil)))) (el_cons (ev_tup (el_cons ev_c (el_cons ev_c el_nil))) (el_cons (ev_tup (el_cons ev_c (el_cons ev_c el_nil))) (el_cons (ev_tup el_nil) (el_cons (ev_tup (el_cons ev_c (el_cons ev_c el_nil))) (el_cons (ev_tup (el_cons ev_c (el_cons ev_c el_nil))) (el_cons ev_c (el_cons (ev_tup (el_cons ev_c (el_cons ev_c el_nil))) (el_cons (ev_tup (el_cons (ev_un ev_c ud_neg) (el_cons ev_c el_nil))) el_nil)))))))))))))) ?_
  refine q_no (not1 (tru1 (EV.is (clEq (a := false) (b := false) (el_cons (ee_callA (P := fun ds => ∃ v ∈ odds, ds = [gD two, v.d]) (ea_cons (A := fun ds => ∃ v ∈ odds, ds = [v.d]) (ev_var rfl) (ea_cons (P := fun d => ∃ v ∈ odds, d = v.d) (ee_op (P := fun d => d = .l (odds.map VD.d)) (ev_var rfl) (clNx (m := 13) (by decide) rfl ev_c) fun x y e ⟨i, e2, i0, i1⟩ => ?_) el_nil fun d ds ⟨v, hv, e⟩ e2 => ⟨v, hv, by rw [e, e2]⟩) fun d ds e ⟨v, hv, e2⟩ => ⟨v, hv, by rw [e, e2]⟩) fun ds ⟨v, hv, e⟩ => ⟨(two, v), ⟨wf_two, (odds_no v hv).1⟩, e.symm, fun d hd => by rw [hd, (odds_no v hv).2]⟩) (el_cons ev_c el_nil))) rfl))) ?_
  · have hl : odds.length = 13 := rfl
    have hg : odds[i.toNat]? = some (odds.getD i.toNat (.f .non)) := by
      rw [List.getD_eq_getElem?_getD, List.getElem?_eq_getElem (show i.toNat < odds.length by omega)] <;> rfl
    exact ⟨_, ⟨_, List.mem_of_getElem? hg, rfl⟩, by rw [e, e2]; exact rd_ixL (at_map (f := VD.d) i0 hg)⟩
  · exact s_ret (EV.is (clEq (a := true) (b := true) (el_cons (EV.is (clIO (v := .t [.int 1, .int 0]) wf_two ⟨List.all_eq_true.mp rfl, by decide⟩ (el_cons (ev_var rfl) (el_cons (ev_tup (el_cons ev_c (el_cons ev_c el_nil))) el_nil))) (by rw [yes_two])) (el_cons ev_c el_nil))) rfl) rfl
end
end TT

set_option maxRecDepth 100000
set_option maxHeartbeats 4100000
/-! Fin: the head, the whole -/
namespace TT
open PySem PySem.Spec PyProof.Rows
open L2
open Dl
theorem facts {K : PySem.W.Frag} {h : Heap} {mg : Str → Option Value} (X : K.In h) (G : h.Ns mainGlobals mg) (c : He.SaysD fa fn K) : Nonempty (Txt K mg) := by
  obtain ⟨d0, F0⟩ := c.def_ 0 (d := D_is_whole) rfl
  have b0 := FunD.bindsN (ps := P_is_whole) F0 fun _ _ _ _ _ _ us hl => match us, hl with | [_, _, _], _ => rfl
  obtain ⟨d1, F1⟩ := c.def_ 1 (d := D_is_climbing) rfl
  have b1 := FunD.bindsN (ps := P_is_climbing) F1 fun _ _ _ _ _ _ us hl => match us, hl with | [_], _ => rfl
  obtain ⟨d2, F2⟩ := c.def_ 2 (d := D_are_variables) rfl
  have b2 := FunD.bindsN (ps := P_are_variables) F2 fun _ _ _ _ _ _ us hl => match us, hl with | [_], _ => rfl
  obtain ⟨d3, F3⟩ := c.def_ 3 (d := D_is_scope) rfl
  have b3 := FunD.bindsN (ps := P_is_scope) F3 fun _ _ _ _ _ _ us hl => match us, hl with | [_], _ => rfl
  obtain ⟨d4, F4⟩ := c.def_ 4 (d := D_is_number) rfl
  have b4 := FunD.bindsN (ps := P_is_number) F4 fun _ _ _ _ _ _ us hl => match us, hl with | [_, _, _], _ => rfl
  obtain ⟨d5, F5⟩ := c.def_ 5 (d := D_is_edge) rfl
  have b5 := FunD.bindsN (ps := P_is_edge) F5 fun _ _ _ _ _ _ us hl => match us, hl with | [_, _], _ => rfl
  obtain ⟨d6, F6⟩ := c.def_ 6 (d := D_is_graph) rfl
  have b6 := FunD.bindsN (ps := P_is_graph) F6 fun _ _ _ _ _ _ us hl => match us, hl with | [_], _ => rfl
  obtain ⟨d7, F7⟩ := c.def_ 7 (d := D_variables_of) rfl
  have b7 := FunD.bindsN (ps := P_variables_of) F7 fun _ _ _ _ _ _ us hl => match us, hl with | [_], _ => rfl
  obtain ⟨d8, F8⟩ := c.def_ 8 (d := D_scope_of) rfl
  have b8 := FunD.bindsN (ps := P_scope_of) F8 fun _ _ _ _ _ _ us hl => match us, hl with | [_, _], _ => rfl
  obtain ⟨d9, F9⟩ := c.def_ 9 (d := D_check_graph) rfl
  have b9 := FunD.bindsN (ps := P_check_graph) F9 fun _ _ _ _ _ _ us hl => match us, hl with | [_], _ => rfl
  obtain ⟨d10, F10⟩ := c.def_ 10 (d := D_is_node) rfl
  have b10 := FunD.bindsN (ps := P_is_node) F10 fun _ _ _ _ _ _ us hl => match us, hl with | [_, _], _ => rfl
  obtain ⟨d11, F11⟩ := c.def_ 11 (d := D_neighbours) rfl
  have b11 := FunD.bindsN (ps := P_neighbours) F11 fun _ _ _ _ _ _ us hl => match us, hl with | [_, _], _ => rfl
  obtain ⟨d12, F12⟩ := c.def_ 12 (d := D_shared) rfl
  have b12 := FunD.bindsN (ps := P_shared) F12 fun _ _ _ _ _ _ us hl => match us, hl with | [_, _, _], _ => rfl
  obtain ⟨d13, F13⟩ := c.def_ 13 (d := D_hanging) rfl
  have b13 := FunD.bindsN (ps := P_hanging) F13 fun _ _ _ _ _ _ us hl => match us, hl with | [_, _, _], _ => rfl
  obtain ⟨d14, F14⟩ := c.def_ 14 (d := D_having) rfl
  have b14 := FunD.bindsN (ps := P_having) F14 fun _ _ _ _ _ _ us hl => match us, hl with | [_, _], _ => rfl
  obtain ⟨d15, F15⟩ := c.def_ 15 (d := D_has_cycle) rfl
  have b15 := FunD.bindsN (ps := P_has_cycle) F15 fun _ _ _ _ _ _ us hl => match us, hl with | [_], _ => rfl
  obtain ⟨d16, F16⟩ := c.def_ 16 (d := D_split_variable) rfl
  have b16 := FunD.bindsN (ps := P_split_variable) F16 fun _ _ _ _ _ _ us hl => match us, hl with | [_], _ => rfl
  obtain ⟨d17, F17⟩ := c.def_ 17 (d := D_is_tree_like) rfl
  have b17 := FunD.bindsN (ps := P_is_tree_like) F17 fun _ _ _ _ _ _ us hl => match us, hl with | [_], _ => rfl
  obtain ⟨d18, F18⟩ := c.def_ 18 (d := D_is_junction_tree) rfl
  have b18 := FunD.bindsN (ps := P_is_junction_tree) F18 fun _ _ _ _ _ _ us hl => match us, hl with | [_], _ => rfl
  obtain ⟨d19, F19⟩ := c.def_ 19 (d := D_are_nodes) rfl
  have b19 := FunD.bindsN (ps := P_are_nodes) F19 fun _ _ _ _ _ _ us hl => match us, hl with | [_, _], _ => rfl
  obtain ⟨d20, F20⟩ := c.def_ 20 (d := D_is_order) rfl
  have b20 := FunD.bindsN (ps := P_is_order) F20 fun _ _ _ _ _ _ us hl => match us, hl with | [_, _], _ => rfl
  obtain ⟨d21, F21⟩ := c.def_ 21 (d := D_accepts_order) rfl
  have b21 := FunD.bindsN (ps := P_accepts_order) F21 fun _ _ _ _ _ _ us hl => match us, hl with | [_, _], _ => rfl
  obtain ⟨d22, F22⟩ := c.def_ 22 (d := D_l_stream) rfl
  have b22 := FunD.bindsN (ps := P_l_stream) F22 fun _ _ _ _ _ _ us hl => match us, hl with | [_], _ => rfl
  obtain ⟨d23, F23⟩ := c.def_ 23 (d := D_l_next) rfl
  have b23 := FunD.bindsN (ps := P_l_next) F23 fun _ _ _ _ _ _ us hl => match us, hl with | [_, _], _ => rfl
  obtain ⟨d24, F24⟩ := c.def_ 24 (d := D_l_is_integer) rfl
  have b24 := FunD.bindsN (ps := P_l_is_integer) F24 fun _ _ _ _ _ _ us hl => match us, hl with | [_], _ => rfl
  obtain ⟨d25, F25⟩ := c.def_ 25 (d := D_l_equal) rfl
  have b25 := FunD.bindsN (ps := P_l_equal) F25 fun _ _ _ _ _ _ us hl => match us, hl with | [_, _], _ => rfl
  obtain ⟨d26, F26⟩ := c.def_ 26 (d := D_l_scope) rfl
  have b26 := FunD.bindsN (ps := P_l_scope) F26 fun _ _ _ _ _ _ us hl => match us, hl with | [_, _], _ => rfl
  obtain ⟨d27, F27⟩ := c.def_ 27 (d := D_l_any_graph) rfl
  have b27 := FunD.bindsN (ps := P_l_any_graph) F27 fun _ _ _ _ _ _ us hl => match us, hl with | [_, _], _ => rfl
  obtain ⟨d28, F28⟩ := c.def_ 28 (d := D_l_tree) rfl
  have b28 := FunD.bindsN (ps := P_l_tree) F28 fun _ _ _ _ _ _ us hl => match us, hl with | [_, _], _ => rfl
  obtain ⟨d29, F29⟩ := c.def_ 29 (d := D_l_some_graph) rfl
  have b29 := FunD.bindsN (ps := P_l_some_graph) F29 fun _ _ _ _ _ _ us hl => match us, hl with | [_, _], _ => rfl
  obtain ⟨d30, F30⟩ := c.def_ 30 (d := D_l_near) rfl
  have b30 := FunD.bindsN (ps := P_l_near) F30 fun _ _ _ _ _ _ us hl => match us, hl with | [_, _], _ => rfl
  obtain ⟨d31, F31⟩ := c.def_ 31 (d := D_l_hanging) rfl
  have b31 := FunD.bindsN (ps := P_l_hanging) F31 fun _ _ _ _ _ _ us hl => match us, hl with | [_, _, _], _ => rfl
  obtain ⟨d32, F32⟩ := c.def_ 32 (d := D_l_having) rfl
  have b32 := FunD.bindsN (ps := P_l_having) F32 fun _ _ _ _ _ _ us hl => match us, hl with | [_, _], _ => rfl
  obtain ⟨d33, F33⟩ := c.def_ 33 (d := D_l_variables) rfl
  have b33 := FunD.bindsN (ps := P_l_variables) F33 fun _ _ _ _ _ _ us hl => match us, hl with | [_], _ => rfl
  obtain ⟨d34, F34⟩ := c.def_ 34 (d := D_l_shared) rfl
  have b34 := FunD.bindsN (ps := P_l_shared) F34 fun _ _ _ _ _ _ us hl => match us, hl with | [_, _, _], _ => rfl
  obtain ⟨d35, F35⟩ := c.def_ 35 (d := D_l_ways) rfl
  have b35 := FunD.bindsN (ps := P_l_ways) F35 fun _ _ _ _ _ _ us hl => match us, hl with | [_, _, _], _ => rfl
  obtain ⟨d36, F36⟩ := c.def_ 36 (d := D_l_cycles) rfl
  have b36 := FunD.bindsN (ps := P_l_cycles) F36 fun _ _ _ _ _ _ us hl => match us, hl with | [_], _ => rfl
  obtain ⟨d37, F37⟩ := c.def_ 37 (d := D_l_is_junction) rfl
  have b37 := FunD.bindsN (ps := P_l_is_junction) F37 fun _ _ _ _ _ _ us hl => match us, hl with | [_], _ => rfl
  obtain ⟨d38, F38⟩ := c.def_ 38 (d := D_l_is_order) rfl
  have b38 := FunD.bindsN (ps := P_l_is_order) F38 fun _ _ _ _ _ _ us hl => match us, hl with | [_, _], _ => rfl
  obtain ⟨d39, F39⟩ := c.def_ 39 (d := D_l_orders) rfl
  have b39 := FunD.bindsN (ps := P_l_orders) F39 fun _ _ _ _ _ _ us hl => match us, hl with | [_], _ => rfl
  obtain ⟨t0, c0⟩ := He.int_ok X G (c.fact 41 (f := .int "MOST_VARIABLE" 5) rfl)
  obtain ⟨t1, c1⟩ := He.int_ok X G (c.fact 42 (f := .int "WIDEST_SCOPE" 3) rfl)
  obtain ⟨t2, c2⟩ := He.int_ok X G (c.fact 43 (f := .int "MOST_NODES" 5) rfl)
  exact ⟨{
    f_is_whole := _, d_is_whole := d0, F_is_whole := F0, g_is_whole := He.glo_ok X G (c.fact 0 (f := .glo "is_whole") rfl), bd_is_whole := b0,
    f_is_climbing := _, d_is_climbing := d1, F_is_climbing := F1, g_is_climbing := He.glo_ok X G (c.fact 1 (f := .glo "is_climbing") rfl), bd_is_climbing := b1,
    f_are_variables := _, d_are_variables := d2, F_are_variables := F2, g_are_variables := He.glo_ok X G (c.fact 2 (f := .glo "are_variables") rfl), bd_are_variables := b2,
    f_is_scope := _, d_is_scope := d3, F_is_scope := F3, g_is_scope := He.glo_ok X G (c.fact 3 (f := .glo "is_scope") rfl), bd_is_scope := b3,
    f_is_number := _, d_is_number := d4, F_is_number := F4, g_is_number := He.glo_ok X G (c.fact 4 (f := .glo "is_number") rfl), bd_is_number := b4,
    f_is_edge := _, d_is_edge := d5, F_is_edge := F5, g_is_edge := He.glo_ok X G (c.fact 5 (f := .glo "is_edge") rfl), bd_is_edge := b5,
    f_is_graph := _, d_is_graph := d6, F_is_graph := F6, g_is_graph := He.glo_ok X G (c.fact 6 (f := .glo "is_graph") rfl), bd_is_graph := b6,
    f_variables_of := _, d_variables_of := d7, F_variables_of := F7, g_variables_of := He.glo_ok X G (c.fact 7 (f := .glo "variables_of") rfl), bd_variables_of := b7,
    f_scope_of := _, d_scope_of := d8, F_scope_of := F8, g_scope_of := He.glo_ok X G (c.fact 8 (f := .glo "scope_of") rfl), bd_scope_of := b8,
    f_check_graph := _, d_check_graph := d9, F_check_graph := F9, g_check_graph := He.glo_ok X G (c.fact 9 (f := .glo "check_graph") rfl), bd_check_graph := b9,
    f_is_node := _, d_is_node := d10, F_is_node := F10, g_is_node := He.glo_ok X G (c.fact 10 (f := .glo "is_node") rfl), bd_is_node := b10,
    f_neighbours := _, d_neighbours := d11, F_neighbours := F11, g_neighbours := He.glo_ok X G (c.fact 11 (f := .glo "neighbours") rfl), bd_neighbours := b11,
    f_shared := _, d_shared := d12, F_shared := F12, g_shared := He.glo_ok X G (c.fact 12 (f := .glo "shared") rfl), bd_shared := b12,
    f_hanging := _, d_hanging := d13, F_hanging := F13, g_hanging := He.glo_ok X G (c.fact 13 (f := .glo "hanging") rfl), bd_hanging := b13,
    f_having := _, d_having := d14, F_having := F14, g_having := He.glo_ok X G (c.fact 14 (f := .glo "having") rfl), bd_having := b14,
    f_has_cycle := _, d_has_cycle := d15, F_has_cycle := F15, g_has_cycle := He.glo_ok X G (c.fact 15 (f := .glo "has_cycle") rfl), bd_has_cycle := b15,
    f_split_variable := _, d_split_variable := d16, F_split_variable := F16, g_split_variable := He.glo_ok X G (c.fact 16 (f := .glo "split_variable") rfl), bd_split_variable := b16,
    f_is_tree_like := _, d_is_tree_like := d17, F_is_tree_like := F17, g_is_tree_like := He.glo_ok X G (c.fact 17 (f := .glo "is_tree_like") rfl), bd_is_tree_like := b17,
    f_is_junction_tree := _, d_is_junction_tree := d18, F_is_junction_tree := F18, g_is_junction_tree := He.glo_ok X G (c.fact 18 (f := .glo "is_junction_tree") rfl), bd_is_junction_tree := b18,
    f_are_nodes := _, d_are_nodes := d19, F_are_nodes := F19, g_are_nodes := He.glo_ok X G (c.fact 19 (f := .glo "are_nodes") rfl), bd_are_nodes := b19,
    f_is_order := _, d_is_order := d20, F_is_order := F20, g_is_order := He.glo_ok X G (c.fact 20 (f := .glo "is_order") rfl), bd_is_order := b20,
    f_accepts_order := _, d_accepts_order := d21, F_accepts_order := F21, g_accepts_order := He.glo_ok X G (c.fact 21 (f := .glo "accepts_order") rfl), bd_accepts_order := b21,
    f_l_stream := _, d_l_stream := d22, F_l_stream := F22, g_l_stream := He.glo_ok X G (c.fact 22 (f := .glo "_law_stream") rfl), bd_l_stream := b22,
    f_l_next := _, d_l_next := d23, F_l_next := F23, g_l_next := He.glo_ok X G (c.fact 23 (f := .glo "_law_next") rfl), bd_l_next := b23,
    f_l_is_integer := _, d_l_is_integer := d24, F_l_is_integer := F24, g_l_is_integer := He.glo_ok X G (c.fact 24 (f := .glo "_law_is_integer") rfl), bd_l_is_integer := b24,
    f_l_equal := _, d_l_equal := d25, F_l_equal := F25, g_l_equal := He.glo_ok X G (c.fact 25 (f := .glo "_law_equal") rfl), bd_l_equal := b25,
    f_l_scope := _, d_l_scope := d26, F_l_scope := F26, g_l_scope := He.glo_ok X G (c.fact 26 (f := .glo "_law_scope") rfl), bd_l_scope := b26,
    f_l_any_graph := _, d_l_any_graph := d27, F_l_any_graph := F27, g_l_any_graph := He.glo_ok X G (c.fact 27 (f := .glo "_law_any_graph") rfl), bd_l_any_graph := b27,
    f_l_tree := _, d_l_tree := d28, F_l_tree := F28, g_l_tree := He.glo_ok X G (c.fact 28 (f := .glo "_law_tree") rfl), bd_l_tree := b28,
    f_l_some_graph := _, d_l_some_graph := d29, F_l_some_graph := F29, g_l_some_graph := He.glo_ok X G (c.fact 29 (f := .glo "_law_some_graph") rfl), bd_l_some_graph := b29,
    f_l_near := _, d_l_near := d30, F_l_near := F30, g_l_near := He.glo_ok X G (c.fact 30 (f := .glo "_law_near") rfl), bd_l_near := b30,
    f_l_hanging := _, d_l_hanging := d31, F_l_hanging := F31, g_l_hanging := He.glo_ok X G (c.fact 31 (f := .glo "_law_hanging") rfl), bd_l_hanging := b31,
    f_l_having := _, d_l_having := d32, F_l_having := F32, g_l_having := He.glo_ok X G (c.fact 32 (f := .glo "_law_having") rfl), bd_l_having := b32,
    f_l_variables := _, d_l_variables := d33, F_l_variables := F33, g_l_variables := He.glo_ok X G (c.fact 33 (f := .glo "_law_variables") rfl), bd_l_variables := b33,
    f_l_shared := _, d_l_shared := d34, F_l_shared := F34, g_l_shared := He.glo_ok X G (c.fact 34 (f := .glo "_law_shared") rfl), bd_l_shared := b34,
    f_l_ways := _, d_l_ways := d35, F_l_ways := F35, g_l_ways := He.glo_ok X G (c.fact 35 (f := .glo "_law_ways") rfl), bd_l_ways := b35,
    f_l_cycles := _, d_l_cycles := d36, F_l_cycles := F36, g_l_cycles := He.glo_ok X G (c.fact 36 (f := .glo "_law_cycles") rfl), bd_l_cycles := b36,
    f_l_is_junction := _, d_l_is_junction := d37, F_l_is_junction := F37, g_l_is_junction := He.glo_ok X G (c.fact 37 (f := .glo "_law_is_junction") rfl), bd_l_is_junction := b37,
    f_l_is_order := _, d_l_is_order := d38, F_l_is_order := F38, g_l_is_order := He.glo_ok X G (c.fact 38 (f := .glo "_law_is_order") rfl), bd_l_is_order := b38,
    f_l_orders := _, d_l_orders := d39, F_l_orders := F39, g_l_orders := He.glo_ok X G (c.fact 39 (f := .glo "_law_orders") rfl), bd_l_orders := b39,
    t_MOST_VARIABLE := t0, c_MOST_VARIABLE := c0,
    t_WIDEST_SCOPE := t1, c_WIDEST_SCOPE := c1,
    t_MOST_NODES := t2, c_MOST_NODES := c2,
    b_len := He.free_ok X G (c.fact 44 (f := .free "len") rfl),
    b_all := He.free_ok X G (c.fact 45 (f := .free "all") rfl),
    b_sorted := He.free_ok X G (c.fact 46 (f := .free "sorted") rfl),
    b_tuple := He.free_ok X G (c.fact 47 (f := .free "tuple") rfl),
    b_list := He.free_ok X G (c.fact 48 (f := .free "list") rfl),
    b_set := He.free_ok X G (c.fact 49 (f := .free "set") rfl),
    b_abs := He.free_ok X G (c.fact 50 (f := .free "abs") rfl),
    b_int := He.free_ok X G (c.fact 51 (f := .free "int") rfl),
    b_isinstance := He.free_ok X G (c.fact 52 (f := .free "isinstance") rfl),
    b_bool := He.free_ok X G (c.fact 53 (f := .free "bool") rfl),
    b_range := He.free_ok X G (c.fact 54 (f := .free "range") rfl),
    b_enumerate := He.free_ok X G (c.fact 55 (f := .free "enumerate") rfl),
    b_str := He.free_ok X G (c.fact 56 (f := .free "str") rfl)
  }⟩

abbrev R : PySem.W.OpenRow := PySem.W.OpenLaw.row PySem.Challenge.rw_tabletalk_k20_whole_any_order
abbrev hk : PySem.W.Hook := He.hookD 4 fa fn
def ob (s : PySem.W.SharedT) : He.AlD := He.obsDG 4 fa fn (HandSHeadRun.getT s)
theorem ob_eq (s : PySem.W.SharedT) : ob s = hk.obs s.abs := He.obsDG_eq (HandSHeadRun.getT_eq s)
theorem run (w : World) : HandSHeadRun.RunEq R (PySem.W.view R.prog [51]) hk ob 2000 names w := by
  intro os
  kernel_rfl
theorem facts_law {P : Program} {w : World} {K : PySem.W.Frag} {h : Heap} {mg : Str → Option Value} {f : Addr} (X : K.In h) (G : h.Ns mainGlobals mg) (hfa : mg ("law" : Str) = some (.ref f)) (c : He.SaysD fa fn K) :
    ∃ fd : FuncData, (∀ (s : Shared) (v : Value), BindsTo s fd ⟨[v], []⟩ [("_law_script", v)]) ∧ ∀ base : Heap, K.In base → base.Ns mainGlobals mg → FnOk P w K mg base CX0 7 f fd P_law (spLaw K) := by
  obtain ⟨T⟩ := facts X G c
  obtain ⟨fd, F⟩ := c.def_ 40 (d := D_law) rfl
  have e := hfa.symm.trans (He.glo_ok X G (c.fact 40 (f := .glo "law") rfl))
  cases e
  have b := FunD.bindsA (ps := P_law) F fun _ _ _ _ _ _ us hl => match us, hl with | [_], _ => rfl
  exact ⟨fd, fun s v => b s [v] rfl, fun base _ _ => ok_law T F⟩
end TT
open PySem PySem.W PySem.Calls PyProof.Rows
theorem PySem.Challenge.cw_tabletalk_k20_whole_any_order_holds : PySem.Challenge.rw_tabletalk_k20_whole_any_order.Holds := by
  w_on; o_law
  refine HandSHeadRun.head_any (r := OpenLaw.row PySem.Challenge.rw_tabletalk_k20_whole_any_order) (q := view (OpenLaw.row PySem.Challenge.rw_tabletalk_k20_whole_any_order).prog [51]) (H := TT.hk) (ob := TT.ob) (M := 2000) (loose := TT.names) (d := HandSHeadRun.topDef (OpenLaw.row PySem.Challenge.rw_tabletalk_k20_whole_any_order).prog 51) (kwd := []) TT.ob_eq
    (by kernel_rfl) (fun s => by kernel_rfl) TT.run (by kernel_rfl) (by kernel_rfl) (by kernel_rfl) (by rfl) (by first | assumption | decide +kernel) (by decide +kernel) ⟨rfl, rfl, rfl, rfl, rfl, by decide +kernel⟩ ?hw ?hc
  case hw => w_witness2
  case hc =>
    refine L2.walk_ofE (l := PySem.Challenge.rw_tabletalk_k20_whole_any_order) (n := 63) (k := 7) (x := "_law_script") (CX := L2.CX0) rfl (by decide) (by kernel_rfl) ⟨rfl, by decide, by decide⟩ ?F (fun _ _ _ _ z => z)
    intro w mg fa h Y G hmg0
    obtain ⟨K, KX, c⟩ := Y
    have hmg : mg ("law" : PySem.Str) = some (.ref fa) := by
      have e : (HandSHeadRun.topDef (OpenLaw.row PySem.Challenge.rw_tabletalk_k20_whole_any_order).prog 51).name = ("law" : PySem.Str) := by kernel_rfl
      rw [← e]
      exact hmg0
    obtain ⟨fd, hb, hF⟩ := TT.facts_law (P := (PySem.Challenge.rw_tabletalk_k20_whole_any_order).prog) (w := w) KX G hmg c
    exact ⟨K, fd, TT.spLaw K, KX, hb, fun H a ns hl _ hS => ⟨a, ns, rfl, hS, fun _ => rfl⟩, hF⟩

